/- Own texts of this claim, joined. No conditions. -/
import Derived.Test.YtjhhifdfgeccoaaGreatRows
import Derived.Laws.RangeAny
import Derived.Laws.Bits64b
import Derived.Maps.RangeRun
import Derived.Test.YtjhhifdfgeccoaaGreatHTopTurneda
set_option linter.unusedVariables false
set_option linter.unusedSimpArgs false
set_option maxRecDepth 20000
namespace Go.Proofs
open Go.Proofs.Tryz
open Go.Rt
attribute [local irreducible] WL WC Con Yd At Ats Sl Agree DW

theorem zB4 : Tryz.prog.follows .mixedOrders = true := by kernel_rfl
theorem c13 {w0 w : World} {F : List (Nat × Obj)} (n lo hi : Int) (hs : St w0 w F) : Con Tryz.prog 13 [.int .i64 n, .int .i64 lo, .int .i64 hi] w fun v w' => v = .bool (decide (lo ≤ n ∧ n ≤ hi)) ∧ St w0 w' F := by
  refine zAo (n := 15) func13 rfl rfl (zNl rfl) ?_
  refine zAf (fun K2 g3 => (zAb (zBi rfl rfl (zAd (zAc (g3 _ _ (zAf (fun K4 g0 => (zAb (zA6 rfl rfl (zA6 rfl rfl (w_p (zGw rfl rfl rfl rfl) rfl ?_))))))))))))
  refine w_p (zAt rfl rfl) rfl (zB5 (fun h5 => ?_) (fun h5 => ?_))
  ·
   try simp only [zS] at h5
   refine w_y rfl rfl rfl (zAy rfl rfl) rfl ?_
   refine w_y rfl rfl rfl (zAy rfl rfl) rfl ?_
   refine w_y rfl rfl rfl (zFc rfl rfl rfl rfl) rfl ?_
   refine w_p (zA5 (v := .bool _) rfl rfl rfl rfl) rfl (w_p (zAs rfl rfl) rfl (zAd (zAc (g0 _ _ (zA8 (zBa (l := [.tmp 6]) (vs := [_]) rfl ⟨⟨rfl, (rfl : _ = Value.bool _)⟩, trivial⟩ ?_))))))
   exact ⟨congrArg Value.bool (by rw [Bool.eq_iff_iff]; simp [*] <;> omega), hs⟩
  try simp only [zS] at h5
  refine zAm rfl rfl rfl ?_
  refine zAm rfl rfl rfl ?_
  refine zAm rfl rfl rfl ?_
  refine w_p (zBg (v := _) rfl rfl rfl rfl) rfl (w_p (zAs rfl rfl) rfl (zAd (zAc (g0 _ _ (zA8 (zBa (l := [.tmp 6]) (vs := [_]) rfl ⟨⟨rfl, (rfl : _ = Value.bool _)⟩, trivial⟩ ?_))))))
  exact ⟨congrArg Value.bool (by rw [Bool.eq_iff_iff]; simp [*] <;> omega), hs⟩

theorem c47 {w0 w : World} {F : List (Nat × Obj)} (a b lo hi : Int) (hs : St w0 w F) : Con Tryz.prog 47 [.agg #[.int .i64 a, .int .i64 b], .int .i64 lo, .int .i64 hi] w fun v w' => v = .int .i64 (ends a b lo hi) ∧ St w0 w' F := by
  refine zAo (n := 26) func47 rfl rfl (zNl rfl) ?_
  refine zAf (fun K2 g9 => (zAb (zCj (v := .agg #[.int _ _, .int _ _]) (cs := [_,_]) zAa rfl rfl rfl hs (fun b3 w4 g7 => ?_))))
  refine zBi rfl rfl (zAd (zAc (g9 _ _ (zAf (fun K7 ga => (zAf (fun K9 g8 => (zAb (w_p (zAe (o := 0) (i := 0) underlying36 rfl sizeOf3 rfl rfl rfl) rfl ?_)))))))))
  refine w_p (zAg isAgg3 g7 rfl rfl (aow 0 [_])) rfl (zA6 rfl rfl (zA6 rfl rfl ?_))
  refine zCo zAa call13 rfl rfl rfl rfl (c13 _ _ _ g7) (fun gi g3 => ?_)
  refine w_p (zDo rfl rfl) rfl (w_p (zAt rfl rfl) rfl (zB5 (fun g4 => ?_) (fun g4 => ?_)))
  ·
   try simp only [zS] at g4
   refine zAm rfl rfl rfl ?_
   refine zAm rfl rfl rfl ?_
   refine zAm rfl rfl rfl ?_
   refine zAm rfl rfl rfl ?_
   refine zAm rfl rfl rfl ?_
   refine zAm rfl rfl rfl ?_
   refine w_p (zA5 (v := _) rfl rfl rfl rfl) rfl (zAd (zAc (g8 _ _ (zDb rfl rfl ?_))))
   refine zAf (fun gj gc => (zAb (zBi rfl rfl (zAd (zAc (gc _ _ (zA8 (zAl (zBa (l := [.tmp 6]) (vs := [_]) rfl ⟨⟨rfl, (rfl : _ = Value.int _ _)⟩, trivial⟩ ?_)))))))))
   exact ⟨congrArg (Value.int .i64) (by simp only [ends, out, Bool.or_eq_true, decide_eq_true_eq]; (repeat' split) <;> omega), g3.tail⟩
  try simp only [zS] at g4
  refine w_y rfl rfl rfl (zAe (o := 1) (i := 1) underlying36 rfl sizeOf3 rfl rfl rfl) rfl ?_
  refine w_y rfl rfl rfl (zAg isAgg3 g3 rfl rfl (aow 0 [_])) rfl ?_
  refine w_y rfl rfl rfl (zAy rfl rfl) rfl ?_
  refine w_y rfl rfl rfl (zAy rfl rfl) rfl ?_
  refine zA4 (zAh rfl rfl rfl) call13 rfl rfl rfl rfl (c13 _ _ _ g3) ?_
  rintro _ gk ⟨rfl, g0⟩
  refine w_y rfl rfl rfl (zDo rfl rfl) rfl ?_
  refine w_p (zBg (v := .bool _) rfl rfl rfl rfl) rfl (zAd (zAc (g8 _ _ (zAr rfl rfl (fun g5 => ?_) (fun g5 => ?_)))))
  ·
   try simp only [zS] at g5
   refine zAf (fun gm gd => (zAb (zBi rfl rfl (zAd (zAc (gd _ _ (zA8 (zAl (zBa (l := [.tmp 6]) (vs := [_]) rfl ⟨⟨rfl, (rfl : _ = Value.int _ _)⟩, trivial⟩ ?_)))))))))
   exact ⟨congrArg (Value.int .i64) (by simp only [ends, out, Bool.or_eq_true, decide_eq_true_eq]; (repeat' split) <;> omega), g0.tail⟩
  try simp only [zS] at g5
  refine zAn (zAc (ga _ _ (zAf (fun gn ge => (zAf (fun go gf => (zAb (w_p (zAe (o := 1) (i := 1) underlying36 rfl sizeOf3 rfl rfl rfl) rfl (w_p (zAg isAgg3 g0 rfl rfl (aow 0 [_])) rfl ?_)))))))))
  refine w_p (zAe (o := 0) (i := 0) underlying36 rfl sizeOf3 rfl rfl rfl) rfl (w_p (zAg isAgg3 g0 rfl rfl (aow 0 [_])) rfl (w_p (zCp rfl rfl rfl rfl) rfl (zAd ?_)))
  refine zAc (gf _ _ (zAr rfl rfl (fun g6 => ?_) (fun g6 => ?_)))
  ·
   try simp only [zS] at g6
   refine zAf (fun gp gg => (zAb (zBi rfl rfl (zAd (zAc (gg _ _ (zA8 (zAl (zBa (l := [.tmp 6]) (vs := [_]) rfl ⟨⟨rfl, (rfl : _ = Value.int _ _)⟩, trivial⟩ ?_)))))))))
   exact ⟨congrArg (Value.int .i64) (by simp only [ends, out, Bool.or_eq_true, decide_eq_true_eq]; (repeat' split) <;> omega), g0.tail⟩
  try simp only [zS] at g6
  refine zAn (zAc (ge _ _ (zAf (fun gq gh => (zAb (zBi rfl rfl (zAd (zAc (gh _ _ (zA8 (zBa (l := [.tmp 6]) (vs := [_]) rfl ⟨⟨rfl, (rfl : _ = Value.int _ _)⟩, trivial⟩ ?_)))))))))))
  exact ⟨congrArg (Value.int .i64) (by simp only [ends, out, Bool.or_eq_true, decide_eq_true_eq]; (repeat' split) <;> omega), g0.tail⟩

theorem less_at (a b : List Int) (i : Nat) (h : a.take i = b.take i) (ha : i ≤ a.length) (hb : i ≤ b.length) : less a b = less (a.drop i) (b.drop i) := by
  induction i generalizing a b with
  | zero => rfl
  | succ i ih =>
    cases a with
    | nil => simp at ha
    | cons x a =>
      cases b with
      | nil => simp at hb
      | cons y b =>
        simp only [List.take_succ_cons, List.cons.injEq] at h
        obtain ⟨rfl, h⟩ := h
        simp only [less, if_true, List.drop_succ_cons]
        exact ih a b h (by simpa using ha) (by simpa using hb)
theorem zIt {a b : List Int} {i : Nat} (h : a.take i = b.take i) (ha : i < a.length) (hb : i < b.length) (e : a[i] = b[i]) : a.take (i + 1) = b.take (i + 1) := by
  rw [List.take_succ_eq_append_getElem ha, List.take_succ_eq_append_getElem hb, h, e]
theorem zD8 {a b : List Int} {i : Nat} (h : a.take i = b.take i) (ha : i ≤ a.length) (hb : i = b.length) : less a b = false := by
  rw [less_at a b i h ha (by omega), hb, List.drop_length]
  cases a.drop b.length <;> rfl
theorem zDd {a b : List Int} {i : Nat} (h : a.take i = b.take i) (ha : i = a.length) (hb : i < b.length) : less a b = true := by
  rw [less_at a b i h (by omega) (by omega), ha, List.drop_length]
  have : b.drop a.length = b[a.length] :: b.drop (a.length + 1) := List.drop_eq_getElem_cons (by omega)
  rw [this]; rfl
theorem zEc {a b : List Int} {i : Nat} (h : a.take i = b.take i) (ha : i < a.length) (hb : i < b.length) (hne : a[i] ≠ b[i]) : less a b = decide (a[i] < b[i]) := by
  rw [less_at a b i h (by omega) (by omega), List.drop_eq_getElem_cons ha, List.drop_eq_getElem_cons hb]
  simp only [less]
  rw [if_neg hne]
theorem zCx {w0 : World} {F : List (Nat × Obj)} {a : Option Addr} {l : List Int} {i : Nat} (h : Sl w0 F a 1 (l.map fun x => [Value.int .i64 x])) (hi : i < l.length) :
    ∃ b off, a = some ⟨b, off, none⟩ ∧ Ats w0 F b (off + i * 1) [.int .i64 l[i]] := by
  obtain ⟨b, off, ha, _, hat⟩ := h.at (i := i) (row := [.int .i64 l[i]]) (by simp [hi])
  exact ⟨b, off, ha, hat⟩
theorem c65 {w0 w : World} {F : List (Nat × Obj)} (aa ab : Option Addr) (a b : List Int) (ca cb : Nat) (hla : a.length ≤ 9223372036854775807) (ha : Sl w0 F aa 1 (a.map fun x => [Value.int .i64 x])) (hb : Sl w0 F ab 1 (b.map fun x => [Value.int .i64 x])) (hs : St w0 w F) :
  Con Tryz.prog 65 [.slice aa a.length ca, .slice ab b.length cb] w fun v w' => v = .bool (less a b) ∧ St w0 w' F := by
  refine zAo (n := 48) func65 rfl rfl (zNl rfl) ?_
  refine zAf (fun K2 gm => (zAb (zBi rfl rfl (zAd (zAc (gm _ _ (zAf (fun K4 gn => (zAb (zBi rfl rfl (zAd (zAc (gn _ _ (zAf (fun K6 g6 => (zAq ?_))))))))))))))))
  refine zB6 [5,6,7,8,9,10,11,12,13,14,15,16,17,18,19,20,21,22,23,24,25,26,27,28] [5] (fun k vs w => ∃ i : Nat, vs = [.int .i64 i] ∧ i ≤ a.length ∧ i ≤ b.length ∧ k = a.length - i ∧ a.take i = b.take i ∧ St w0 w F) (a.length) ?_ ?_
  ·
   exact ⟨0, rfl, by omega, by omega, by omega, rfl, hs⟩
  intro k vs μ w9 hI K8 go
  obtain ⟨i, rfl, hia, hib, rfl, hpre, hs⟩ := hI
  refine zAf (fun gB gp => (zAf (fun gC g7 => (zCq [] [(0,0),(1,0),(2,0),(3,0),(4,0),(5,0),(6,0),(7,0),(8,0),(9,0),(10,0),(11,0),(12,0),(13,0),(14,1),(15,0),(16,0),(17,0),(18,1),(19,0),(20,0)] zB4 (by kernel_rfl) hs (fun gD g0 => ?_)))))
  refine d_w rfl (fun _ => zAy rfl rfl) rfl (d_w rfl (fun _ => zAx rfl rfl) rfl (d_w rfl (fun _ => zBc underlying22 rfl rfl) rfl (d_w rfl (fun _ => zCp rfl rfl rfl rfl) rfl (d_w rfl (fun _ => zAt rfl rfl) rfl ?_))))
  refine zC6 (fun g8 => ?_) (fun g8 => ?_)
  ·
   try simp only [zS] at g8
   refine zBe rfl (zAh rfl rfl rfl) rfl (fun _ => (zAy rfl rfl)) ?_
   refine zBe rfl (zAh rfl rfl rfl) rfl (fun _ => (zAx rfl rfl)) ?_
   refine zBe rfl (zAh rfl rfl rfl) rfl (fun _ => (zBc underlying22 rfl rfl)) ?_
   refine zBe rfl (zAh rfl rfl rfl) rfl (fun _ => (zCp rfl rfl rfl rfl)) ?_
   refine d_w rfl (fun _ => zA5 (v := .bool _) rfl rfl rfl rfl) rfl (d_w rfl (fun _ => zAt rfl rfl) rfl ?_)
   refine zC6 (fun g9 => ?_) (fun g9 => ?_)
   ·
    try simp only [zS] at g9
    refine zBe rfl (zAh rfl rfl rfl) rfl (fun _ => (zAx rfl rfl)) ?_
    refine zBe rfl (zAh rfl rfl rfl) rfl (fun _ => (zAy rfl rfl)) ?_
    have hia2 : i < a.length := by omega
    have hib2 : i < b.length := by omega
    obtain ⟨ba, oa, rfl, hxa⟩ := zCx ha hia2
    obtain ⟨bb, ob, rfl, hxb⟩ := zCx hb hib2
    refine zBe rfl (zAh rfl rfl rfl) rfl (fun _ => (zA7 underlying22 sizeOf3 rfl rfl rfl rfl (i := _) rfl (by omega))) ?_
    refine zAz rfl (zAh rfl rfl rfl) rfl g0 (fun _ hq => (zAg isAgg3 hq rfl rfl hxa)) ?_
    refine zBe rfl (zAh rfl rfl rfl) rfl (fun _ => (zAx rfl rfl)) ?_
    refine zBe rfl (zAh rfl rfl rfl) rfl (fun _ => (zAy rfl rfl)) ?_
    refine zBe rfl (zAh rfl rfl rfl) rfl (fun _ => (zA7 underlying22 sizeOf3 rfl rfl rfl rfl (i := _) rfl (by omega))) ?_
    refine zAz rfl (zAh rfl rfl rfl) rfl g0 (fun _ hq => (zAg isAgg3 hq rfl rfl hxb)) ?_
    refine zBe rfl (zAh rfl rfl rfl) rfl (fun _ => (zCa rfl rfl rfl rfl)) ?_
    refine d_w rfl (fun _ => zA5 (v := .bool _) rfl rfl rfl rfl) rfl ?_
    refine zBm ?_
    refine zAc (g7 _ _ (zAr rfl rfl (fun ga => ?_) (fun ga => ?_)))
    ·
     try simp only [zS] at ga
     refine zAn (zAc (gp _ _ (zAq ?_)))
     refine zAb (zA6 rfl rfl (w_p (zBo rfl rfl rfl rfl (by omega) (by omega)) rfl (zBw rfl rfl (zAd (zAi (zAc (go _ _ (nxI (a.length - (i + 1)) (by omega) ?_))))))))
     exact ⟨i + 1, rfl, by omega, by omega, rfl, zIt hpre (by omega) (by omega) (by assumption), g0⟩
    try simp only [zS] at ga
    refine zBt (zAj (zAj (zAv (zAc (g6 _ _ (zAf (fun gE gq => (zAf (fun gF gt => (zAb (zA6 rfl rfl (w_p (zAx rfl rfl) rfl ?_))))))))))))
    refine w_p (zBc underlying22 rfl rfl) rfl (w_p (zCa rfl rfl rfl rfl) rfl (zAd (zAc (gt _ _ (zAr rfl rfl (fun gc => ?_) (fun gc => ?_))))))
    ·
     try simp only [zS] at gc
     refine zAf (fun gG gu => (zAb (zBi rfl rfl (zAd (zAc (gu _ _ (zA8 (zAl (zBa (l := [.tmp 4]) (vs := [_]) rfl ⟨⟨rfl, (rfl : _ = Value.bool _)⟩, trivial⟩ ?_)))))))))
     exact ⟨(by first | (rw [zD8 hpre hia (by omega)]; rfl) | (rw [zDd hpre (by omega) (by omega)]; rfl) | (rw [zEc hpre (by omega) (by omega) (by first | assumption | omega)]; rfl)), g0⟩
    try simp only [zS] at gc
    refine zAn (zAc (gq _ _ (zAf (fun gH gi => (zCq [] [(0,0),(1,0),(2,0),(3,0),(4,0),(5,0),(6,0),(7,0),(8,1),(9,0),(10,0),(11,0),(12,1),(13,0),(14,0),(15,0)] zB4 (by kernel_rfl) g0 (fun gI g3 => ?_))))))
    refine d_w rfl (fun _ => zAy rfl rfl) rfl (d_w rfl (fun _ => zAx rfl rfl) rfl (d_w rfl (fun _ => zBc underlying22 rfl rfl) rfl (d_w rfl (fun _ => zCa rfl rfl rfl rfl) rfl (d_w rfl (fun _ => zAt rfl rfl) rfl ?_))))
    refine zC6 (fun gd => ?_) (fun gd => ?_)
    ·
     try simp only [zS] at gd
     refine zBl rfl rfl rfl rfl ?_
     refine zBl rfl rfl rfl rfl ?_
     refine zBl rfl rfl rfl rfl ?_
     refine zCb rfl rfl rfl rfl g3 ?_
     refine zBl rfl rfl rfl rfl ?_
     refine zBl rfl rfl rfl rfl ?_
     refine zBl rfl rfl rfl rfl ?_
     refine zCb rfl rfl rfl rfl g3 ?_
     refine zBl rfl rfl rfl rfl ?_
     refine d_w rfl (fun _ => zA5 (v := _) rfl rfl rfl rfl) rfl (d_w rfl (fun _ => zAs rfl rfl) rfl ?_)
     refine zBm ?_
     refine zAc (gi _ _ (zA8 (zBa (l := [.tmp 4]) (vs := [_]) rfl ⟨⟨rfl, (rfl : _ = Value.bool _)⟩, trivial⟩ ?_)))
     exact ⟨(by first | (rw [zD8 hpre hia (by omega)]; rfl) | (rw [zDd hpre (by omega) (by omega)]; rfl) | (rw [zEc hpre (by omega) (by omega) (by first | assumption | omega)]; rfl)), g3⟩
    try simp only [zS] at gd
    refine zBe rfl (zAh rfl rfl rfl) rfl (fun _ => (zAx rfl rfl)) ?_
    refine zBe rfl (zAh rfl rfl rfl) rfl (fun _ => (zAy rfl rfl)) ?_
    refine zBe rfl (zAh rfl rfl rfl) rfl (fun _ => (zA7 underlying22 sizeOf3 rfl rfl rfl rfl (i := _) rfl (by omega))) ?_
    refine zAz rfl (zAh rfl rfl rfl) rfl g3 (fun _ hq => (zAg isAgg3 hq rfl rfl hxa)) ?_
    refine zBe rfl (zAh rfl rfl rfl) rfl (fun _ => (zAx rfl rfl)) ?_
    refine zBe rfl (zAh rfl rfl rfl) rfl (fun _ => (zAy rfl rfl)) ?_
    refine zBe rfl (zAh rfl rfl rfl) rfl (fun _ => (zA7 underlying22 sizeOf3 rfl rfl rfl rfl (i := _) rfl (by omega))) ?_
    refine zAz rfl (zAh rfl rfl rfl) rfl g3 (fun _ hq => (zAg isAgg3 hq rfl rfl hxb)) ?_
    refine zBe rfl (zAh rfl rfl rfl) rfl (fun _ => (zCp rfl rfl rfl rfl)) ?_
    refine d_w rfl (fun _ => zBg (v := .bool _) rfl rfl rfl rfl) rfl (d_w rfl (fun _ => zAs rfl rfl) rfl ?_)
    refine zBm ?_
    refine zAc (gi _ _ (zA8 (zBa (l := [.tmp 4]) (vs := [_]) rfl ⟨⟨rfl, (rfl : _ = Value.bool _)⟩, trivial⟩ ?_)))
    exact ⟨(by first | (rw [zD8 hpre hia (by omega)]; rfl) | (rw [zDd hpre (by omega) (by omega)]; rfl) | (rw [zEc hpre (by omega) (by omega) (by first | assumption | omega)]; rfl)), g3⟩
   try simp only [zS] at g9
   refine zBl rfl rfl rfl rfl ?_
   refine zBl rfl rfl rfl rfl ?_
   refine zBl rfl rfl rfl rfl ?_
   refine zCb rfl rfl rfl rfl g0 ?_
   refine zBl rfl rfl rfl rfl ?_
   refine zBl rfl rfl rfl rfl ?_
   refine zBl rfl rfl rfl rfl ?_
   refine zCb rfl rfl rfl rfl g0 ?_
   refine zBl rfl rfl rfl rfl ?_
   refine d_w rfl (fun _ => zBg (v := _) rfl rfl rfl rfl) rfl ?_
   refine zBm ?_
   refine zAc (g7 _ _ (zBs rfl rfl ?_))
   refine zBt (zAj (zAj (zAv (zAc (g6 _ _ (zAf (fun gJ gv => (zAf (fun gK gw => (zAb (zA6 rfl rfl (w_p (zAx rfl rfl) rfl ?_))))))))))))
   refine w_p (zBc underlying22 rfl rfl) rfl (w_p (zCa rfl rfl rfl rfl) rfl (zAd (zAc (gw _ _ (zAr rfl rfl (fun ge => ?_) (fun ge => ?_))))))
   ·
    try simp only [zS] at ge
    refine zAf (fun gL gx => (zAb (zBi rfl rfl (zAd (zAc (gx _ _ (zA8 (zAl (zBa (l := [.tmp 4]) (vs := [_]) rfl ⟨⟨rfl, (rfl : _ = Value.bool _)⟩, trivial⟩ ?_)))))))))
    exact ⟨(by first | (rw [zD8 hpre hia (by omega)]; rfl) | (rw [zDd hpre (by omega) (by omega)]; rfl) | (rw [zEc hpre (by omega) (by omega) (by first | assumption | omega)]; rfl)), g0⟩
   try simp only [zS] at ge
   refine zAn (zAc (gv _ _ (zAf (fun gM gj => (zCq [] [(0,0),(1,0),(2,0),(3,0),(4,0),(5,0),(6,0),(7,0),(8,1),(9,0),(10,0),(11,0),(12,1),(13,0),(14,0),(15,0)] zB4 (by kernel_rfl) g0 (fun gN g4 => ?_))))))
   refine d_w rfl (fun _ => zAy rfl rfl) rfl (d_w rfl (fun _ => zAx rfl rfl) rfl (d_w rfl (fun _ => zBc underlying22 rfl rfl) rfl (d_w rfl (fun _ => zCa rfl rfl rfl rfl) rfl (d_w rfl (fun _ => zAt rfl rfl) rfl ?_))))
   refine zC6 (fun gf => ?_) (fun gf => ?_)
   ·
    try simp only [zS] at gf
    refine zBl rfl rfl rfl rfl ?_
    refine zBl rfl rfl rfl rfl ?_
    refine zBl rfl rfl rfl rfl ?_
    refine zCb rfl rfl rfl rfl g4 ?_
    refine zBl rfl rfl rfl rfl ?_
    refine zBl rfl rfl rfl rfl ?_
    refine zBl rfl rfl rfl rfl ?_
    refine zCb rfl rfl rfl rfl g4 ?_
    refine zBl rfl rfl rfl rfl ?_
    refine d_w rfl (fun _ => zA5 (v := _) rfl rfl rfl rfl) rfl (d_w rfl (fun _ => zAs rfl rfl) rfl ?_)
    refine zBm ?_
    refine zAc (gj _ _ (zA8 (zBa (l := [.tmp 4]) (vs := [_]) rfl ⟨⟨rfl, (rfl : _ = Value.bool _)⟩, trivial⟩ ?_)))
    exact ⟨(by first | (rw [zD8 hpre hia (by omega)]; rfl) | (rw [zDd hpre (by omega) (by omega)]; rfl) | (rw [zEc hpre (by omega) (by omega) (by first | assumption | omega)]; rfl)), g4⟩
   try simp only [zS] at gf
   refine zBe rfl (zAh rfl rfl rfl) rfl (fun _ => (zAx rfl rfl)) ?_
   refine zBe rfl (zAh rfl rfl rfl) rfl (fun _ => (zAy rfl rfl)) ?_
   have hia2 : i < a.length := by omega
   have hib2 : i < b.length := by omega
   obtain ⟨ba, oa, rfl, hxa⟩ := zCx ha hia2
   obtain ⟨bb, ob, rfl, hxb⟩ := zCx hb hib2
   refine zBe rfl (zAh rfl rfl rfl) rfl (fun _ => (zA7 underlying22 sizeOf3 rfl rfl rfl rfl (i := _) rfl (by omega))) ?_
   refine zAz rfl (zAh rfl rfl rfl) rfl g4 (fun _ hq => (zAg isAgg3 hq rfl rfl hxa)) ?_
   refine zBe rfl (zAh rfl rfl rfl) rfl (fun _ => (zAx rfl rfl)) ?_
   refine zBe rfl (zAh rfl rfl rfl) rfl (fun _ => (zAy rfl rfl)) ?_
   refine zBe rfl (zAh rfl rfl rfl) rfl (fun _ => (zA7 underlying22 sizeOf3 rfl rfl rfl rfl (i := _) rfl (by omega))) ?_
   refine zAz rfl (zAh rfl rfl rfl) rfl g4 (fun _ hq => (zAg isAgg3 hq rfl rfl hxb)) ?_
   refine zBe rfl (zAh rfl rfl rfl) rfl (fun _ => (zCp rfl rfl rfl rfl)) ?_
   refine d_w rfl (fun _ => zBg (v := .bool _) rfl rfl rfl rfl) rfl (d_w rfl (fun _ => zAs rfl rfl) rfl ?_)
   refine zBm ?_
   refine zAc (gj _ _ (zA8 (zBa (l := [.tmp 4]) (vs := [_]) rfl ⟨⟨rfl, (rfl : _ = Value.bool _)⟩, trivial⟩ ?_)))
   exact ⟨(by first | (rw [zD8 hpre hia (by omega)]; rfl) | (rw [zDd hpre (by omega) (by omega)]; rfl) | (rw [zEc hpre (by omega) (by omega) (by first | assumption | omega)]; rfl)), g4⟩
  try simp only [zS] at g8
  refine zBl rfl rfl rfl rfl ?_
  refine zBl rfl rfl rfl rfl ?_
  refine zBl rfl rfl rfl rfl ?_
  refine zBl rfl rfl rfl rfl ?_
  refine d_w rfl (fun _ => zBg (v := _) rfl rfl rfl rfl) rfl (d_w rfl (fun _ => zAt rfl rfl) rfl ?_)
  refine zBl rfl rfl rfl rfl ?_
  refine zBl rfl rfl rfl rfl ?_
  refine zBl rfl rfl rfl rfl ?_
  refine zCb rfl rfl rfl rfl g0 ?_
  refine zBl rfl rfl rfl rfl ?_
  refine zBl rfl rfl rfl rfl ?_
  refine zBl rfl rfl rfl rfl ?_
  refine zCb rfl rfl rfl rfl g0 ?_
  refine zBl rfl rfl rfl rfl ?_
  refine d_w rfl (fun _ => zBg (v := _) rfl rfl rfl rfl) rfl ?_
  refine zBm ?_
  refine zAc (g7 _ _ (zBs rfl rfl ?_))
  refine zBt (zAj (zAj (zAv (zAc (g6 _ _ (zAf (fun gO gy => (zAf (fun gP gz => (zAb (zA6 rfl rfl (w_p (zAx rfl rfl) rfl ?_))))))))))))
  refine w_p (zBc underlying22 rfl rfl) rfl (w_p (zCa rfl rfl rfl rfl) rfl (zAd (zAc (gz _ _ (zAr rfl rfl (fun gg => ?_) (fun gg => ?_))))))
  ·
   try simp only [zS] at gg
   refine zAf (fun gQ gA => (zAb (zBi rfl rfl (zAd (zAc (gA _ _ (zA8 (zAl (zBa (l := [.tmp 4]) (vs := [_]) rfl ⟨⟨rfl, (rfl : _ = Value.bool _)⟩, trivial⟩ ?_)))))))))
   exact ⟨(by first | (rw [zD8 hpre hia (by omega)]; rfl) | (rw [zDd hpre (by omega) (by omega)]; rfl) | (rw [zEc hpre (by omega) (by omega) (by first | assumption | omega)]; rfl)), g0⟩
  try simp only [zS] at gg
  refine zAn (zAc (gy _ _ (zAf (fun gR gk => (zCq [] [(0,0),(1,0),(2,0),(3,0),(4,0),(5,0),(6,0),(7,0),(8,1),(9,0),(10,0),(11,0),(12,1),(13,0),(14,0),(15,0)] zB4 (by kernel_rfl) g0 (fun gS g5 => ?_))))))
  refine d_w rfl (fun _ => zAy rfl rfl) rfl (d_w rfl (fun _ => zAx rfl rfl) rfl (d_w rfl (fun _ => zBc underlying22 rfl rfl) rfl (d_w rfl (fun _ => zCa rfl rfl rfl rfl) rfl (d_w rfl (fun _ => zAt rfl rfl) rfl ?_))))
  refine zC6 (fun gh => ?_) (fun gh => ?_)
  ·
   try simp only [zS] at gh
   refine zBl rfl rfl rfl rfl ?_
   refine zBl rfl rfl rfl rfl ?_
   refine zBl rfl rfl rfl rfl ?_
   refine zCb rfl rfl rfl rfl g5 ?_
   refine zBl rfl rfl rfl rfl ?_
   refine zBl rfl rfl rfl rfl ?_
   refine zBl rfl rfl rfl rfl ?_
   refine zCb rfl rfl rfl rfl g5 ?_
   refine zBl rfl rfl rfl rfl ?_
   refine d_w rfl (fun _ => zA5 (v := _) rfl rfl rfl rfl) rfl (d_w rfl (fun _ => zAs rfl rfl) rfl ?_)
   refine zBm ?_
   refine zAc (gk _ _ (zA8 (zBa (l := [.tmp 4]) (vs := [_]) rfl ⟨⟨rfl, (rfl : _ = Value.bool _)⟩, trivial⟩ ?_)))
   exact ⟨(by first | (rw [zD8 hpre hia (by omega)]; rfl) | (rw [zDd hpre (by omega) (by omega)]; rfl) | (rw [zEc hpre (by omega) (by omega) (by first | assumption | omega)]; rfl)), g5⟩
  try simp only [zS] at gh
  refine zBe rfl (zAh rfl rfl rfl) rfl (fun _ => (zAx rfl rfl)) ?_
  refine zBe rfl (zAh rfl rfl rfl) rfl (fun _ => (zAy rfl rfl)) ?_
  have hia2 : i < a.length := by omega
  have hib2 : i < b.length := by omega
  obtain ⟨ba, oa, rfl, hxa⟩ := zCx ha hia2
  obtain ⟨bb, ob, rfl, hxb⟩ := zCx hb hib2
  refine zBe rfl (zAh rfl rfl rfl) rfl (fun _ => (zA7 underlying22 sizeOf3 rfl rfl rfl rfl (i := _) rfl (by omega))) ?_
  refine zAz rfl (zAh rfl rfl rfl) rfl g5 (fun _ hq => (zAg isAgg3 hq rfl rfl hxa)) ?_
  refine zBe rfl (zAh rfl rfl rfl) rfl (fun _ => (zAx rfl rfl)) ?_
  refine zBe rfl (zAh rfl rfl rfl) rfl (fun _ => (zAy rfl rfl)) ?_
  refine zBe rfl (zAh rfl rfl rfl) rfl (fun _ => (zA7 underlying22 sizeOf3 rfl rfl rfl rfl (i := _) rfl (by omega))) ?_
  refine zAz rfl (zAh rfl rfl rfl) rfl g5 (fun _ hq => (zAg isAgg3 hq rfl rfl hxb)) ?_
  refine zBe rfl (zAh rfl rfl rfl) rfl (fun _ => (zCp rfl rfl rfl rfl)) ?_
  refine d_w rfl (fun _ => zBg (v := .bool _) rfl rfl rfl rfl) rfl (d_w rfl (fun _ => zAs rfl rfl) rfl ?_)
  refine zBm ?_
  refine zAc (gk _ _ (zA8 (zBa (l := [.tmp 4]) (vs := [_]) rfl ⟨⟨rfl, (rfl : _ = Value.bool _)⟩, trivial⟩ ?_)))
  exact ⟨(by first | (rw [zD8 hpre hia (by omega)]; rfl) | (rw [zDd hpre (by omega) (by omega)]; rfl) | (rw [zEc hpre (by omega) (by omega) (by first | assumption | omega)]; rfl)), g5⟩

theorem c27 {w0 w : World} {F : List (Nat × Obj)} (aa ab : Option Addr) (a b : List Int) (ca cb : Nat) (hla : a.length ≤ 9223372036854775807) (ha : Sl w0 F aa 1 (a.map fun x => [Value.int .i64 x])) (hb : Sl w0 F ab 1 (b.map fun x => [Value.int .i64 x])) (hs : St w0 w F) :
  Con Tryz.prog 27 [.slice aa a.length ca, .slice ab b.length cb] w fun v w' => v = .bool (decide (a = b)) ∧ St w0 w' F := by
  refine zAo (n := 22) func27 rfl rfl (zNl rfl) ?_
  refine zAf (fun K2 g4 => (zAb (zBi rfl rfl (zAd (zAc (g4 _ _ (zAf (fun K4 g0 => (zAb (w_p (zAx rfl rfl) rfl (w_p (zBc underlying22 rfl rfl) rfl ?_)))))))))))
  refine w_p (zAx rfl rfl) rfl (w_p (zBc underlying22 rfl rfl) rfl (w_p (zCa rfl rfl rfl rfl) rfl (w_p (zAt rfl rfl) rfl (zB5 (fun h5 => ?_) (fun h5 => ?_)))))
  ·
   try simp only [zS] at h5
   refine w_y rfl rfl rfl (zAx rfl rfl) rfl ?_
   refine w_y rfl rfl rfl (zAx rfl rfl) rfl ?_
   refine zA4 (zAh rfl rfl rfl) call65 rfl rfl rfl rfl (c65 _ _ _ _ _ _ (by omega) (by assumption) (by assumption) hs) ?_
   rintro _ w7 ⟨rfl, g3⟩
   refine w_y rfl rfl rfl (zDo rfl rfl) rfl ?_
   refine w_p (zA5 (v := .bool _) rfl rfl rfl rfl) rfl (w_p (zAt rfl rfl) rfl (zB5 (fun h9 => ?_) (fun h9 => ?_)))
   ·
    try simp only [zS] at h9
    refine w_y rfl rfl rfl (zAx rfl rfl) rfl ?_
    refine w_y rfl rfl rfl (zAx rfl rfl) rfl ?_
    refine zA4 (zAh rfl rfl rfl) call65 rfl rfl rfl rfl (c65 _ _ _ _ _ _ (by omega) (by assumption) (by assumption) g3) ?_
    rintro _ g6 ⟨rfl, g5⟩
    refine w_y rfl rfl rfl (zDo rfl rfl) rfl ?_
    refine w_p (zA5 (v := .bool _) rfl rfl rfl rfl) rfl (w_p (zAs rfl rfl) rfl (zAd (zAc (g0 _ _ (zA8 (zBa (l := [.tmp 4]) (vs := [_]) rfl ⟨⟨rfl, (rfl : _ = Value.bool _)⟩, trivial⟩ ?_))))))
    exact ⟨congrArg Value.bool (by rw [← ints_eq, Bool.eq_iff_iff]; simp [*] <;> omega), g5⟩
   try simp only [zS] at h9
   refine zAm rfl rfl rfl ?_
   refine zAm rfl rfl rfl ?_
   refine zAm rfl rfl rfl ?_
   refine zAm rfl rfl rfl ?_
   refine w_p (zBg (v := _) rfl rfl rfl rfl) rfl (w_p (zAs rfl rfl) rfl (zAd (zAc (g0 _ _ (zA8 (zBa (l := [.tmp 4]) (vs := [_]) rfl ⟨⟨rfl, (rfl : _ = Value.bool _)⟩, trivial⟩ ?_))))))
   exact ⟨congrArg Value.bool (by rw [← ints_eq, Bool.eq_iff_iff]; simp [*] <;> omega), g3⟩
  try simp only [zS] at h5
  refine zAm rfl rfl rfl ?_
  refine zAm rfl rfl rfl ?_
  refine zAm rfl rfl rfl ?_
  refine zAm rfl rfl rfl ?_
  refine w_p (zBg (v := _) rfl rfl rfl rfl) rfl (w_p (zAt rfl rfl) rfl (zAm rfl rfl rfl ?_))
  refine zAm rfl rfl rfl ?_
  refine zAm rfl rfl rfl ?_
  refine zAm rfl rfl rfl ?_
  refine w_p (zBg (v := _) rfl rfl rfl rfl) rfl (w_p (zAs rfl rfl) rfl (zAd (zAc (g0 _ _ (zA8 (zBa (l := [.tmp 4]) (vs := [_]) rfl ⟨⟨rfl, (rfl : _ = Value.bool _)⟩, trivial⟩ ?_))))))
  exact ⟨congrArg Value.bool (by rw [← ints_eq, Bool.eq_iff_iff]; simp [*] <;> omega), hs⟩

theorem nmBytes_snoc (l : List UInt8) (c : UInt8) : ∀ f, nmBytes f (l ++ [c]) = (nmBytes f l && nmByte (f && l.isEmpty) c) := by
  induction l with
  | nil => intro f; simp [nmBytes]
  | cons x l ih => intro f; simp only [List.cons_append, nmBytes, ih]; simp [Bool.and_assoc]
theorem zFn (s : ByteArray) (i : Nat) (h : i < s.size) : nmBytes true (s.data.toList.take (i + 1)) = (nmBytes true (s.data.toList.take i) && nmByte (decide (i = 0)) s[i]) := by
  rw [List.take_succ_eq_append_getElem (by simpa using h), nmBytes_snoc]
  have e : (true && (s.data.toList.take i).isEmpty) = decide (i = 0) := by
    rw [Bool.eq_iff_iff]
    cases i with
    | zero => simp
    | succ i =>
      have : s.data.toList ≠ [] := by intro e; simp at e; have h2 : s.size = 0 := by rw [ByteArray.size, e]; rfl
                                      omega
      simp [this]
  rw [e]; rfl
theorem bp (x y : Bool) (k : IntKind) (a b : Int) (h1 : x = y) (h2 : a = b) : [Value.bool x, Value.int k a] = [Value.bool y, Value.int k b] := by rw [h1, h2]
theorem any_take {l : List Int} {p : Int → Bool} {i : Nat} (h : (l.take i).any p = false) (hi : i < l.length) (hp : p l[i] = false) : (l.take (i + 1)).any p = false := by
  rw [List.take_succ_eq_append_getElem hi, List.any_append, h]; simp [hp]
theorem c117 {w0 w : World} {F : List (Nat × Obj)} (aa : Option Addr) (l : List Int) (ca : Nat) (hla : l.length ≤ 9223372036854775807) (ha : Sl w0 F aa 1 (l.map fun x => [Value.int .i64 x])) {fk : FuncId} (hC : CF Tryz.prog fk) (first captured : Array Value) (p : Int → Bool)
    (hp : ∀ x ∈ l, ∀ w, St w0 w F → Con Tryz.prog fk (first.toList ++ ([.int .i64 x] ++ captured.toList)) w fun v w' => v = .bool (p x) ∧ St w0 w' F) (hs : St w0 w F) :
  Con Tryz.prog 117 [.slice aa l.length ca, .func (.func fk) first captured] w fun v w' => (∃ z, v = .int .i64 z ∧ decide (0 ≤ z) = l.any p) ∧ St w0 w' F := by
  refine zAo (n := 19) func117 rfl rfl (zNl rfl) ?_
  refine zAf (fun K2 g5 => (zAb (zBi rfl rfl (zAd (zAc (g5 _ _ (zAf (fun K4 g6 => (zAf (fun K6 g7 => (zAb (w_p (zAx rfl rfl) rfl ?_))))))))))))
  refine w_p (zBc underlying22 rfl rfl) rfl (w_p (zBy (v := _) rfl rfl) rfl (zAd (zAc (g7 _ _ (zAq ?_)))))
  refine zB6 [4,5,8,9,10,11,12,13,14,15,16,17,18] [8] (fun k vs w => ∃ i : Nat, vs = [.int .i64 i] ∧ i ≤ l.length ∧ k = l.length - i ∧ (l.take i).any p = false ∧ St w0 w F) (l.length) ?_ ?_
  ·
   exact ⟨0, rfl, by omega, by omega, by simp, hs⟩
  intro k vs μ w9 hI K8 g8
  obtain ⟨i, rfl, hia, rfl, hpre, hs⟩ := hI
  refine zAf (fun gh g9 => (zAb (w_p (zCp rfl rfl rfl rfl) rfl (zAd (zAc (g9 _ _ (zAf (fun gi ga => (zAr rfl rfl (fun g0 => ?_) (fun g0 => ?_))))))))))
  ·
   try simp only [zS] at g0
   refine zAn (zAc (ga _ _ (zAf (fun gj gc => (zAq ?_)))))
   refine zAf (fun gk gd => (zAb (zA6 rfl rfl (zBw rfl rfl (zAd (zAc (gd _ _ (zAf (fun gm ge => ?_)))))))))
   have hi2 : i < l.length := by omega
   obtain ⟨ba, oa, rfl, hxa⟩ := zCx ha hi2
   refine zAb (w_p (zBy (v := .func _ _ _) rfl rfl) rfl (w_p (zAx rfl rfl) rfl (zA6 rfl rfl (w_p (zA7 underlying22 sizeOf3 rfl rfl rfl rfl (i := _) rfl (by omega)) rfl (w_p (zAg isAgg3 hs rfl rfl hxa) rfl ?_)))))
   refine zCo zAa hC rfl rfl rfl rfl (hp _ (List.getElem_mem hi2) _ hs) (fun gn g3 => ?_)
   refine zAd (zAc (ge _ _ (zAr rfl rfl (fun g4 => ?_) (fun g4 => ?_))))
   ·
    try simp only [zS] at g4
    refine zAf (fun go gf => (zAb (zA6 rfl rfl (zBw rfl rfl (zAd (zAc (gf _ _ (zA8 (zA9 (zAl (zAl (zA9 (zAl (zBa (l := [.tmp 4]) (vs := [_]) rfl ⟨⟨rfl, (rfl : _ = Value.int _ _)⟩, trivial⟩ ?_))))))))))))))
    first
      | exact ⟨⟨-1, rfl, by have hil : i = l.length := (by omega); subst hil; rw [List.take_length] at hpre; rw [hpre]; rfl⟩, g3⟩
      | exact ⟨⟨(i : Int), rfl, by rw [Bool.eq_iff_iff]; simp only [decide_eq_true_eq, List.any_eq_true]; exact ⟨fun _ => ⟨_, List.getElem_mem hi2, by assumption⟩, fun _ => by omega⟩⟩, g3⟩
   try simp only [zS] at g4
   refine zAn (zAi (zAc (gc _ _ (zAb (w_p (zBo rfl rfl rfl rfl (by omega) (by omega)) rfl (zA6 rfl rfl (zAd (zAc (g8 _ _ (nxI (l.length - (i + 1)) (by omega) ?_))))))))))
   exact ⟨i + 1, rfl, by omega, rfl, any_take hpre (by omega) (by assumption), g3⟩
  try simp only [zS] at g0
  refine zBt (zAj (zAj (zAv (zAc (g6 _ _ (zAf (fun gp gg => (zAb (zBi rfl rfl (zAd (zAc (gg _ _ (zA8 (zBa (l := [.tmp 4]) (vs := [_]) rfl ⟨⟨rfl, (rfl : _ = Value.int _ _)⟩, trivial⟩ ?_))))))))))))))
  first
    | exact ⟨⟨-1, rfl, by have hil : i = l.length := (by omega); subst hil; rw [List.take_length] at hpre; rw [hpre]; rfl⟩, hs⟩
    | exact ⟨⟨(i : Int), rfl, by rw [Bool.eq_iff_iff]; simp only [decide_eq_true_eq, List.any_eq_true]; exact ⟨fun _ => ⟨_, List.getElem_mem hi2, by assumption⟩, fun _ => by omega⟩⟩, hs⟩

theorem c91 {w0 w : World} {F : List (Nat × Obj)} (aa : Option Addr) (l : List Int) (ca : Nat) (hla : l.length ≤ 9223372036854775807) (ha : Sl w0 F aa 1 (l.map fun x => [Value.int .i64 x])) {fk : FuncId} (hC : CF Tryz.prog fk) (first captured : Array Value) (p : Int → Bool)
    (hp : ∀ x ∈ l, ∀ w, St w0 w F → Con Tryz.prog fk (first.toList ++ ([.int .i64 x] ++ captured.toList)) w fun v w' => v = .bool (p x) ∧ St w0 w' F) (hs : St w0 w F) :
  Con Tryz.prog 91 [.slice aa l.length ca, .func (.func fk) first captured] w fun v w' => v = .bool (l.any p) ∧ St w0 w' F := by
  refine zAo (n := 9) func91 rfl rfl (zNl rfl) ?_
  refine zAf (fun K2 g0 => (zAb (zBi rfl rfl (zAd (zAc (g0 _ _ (zAf (fun K4 g3 => (zAb (w_p (zAx rfl rfl) rfl (w_p (zBy (v := .func _ _ _) rfl rfl) rfl ?_)))))))))))
  refine zA4 zAa call117 rfl rfl rfl rfl (c117 _ _ _ hla ha hC _ _ p hp hs) ?_
  rintro _ w6 ⟨⟨z, rfl, hz⟩, g4⟩
  refine w_p (zGw rfl rfl rfl rfl) rfl (w_p (zAs rfl rfl) rfl (zAd (zAc (g3 _ _ (zA8 (zBa (l := [.tmp 4]) (vs := [_]) rfl ⟨⟨rfl, (rfl : _ = Value.bool _)⟩, trivial⟩ ?_))))))
  exact ⟨congrArg Value.bool hz, g4⟩

theorem c128 {w0 w : World} {F : List (Nat × Obj)} (n lo hi : Int) (b1 b2 : Nat) (h1 : Ats w0 F b1 0 [.int .i64 lo]) (h2 : Ats w0 F b2 0 [.int .i64 hi]) (hs : St w0 w F) :
  Con Tryz.prog 128 [.int .i64 n, .pointer (some ⟨b1,0, none⟩), .pointer (some ⟨b2,0, none⟩)] w fun v w' => v = .bool (out lo hi n) ∧ St w0 w' F := by
  refine zAo (n := 13) func128 rfl rfl (zNl rfl) ?_
  refine zAf (fun K2 g3 => (zAb (zBi rfl rfl (zAd (zAc (g3 _ _ (zAf (fun K4 g0 => (zAb (zA6 rfl rfl (w_p (zAg isAgg3 hs rfl rfl h1) rfl ?_)))))))))))
  refine w_p (zCp rfl rfl rfl rfl) rfl (w_p (zAt rfl rfl) rfl (zB5 (fun h5 => ?_) (fun h5 => ?_)))
  ·
   try simp only [zS] at h5
   refine zAm rfl rfl rfl ?_
   refine zAm rfl rfl rfl ?_
   refine zAm rfl rfl rfl ?_
   refine w_p (zA5 (v := _) rfl rfl rfl rfl) rfl (w_p (zAs rfl rfl) rfl (zAd (zAc (g0 _ _ (zA8 (zBa (l := [.tmp 4]) (vs := [_]) rfl ⟨⟨rfl, (rfl : _ = Value.bool _)⟩, trivial⟩ ?_))))))
   exact ⟨congrArg Value.bool (by rw [Bool.eq_iff_iff]; simp [out, *] <;> omega), hs⟩
  try simp only [zS] at h5
  refine w_y rfl rfl rfl (zAy rfl rfl) rfl ?_
  refine w_y rfl rfl rfl (zAg isAgg3 hs rfl rfl h2) rfl ?_
  refine w_y rfl rfl rfl (zEf rfl rfl rfl rfl) rfl ?_
  refine w_p (zBg (v := .bool _) rfl rfl rfl rfl) rfl (w_p (zAs rfl rfl) rfl (zAd (zAc (g0 _ _ (zA8 (zBa (l := [.tmp 4]) (vs := [_]) rfl ⟨⟨rfl, (rfl : _ = Value.bool _)⟩, trivial⟩ ?_))))))
  exact ⟨congrArg Value.bool (by rw [Bool.eq_iff_iff]; simp [out, *] <;> omega), hs⟩

theorem c118 {w0 w : World} {F : List (Nat × Obj)} (lo hi : Int) (aa : Option Addr) (l : List Int) (ca : Nat) (hla : l.length ≤ 9223372036854775807) (ha : Sl w0 F aa 1 (l.map fun x => [Value.int .i64 x])) (hs : St w0 w F) :
  Con Tryz.prog 118 [.int .i64 lo, .int .i64 hi, .slice aa l.length ca] w fun v w' => v = .bool (l.any (out lo hi)) ∧ St w0 w' F := by
  refine zAo (n := 10) func118 rfl rfl (zNl rfl) ?_
  refine zAf (fun K2 g0 => (zAb (zCj (v := .int _ _) (cs := [_]) zAa rfl rfl rfl hs (fun b3 w4 g3 => ?_))))
  refine zCj (v := .int _ _) (cs := [_]) zAa rfl rfl rfl g3 (fun b6 w7 g4 => ?_)
  refine zBi rfl rfl (zAd (zAc (g0 _ _ (zAf (fun g7 g5 => (zAb (w_p (zAx rfl rfl) rfl (w_p (zCc (fv := []) (cv := [_,_]) rfl rfl rfl rfl) rfl ?_))))))))
  refine zCo zAa call91 rfl rfl rfl rfl (c91 _ _ _ hla ha.cons.cons call128 _ _ (out lo hi) (fun x _ w hs => c128 _ _ _ _ _ (aow 1 [_]) (aow 0 [_]) hs) g4) (fun g8 g6 => ?_)
  refine w_p (zAs rfl rfl) rfl (zAd (zAc (g5 _ _ (zA8 (zBa (l := [.tmp 6]) (vs := [_]) rfl ⟨⟨rfl, (rfl : _ = Value.bool _)⟩, trivial⟩ ?_)))))
  exact ⟨rfl, g6.tail.tail⟩

theorem c111 {w0 w : World} {F : List (Nat × Obj)} (n lo hi : Int) (b1 b2 : Nat) (h1 : Ats w0 F b1 0 [.int .i64 lo]) (h2 : Ats w0 F b2 0 [.int .i64 hi]) (hs : St w0 w F) :
  Con Tryz.prog 111 [.int .i64 n, .pointer (some ⟨b1,0, none⟩), .pointer (some ⟨b2,0, none⟩)] w fun v w' => v = .bool (out lo hi n) ∧ St w0 w' F := by
  refine zAo (n := 13) func111 rfl rfl (zNl rfl) ?_
  refine zAf (fun K2 g3 => (zAb (zBi rfl rfl (zAd (zAc (g3 _ _ (zAf (fun K4 g0 => (zAb (zA6 rfl rfl (w_p (zAg isAgg3 hs rfl rfl h1) rfl ?_)))))))))))
  refine w_p (zCp rfl rfl rfl rfl) rfl (w_p (zAt rfl rfl) rfl (zB5 (fun h5 => ?_) (fun h5 => ?_)))
  ·
   try simp only [zS] at h5
   refine zAm rfl rfl rfl ?_
   refine zAm rfl rfl rfl ?_
   refine zAm rfl rfl rfl ?_
   refine w_p (zA5 (v := _) rfl rfl rfl rfl) rfl (w_p (zAs rfl rfl) rfl (zAd (zAc (g0 _ _ (zA8 (zBa (l := [.tmp 4]) (vs := [_]) rfl ⟨⟨rfl, (rfl : _ = Value.bool _)⟩, trivial⟩ ?_))))))
   exact ⟨congrArg Value.bool (by rw [Bool.eq_iff_iff]; simp [out, *] <;> omega), hs⟩
  try simp only [zS] at h5
  refine w_y rfl rfl rfl (zAy rfl rfl) rfl ?_
  refine w_y rfl rfl rfl (zAg isAgg3 hs rfl rfl h2) rfl ?_
  refine w_y rfl rfl rfl (zEf rfl rfl rfl rfl) rfl ?_
  refine w_p (zBg (v := .bool _) rfl rfl rfl rfl) rfl (w_p (zAs rfl rfl) rfl (zAd (zAc (g0 _ _ (zA8 (zBa (l := [.tmp 4]) (vs := [_]) rfl ⟨⟨rfl, (rfl : _ = Value.bool _)⟩, trivial⟩ ?_))))))
  exact ⟨congrArg Value.bool (by rw [Bool.eq_iff_iff]; simp [out, *] <;> omega), hs⟩

theorem c78 {w0 w : World} {F : List (Nat × Obj)} (lo hi : Int) (aa : Option Addr) (l : List Int) (ca : Nat) (hla : l.length ≤ 9223372036854775807) (ha : Sl w0 F aa 1 (l.map fun x => [Value.int .i64 x])) (hs : St w0 w F) :
  Con Tryz.prog 78 [.int .i64 lo, .int .i64 hi, .slice aa l.length ca] w fun v w' => v = .bool (l.any (out lo hi)) ∧ St w0 w' F := by
  refine zAo (n := 10) func78 rfl rfl (zNl rfl) ?_
  refine zAf (fun K2 g0 => (zAb (zCj (v := .int _ _) (cs := [_]) zAa rfl rfl rfl hs (fun b3 w4 g3 => ?_))))
  refine zCj (v := .int _ _) (cs := [_]) zAa rfl rfl rfl g3 (fun b6 w7 g4 => ?_)
  refine zBi rfl rfl (zAd (zAc (g0 _ _ (zAf (fun g7 g5 => (zAb (w_p (zAx rfl rfl) rfl (w_p (zCc (fv := []) (cv := [_,_]) rfl rfl rfl rfl) rfl ?_))))))))
  refine zCo zAa call91 rfl rfl rfl rfl (c91 _ _ _ hla ha.cons.cons call111 _ _ (out lo hi) (fun x _ w hs => c111 _ _ _ _ _ (aow 1 [_]) (aow 0 [_]) hs) g4) (fun g8 g6 => ?_)
  refine w_p (zAs rfl rfl) rfl (zAd (zAc (g5 _ _ (zA8 (zBa (l := [.tmp 6]) (vs := [_]) rfl ⟨⟨rfl, (rfl : _ = Value.bool _)⟩, trivial⟩ ?_)))))
  exact ⟨rfl, g6.tail.tail⟩

theorem c93 {w0 w : World} {F : List (Nat × Obj)} (n lo hi : Int) (b1 b2 : Nat) (h1 : Ats w0 F b1 0 [.int .i64 lo]) (h2 : Ats w0 F b2 0 [.int .i64 hi]) (hs : St w0 w F) :
  Con Tryz.prog 93 [.int .i64 n, .pointer (some ⟨b1,0, none⟩), .pointer (some ⟨b2,0, none⟩)] w fun v w' => v = .bool (out lo hi n) ∧ St w0 w' F := by
  refine zAo (n := 13) func93 rfl rfl (zNl rfl) ?_
  refine zAf (fun K2 g3 => (zAb (zBi rfl rfl (zAd (zAc (g3 _ _ (zAf (fun K4 g0 => (zAb (zA6 rfl rfl (w_p (zAg isAgg3 hs rfl rfl h1) rfl ?_)))))))))))
  refine w_p (zCp rfl rfl rfl rfl) rfl (w_p (zAt rfl rfl) rfl (zB5 (fun h5 => ?_) (fun h5 => ?_)))
  ·
   try simp only [zS] at h5
   refine zAm rfl rfl rfl ?_
   refine zAm rfl rfl rfl ?_
   refine zAm rfl rfl rfl ?_
   refine w_p (zA5 (v := _) rfl rfl rfl rfl) rfl (w_p (zAs rfl rfl) rfl (zAd (zAc (g0 _ _ (zA8 (zBa (l := [.tmp 4]) (vs := [_]) rfl ⟨⟨rfl, (rfl : _ = Value.bool _)⟩, trivial⟩ ?_))))))
   exact ⟨congrArg Value.bool (by rw [Bool.eq_iff_iff]; simp [out, *] <;> omega), hs⟩
  try simp only [zS] at h5
  refine w_y rfl rfl rfl (zAy rfl rfl) rfl ?_
  refine w_y rfl rfl rfl (zAg isAgg3 hs rfl rfl h2) rfl ?_
  refine w_y rfl rfl rfl (zEf rfl rfl rfl rfl) rfl ?_
  refine w_p (zBg (v := .bool _) rfl rfl rfl rfl) rfl (w_p (zAs rfl rfl) rfl (zAd (zAc (g0 _ _ (zA8 (zBa (l := [.tmp 4]) (vs := [_]) rfl ⟨⟨rfl, (rfl : _ = Value.bool _)⟩, trivial⟩ ?_))))))
  exact ⟨congrArg Value.bool (by rw [Bool.eq_iff_iff]; simp [out, *] <;> omega), hs⟩

theorem c73 {w0 w : World} {F : List (Nat × Obj)} (lo hi : Int) (aa : Option Addr) (l : List Int) (ca : Nat) (hla : l.length ≤ 9223372036854775807) (ha : Sl w0 F aa 1 (l.map fun x => [Value.int .i64 x])) (hs : St w0 w F) :
  Con Tryz.prog 73 [.int .i64 lo, .int .i64 hi, .slice aa l.length ca] w fun v w' => v = .bool (l.any (out lo hi)) ∧ St w0 w' F := by
  refine zAo (n := 10) func73 rfl rfl (zNl rfl) ?_
  refine zAf (fun K2 g0 => (zAb (zCj (v := .int _ _) (cs := [_]) zAa rfl rfl rfl hs (fun b3 w4 g3 => ?_))))
  refine zCj (v := .int _ _) (cs := [_]) zAa rfl rfl rfl g3 (fun b6 w7 g4 => ?_)
  refine zBi rfl rfl (zAd (zAc (g0 _ _ (zAf (fun g7 g5 => (zAb (w_p (zAx rfl rfl) rfl (w_p (zCc (fv := []) (cv := [_,_]) rfl rfl rfl rfl) rfl ?_))))))))
  refine zCo zAa call91 rfl rfl rfl rfl (c91 _ _ _ hla ha.cons.cons call93 _ _ (out lo hi) (fun x _ w hs => c93 _ _ _ _ _ (aow 1 [_]) (aow 0 [_]) hs) g4) (fun g8 g6 => ?_)
  refine w_p (zAs rfl rfl) rfl (zAd (zAc (g5 _ _ (zA8 (zBa (l := [.tmp 6]) (vs := [_]) rfl ⟨⟨rfl, (rfl : _ = Value.bool _)⟩, trivial⟩ ?_)))))
  exact ⟨rfl, g6.tail.tail⟩

end Go.Proofs
set_option maxRecDepth 20000
namespace Go.Proofs
open Go.Proofs.Tryz
open Go.Rt
attribute [local irreducible] WL WC Con Yd At Ats Sl Agree DW
theorem Try_B_fb0 (x0 : Int) (w : World) : (Instr.buildSlice 22 1 [(0, .int .i64 x0)].toArray).run Tryz.prog w = .ok (.slice (some ⟨w.heap.size, 0, none⟩) 1 1) (w.alloc (Go.Rt.blk 3 [.int .i64 x0])) := by kernel_rfl
theorem nmBytes_take (l : List UInt8) : ∀ (f : Bool) (i : Nat), nmBytes f l = true → nmBytes f (l.take i) = true := by
  induction l with
  | nil => intro f i h; simpa using h
  | cons x l ih =>
    intro f i h
    cases i with
    | zero => rfl
    | succ i =>
      simp only [nmBytes, Bool.and_eq_true] at h
      simp only [List.take_succ_cons, nmBytes, Bool.and_eq_true]
      exact ⟨h.1, ih _ i h.2⟩
theorem zF0 (s : ByteArray) (i : Nat) (h : i < s.size) (hb : nmByte (decide (i = 0)) s[i] = false) : false = nmOk s := by
  symm
  unfold nmOk
  cases hn : nmBytes true s.data.toList with
  | false => simp
  | true =>
    have := nmBytes_take _ true (i + 1) hn
    rw [zFn s i h, hb] at this
    simp at this
theorem dec (s : ByteArray) (i : Nat) (h : i < s.size) : (s[i].toNat < 128 ∧ (Utf8.decode s i).1 = s[i].toNat ∧ (Utf8.decode s i).2 = 1) ∨ (128 ≤ s[i].toNat ∧ 128 ≤ (Utf8.decode s i).1 ∧ 1 ≤ (Utf8.decode s i).2) := by
  rcases Nat.lt_or_ge s[i].toNat 128 with hlt | hge
  · left; rw [decode_ascii s i h hlt]; exact ⟨hlt, rfl, rfl⟩
  · right; exact ⟨hge, decode_high s i h hge⟩
theorem c96 {w0 w : World} {F : List (Nat × Obj)} (s : ByteArray) (hls : s.size ≤ 9223372036854775807) (hs : St w0 w F) :
  Con Tryz.prog 96 [.string s] w fun v w' => v = .bool (nmOk s) ∧ St w0 w' F := by
  refine zAo (n := 41) func96 rfl rfl (zNl rfl) ?_
  refine zAf (fun K2 gk => (zAb (zBi rfl rfl (zAd (zAc (gk _ _ (zAf (fun K4 gm => (zAf (fun K6 gn => (zAb (w_p (zBy (v := .string _) rfl rfl) rfl ?_))))))))))))
  refine w_rangeStr zAa underlying9 rfl rfl hs (fun b7 w8 go => ?_)
  refine zAd (zAc (gn _ _ (zAq ?_)))
  refine zB6 [2,3,4,5,8,9,10,11,12,13,14,15,16,17,18,19,20,21,22,23,24,25,26,27,28,29,30,31,32,33,34,35] [] (fun k vs w => ∃ i : Nat, vs = [] ∧ i ≤ s.size ∧ k = s.size - i ∧ nmBytes true (s.data.toList.take i) = true ∧ St w0 w ((b7, .stringIter s i) :: F)) (s.size) ?_ ?_
  ·
   exact ⟨0, rfl, by omega, by omega, rfl, go⟩
  intro k vs μ gB hI gC g3
  obtain ⟨i, rfl, hia, rfl, hpre, hs⟩ := hI
  refine zAf (fun gD gh => (zAb (w_nextStr (i := 0) zAa rfl rfl hs rfl (fun hp15 gE g0 => ?_) (fun hp15 => ?_))))
  ·
   refine w_p (zE5 rfl rfl rfl) rfl (zAd (zAc (gh _ _ (zAf (fun gF gp => (zDb rfl rfl ?_))))))
   refine zAn (zAc (gp _ _ (zAq ?_)))
   refine zAf (fun gG gq => (zAb ?_))
   have hi2 : i < s.size := by omega
   have hd := dec s i hi2
   have hb2 := s[i].toNat_lt
   refine w_p (zAk rfl rfl rfl) rfl (w_p (zAk rfl rfl rfl) rfl (zBw rfl rfl (zBw rfl rfl (zAd (zAc (gq _ _ (zAf (fun gH gi => (zAb (zA6 rfl rfl (w_p (zGw rfl rfl rfl rfl) rfl ?_)))))))))))
   refine w_p (zAt rfl rfl) rfl (zB5 (fun g6 => ?_) (fun g6 => ?_))
   ·
    try simp only [zS] at g6
    refine w_y rfl rfl rfl (zAy rfl rfl) rfl ?_
    refine w_y rfl rfl rfl (zFc rfl rfl rfl rfl) rfl ?_
    refine w_p (zA5 (v := .bool _) rfl rfl rfl rfl) rfl (w_p (zAs rfl rfl) rfl (zAd (zAc (gi _ _ (zAf (fun gI g4 => (zAb (w_p (zAt rfl rfl) rfl ?_))))))))
    refine w_p (zDo rfl rfl) rfl (w_p (zAt rfl rfl) rfl (zB5 (fun g7 => ?_) (fun g7 => ?_)))
    ·
     try simp only [zS] at g7
     refine w_y rfl rfl rfl (zAy rfl rfl) rfl ?_
     refine w_y rfl rfl rfl (zCa rfl rfl rfl rfl) rfl ?_
     refine w_y rfl rfl rfl (zAt rfl rfl) rfl ?_
     refine zB5 (fun g8 => ?_) (fun g8 => ?_)
     ·
      try simp only [zS] at g8
      refine zAm rfl rfl rfl ?_
      refine zAm rfl rfl rfl ?_
      refine zAm rfl rfl rfl ?_
      refine zBd rfl rfl rfl ?_
      refine zBd rfl rfl rfl ?_
      refine zBd rfl rfl rfl ?_
      refine zBd rfl rfl rfl ?_
      refine zBd rfl rfl rfl ?_
      refine zBd rfl rfl rfl ?_
      refine zAm rfl rfl rfl ?_
      refine w_y rfl rfl rfl (zA5 (v := _) rfl rfl rfl rfl) rfl ?_
      refine w_p (zA5 (v := .bool _) rfl rfl rfl rfl) rfl (zAd (zAc (g4 _ _ (zDb rfl rfl ?_))))
      refine zAf (fun gJ gt => (zAb (zBi rfl rfl (zAd (zAc (gt _ _ (zA8 (zA9 (zAl (zA9 (zAl (zBa (l := [.tmp 2]) (vs := [_]) rfl ⟨⟨rfl, (rfl : _ = Value.bool _)⟩, trivial⟩ ?_))))))))))))
      first
        | exact ⟨congrArg Value.bool (zF0 s i hi2 (by simp [nmByte]; omega)), g0.tail⟩
        | exact ⟨congrArg Value.bool (by have hil : i = s.size := (by omega); subst hil; rw [List.take_of_length_le (by simp)] at hpre; unfold nmOk; rw [hpre, Bool.eq_iff_iff]; simp [out] <;> omega), g0.tail.tail⟩
     try simp only [zS] at g8
     refine w_y rfl rfl rfl (zAy rfl rfl) rfl ?_
     refine w_y rfl rfl rfl (zCs rfl rfl rfl rfl) rfl ?_
     refine w_y rfl rfl rfl (zAt rfl rfl) rfl ?_
     refine zB5 (fun g9 => ?_) (fun g9 => ?_)
     ·
      try simp only [zS] at g9
      refine w_y rfl rfl rfl (zAy rfl rfl) rfl ?_
      refine w_y rfl rfl rfl (zCp rfl rfl rfl rfl) rfl ?_
      refine w_y rfl rfl rfl (zAt rfl rfl) rfl ?_
      refine zB5 (fun ga => ?_) (fun ga => ?_)
      ·
       try simp only [zS] at ga
       refine zAm rfl rfl rfl ?_
       refine zAm rfl rfl rfl ?_
       refine w_y rfl rfl rfl (zA5 (v := _) rfl rfl rfl rfl) rfl ?_
       refine w_y rfl rfl rfl (zA5 (v := .bool _) rfl rfl rfl rfl) rfl ?_
       refine w_y rfl rfl rfl (zBg (v := .bool _) rfl rfl rfl rfl) rfl ?_
       refine w_p (zA5 (v := .bool _) rfl rfl rfl rfl) rfl (zAd (zAc (g4 _ _ (zDb rfl rfl ?_))))
       refine zAf (fun gK gu => (zAb (zBi rfl rfl (zAd (zAc (gu _ _ (zA8 (zA9 (zAl (zA9 (zAl (zBa (l := [.tmp 2]) (vs := [_]) rfl ⟨⟨rfl, (rfl : _ = Value.bool _)⟩, trivial⟩ ?_))))))))))))
       first
         | exact ⟨congrArg Value.bool (zF0 s i hi2 (by simp [nmByte]; omega)), g0.tail⟩
         | exact ⟨congrArg Value.bool (by have hil : i = s.size := (by omega); subst hil; rw [List.take_of_length_le (by simp)] at hpre; unfold nmOk; rw [hpre, Bool.eq_iff_iff]; simp [out] <;> omega), g0.tail.tail⟩
      try simp only [zS] at ga
      refine w_y rfl rfl rfl (zAy rfl rfl) rfl ?_
      refine w_y rfl rfl rfl (zEf rfl rfl rfl rfl) rfl ?_
      refine w_y rfl rfl rfl (zBg (v := .bool _) rfl rfl rfl rfl) rfl ?_
      refine w_y rfl rfl rfl (zA5 (v := .bool _) rfl rfl rfl rfl) rfl ?_
      refine w_y rfl rfl rfl (zBg (v := .bool _) rfl rfl rfl rfl) rfl ?_
      refine w_p (zA5 (v := .bool _) rfl rfl rfl rfl) rfl (zAd (zAc (g4 _ _ (zAr rfl rfl (fun gc => ?_) (fun gc => ?_)))))
      ·
       try simp only [zS] at gc
       refine zAf (fun gL gv => (zAb (zBi rfl rfl (zAd (zAc (gv _ _ (zA8 (zA9 (zAl (zA9 (zAl (zBa (l := [.tmp 2]) (vs := [_]) rfl ⟨⟨rfl, (rfl : _ = Value.bool _)⟩, trivial⟩ ?_))))))))))))
       first
         | exact ⟨congrArg Value.bool (zF0 s i hi2 (by simp [nmByte]; omega)), g0.tail⟩
         | exact ⟨congrArg Value.bool (by have hil : i = s.size := (by omega); subst hil; rw [List.take_of_length_le (by simp)] at hpre; unfold nmOk; rw [hpre, Bool.eq_iff_iff]; simp [out] <;> omega), g0.tail.tail⟩
      try simp only [zS] at gc
      refine zAn (zAi (zAc (g3 _ _ (Nx.intro (s.size - (i + (Utf8.decode s i).2)) ((by omega)) (by repeat (first | exact zD6 | refine zD5 rfl ?_ | refine zDz rfl ?_ _ | refine agree_mixin rfl ?_)) ?_))))
      have hd1 : s[i].toNat < 128 ∧ (Utf8.decode s i).1 = s[i].toNat ∧ (Utf8.decode s i).2 = 1 := (by rcases hd with h | h; exact h; (exfalso; first | omega | (simp only [Bool.or_eq_true, Bool.and_eq_true, decide_eq_true_eq, Bool.not_eq_true', decide_eq_false_iff_not] at *; omega)))
      have hn1 : nmByte (decide (i = 0)) s[i] = true := (by simp [nmByte]; omega)
      refine ⟨i + 1, rfl, by omega, by rw [hd1.2.2], ?_, by rw [← hd1.2.2]; exact g0⟩
      rw [zFn s i hi2, hpre, hn1]; rfl
     try simp only [zS] at g9
     refine zAm rfl rfl rfl ?_
     refine zAm rfl rfl rfl ?_
     refine zAm rfl rfl rfl ?_
     refine zBd rfl rfl rfl ?_
     refine zBd rfl rfl rfl ?_
     refine zAm rfl rfl rfl ?_
     refine w_y rfl rfl rfl (zBg (v := _) rfl rfl rfl rfl) rfl ?_
     refine w_y rfl rfl rfl (zBg (v := .bool _) rfl rfl rfl rfl) rfl ?_
     refine w_p (zA5 (v := .bool _) rfl rfl rfl rfl) rfl (zAd (zAc (g4 _ _ (zBs rfl rfl ?_))))
     refine zAn (zAi (zAc (g3 _ _ (Nx.intro (s.size - (i + (Utf8.decode s i).2)) ((by omega)) (by repeat (first | exact zD6 | refine zD5 rfl ?_ | refine zDz rfl ?_ _ | refine agree_mixin rfl ?_)) ?_))))
     have hd1 : s[i].toNat < 128 ∧ (Utf8.decode s i).1 = s[i].toNat ∧ (Utf8.decode s i).2 = 1 := (by rcases hd with h | h; exact h; (exfalso; first | omega | (simp only [Bool.or_eq_true, Bool.and_eq_true, decide_eq_true_eq, Bool.not_eq_true', decide_eq_false_iff_not] at *; omega)))
     have hn1 : nmByte (decide (i = 0)) s[i] = true := (by simp [nmByte]; omega)
     refine ⟨i + 1, rfl, by omega, by rw [hd1.2.2], ?_, by rw [← hd1.2.2]; exact g0⟩
     rw [zFn s i hi2, hpre, hn1]; rfl
    try simp only [zS] at g7
    refine zAm rfl rfl rfl ?_
    refine zAm rfl rfl rfl ?_
    refine zAm rfl rfl rfl ?_
    refine zBd rfl rfl rfl ?_
    refine zBd rfl rfl rfl ?_
    refine zBd rfl rfl rfl ?_
    refine zBd rfl rfl rfl ?_
    refine zBd rfl rfl rfl ?_
    refine zBd rfl rfl rfl ?_
    refine zBd rfl rfl rfl ?_
    refine zBd rfl rfl rfl ?_
    refine zBd rfl rfl rfl ?_
    refine zBd rfl rfl rfl ?_
    refine zAm rfl rfl rfl ?_
    refine w_p (zBg (v := _) rfl rfl rfl rfl) rfl (zAd (zAc (g4 _ _ (zBs rfl rfl ?_))))
    refine zAn (zAi (zAc (g3 _ _ (Nx.intro (s.size - (i + (Utf8.decode s i).2)) ((by omega)) (by repeat (first | exact zD6 | refine zD5 rfl ?_ | refine zDz rfl ?_ _ | refine agree_mixin rfl ?_)) ?_))))
    have hd1 : s[i].toNat < 128 ∧ (Utf8.decode s i).1 = s[i].toNat ∧ (Utf8.decode s i).2 = 1 := (by rcases hd with h | h; exact h; (exfalso; first | omega | (simp only [Bool.or_eq_true, Bool.and_eq_true, decide_eq_true_eq, Bool.not_eq_true', decide_eq_false_iff_not] at *; omega)))
    have hn1 : nmByte (decide (i = 0)) s[i] = true := (by simp [nmByte]; omega)
    refine ⟨i + 1, rfl, by omega, by rw [hd1.2.2], ?_, by rw [← hd1.2.2]; exact g0⟩
    rw [zFn s i hi2, hpre, hn1]; rfl
   try simp only [zS] at g6
   refine zAm rfl rfl rfl ?_
   refine zAm rfl rfl rfl ?_
   refine w_p (zBg (v := _) rfl rfl rfl rfl) rfl (w_p (zAs rfl rfl) rfl (zAd (zAc (gi _ _ (zAf (fun gM g5 => (zAb (w_p (zAt rfl rfl) rfl ?_))))))))
   refine w_p (zDo rfl rfl) rfl (w_p (zAt rfl rfl) rfl (w_y rfl rfl rfl (zAy rfl rfl) rfl (w_y rfl rfl rfl (zCa rfl rfl rfl rfl) rfl (w_y rfl rfl rfl (zAt rfl rfl) rfl (zB5 (fun gd => ?_) (fun gd => ?_))))))
   ·
    try simp only [zS] at gd
    refine zAm rfl rfl rfl ?_
    refine zAm rfl rfl rfl ?_
    refine zAm rfl rfl rfl ?_
    refine zBd rfl rfl rfl ?_
    refine zBd rfl rfl rfl ?_
    refine zBd rfl rfl rfl ?_
    refine zBd rfl rfl rfl ?_
    refine zBd rfl rfl rfl ?_
    refine zBd rfl rfl rfl ?_
    refine zAm rfl rfl rfl ?_
    refine w_y rfl rfl rfl (zA5 (v := _) rfl rfl rfl rfl) rfl ?_
    refine w_p (zA5 (v := .bool _) rfl rfl rfl rfl) rfl (zAd (zAc (g5 _ _ (zDb rfl rfl ?_))))
    refine zAf (fun gN gw => (zAb (zBi rfl rfl (zAd (zAc (gw _ _ (zA8 (zA9 (zAl (zA9 (zAl (zBa (l := [.tmp 2]) (vs := [_]) rfl ⟨⟨rfl, (rfl : _ = Value.bool _)⟩, trivial⟩ ?_))))))))))))
    first
      | exact ⟨congrArg Value.bool (zF0 s i hi2 (by simp [nmByte]; omega)), g0.tail⟩
      | exact ⟨congrArg Value.bool (by have hil : i = s.size := (by omega); subst hil; rw [List.take_of_length_le (by simp)] at hpre; unfold nmOk; rw [hpre, Bool.eq_iff_iff]; simp [out] <;> omega), g0.tail.tail⟩
   try simp only [zS] at gd
   refine w_y rfl rfl rfl (zAy rfl rfl) rfl ?_
   refine w_y rfl rfl rfl (zCs rfl rfl rfl rfl) rfl ?_
   refine w_y rfl rfl rfl (zAt rfl rfl) rfl ?_
   refine zB5 (fun ge => ?_) (fun ge => ?_)
   ·
    try simp only [zS] at ge
    refine w_y rfl rfl rfl (zAy rfl rfl) rfl ?_
    refine w_y rfl rfl rfl (zCp rfl rfl rfl rfl) rfl ?_
    refine w_y rfl rfl rfl (zAt rfl rfl) rfl ?_
    refine zB5 (fun gf => ?_) (fun gf => ?_)
    ·
     try simp only [zS] at gf
     refine zAm rfl rfl rfl ?_
     refine zAm rfl rfl rfl ?_
     refine w_y rfl rfl rfl (zA5 (v := _) rfl rfl rfl rfl) rfl ?_
     refine w_y rfl rfl rfl (zA5 (v := .bool _) rfl rfl rfl rfl) rfl ?_
     refine w_y rfl rfl rfl (zBg (v := .bool _) rfl rfl rfl rfl) rfl ?_
     refine w_p (zA5 (v := .bool _) rfl rfl rfl rfl) rfl (zAd (zAc (g5 _ _ (zDb rfl rfl ?_))))
     refine zAf (fun gO gx => (zAb (zBi rfl rfl (zAd (zAc (gx _ _ (zA8 (zA9 (zAl (zA9 (zAl (zBa (l := [.tmp 2]) (vs := [_]) rfl ⟨⟨rfl, (rfl : _ = Value.bool _)⟩, trivial⟩ ?_))))))))))))
     first
       | exact ⟨congrArg Value.bool (zF0 s i hi2 (by simp [nmByte]; omega)), g0.tail⟩
       | exact ⟨congrArg Value.bool (by have hil : i = s.size := (by omega); subst hil; rw [List.take_of_length_le (by simp)] at hpre; unfold nmOk; rw [hpre, Bool.eq_iff_iff]; simp [out] <;> omega), g0.tail.tail⟩
    try simp only [zS] at gf
    refine w_y rfl rfl rfl (zAy rfl rfl) rfl ?_
    refine w_y rfl rfl rfl (zEf rfl rfl rfl rfl) rfl ?_
    refine w_y rfl rfl rfl (zBg (v := .bool _) rfl rfl rfl rfl) rfl ?_
    refine w_y rfl rfl rfl (zA5 (v := .bool _) rfl rfl rfl rfl) rfl ?_
    refine w_y rfl rfl rfl (zBg (v := .bool _) rfl rfl rfl rfl) rfl ?_
    refine w_p (zA5 (v := .bool _) rfl rfl rfl rfl) rfl (zAd (zAc (g5 _ _ (zAr rfl rfl (fun gg => ?_) (fun gg => ?_)))))
    ·
     try simp only [zS] at gg
     refine zAf (fun gP gy => (zAb (zBi rfl rfl (zAd (zAc (gy _ _ (zA8 (zA9 (zAl (zA9 (zAl (zBa (l := [.tmp 2]) (vs := [_]) rfl ⟨⟨rfl, (rfl : _ = Value.bool _)⟩, trivial⟩ ?_))))))))))))
     first
       | exact ⟨congrArg Value.bool (zF0 s i hi2 (by simp [nmByte]; omega)), g0.tail⟩
       | exact ⟨congrArg Value.bool (by have hil : i = s.size := (by omega); subst hil; rw [List.take_of_length_le (by simp)] at hpre; unfold nmOk; rw [hpre, Bool.eq_iff_iff]; simp [out] <;> omega), g0.tail.tail⟩
    try simp only [zS] at gg
    refine zAn (zAi (zAc (g3 _ _ (Nx.intro (s.size - (i + (Utf8.decode s i).2)) ((by omega)) (by repeat (first | exact zD6 | refine zD5 rfl ?_ | refine zDz rfl ?_ _ | refine agree_mixin rfl ?_)) ?_))))
    have hd1 : s[i].toNat < 128 ∧ (Utf8.decode s i).1 = s[i].toNat ∧ (Utf8.decode s i).2 = 1 := (by rcases hd with h | h; exact h; (exfalso; first | omega | (simp only [Bool.or_eq_true, Bool.and_eq_true, decide_eq_true_eq, Bool.not_eq_true', decide_eq_false_iff_not] at *; omega)))
    have hn1 : nmByte (decide (i = 0)) s[i] = true := (by simp [nmByte]; omega)
    refine ⟨i + 1, rfl, by omega, by rw [hd1.2.2], ?_, by rw [← hd1.2.2]; exact g0⟩
    rw [zFn s i hi2, hpre, hn1]; rfl
   try simp only [zS] at ge
   refine zAm rfl rfl rfl ?_
   refine zAm rfl rfl rfl ?_
   refine zAm rfl rfl rfl ?_
   refine zBd rfl rfl rfl ?_
   refine zBd rfl rfl rfl ?_
   refine zAm rfl rfl rfl ?_
   refine w_y rfl rfl rfl (zBg (v := _) rfl rfl rfl rfl) rfl ?_
   refine w_y rfl rfl rfl (zBg (v := .bool _) rfl rfl rfl rfl) rfl ?_
   refine w_p (zA5 (v := .bool _) rfl rfl rfl rfl) rfl (zAd (zAc (g5 _ _ (zBs rfl rfl ?_))))
   refine zAn (zAi (zAc (g3 _ _ (Nx.intro (s.size - (i + (Utf8.decode s i).2)) ((by omega)) (by repeat (first | exact zD6 | refine zD5 rfl ?_ | refine zDz rfl ?_ _ | refine agree_mixin rfl ?_)) ?_))))
   have hd1 : s[i].toNat < 128 ∧ (Utf8.decode s i).1 = s[i].toNat ∧ (Utf8.decode s i).2 = 1 := (by rcases hd with h | h; exact h; (exfalso; first | omega | (simp only [Bool.or_eq_true, Bool.and_eq_true, decide_eq_true_eq, Bool.not_eq_true', decide_eq_false_iff_not] at *; omega)))
   have hn1 : nmByte (decide (i = 0)) s[i] = true := (by simp [nmByte]; omega)
   refine ⟨i + 1, rfl, by omega, by rw [hd1.2.2], ?_, by rw [← hd1.2.2]; exact g0⟩
   rw [zFn s i hi2, hpre, hn1]; rfl
  refine w_p (zE5 rfl rfl rfl) rfl (zAd (zAc (gh _ _ (zAf (fun gQ gR => (zBs rfl rfl ?_))))))
  refine zBt (zAj (zAj (zAv (zAc (gm _ _ (zAf (fun gS gz => (zAb (w_p (zBy (v := .string _) rfl rfl) rfl (w_p (y_lenStr underlying9 rfl rfl) rfl ?_))))))))))
  refine zAu (ps := [(0, _)]) (pv := [(0, .int _ _)]) (cs := [_]) zAa rfl rfl (fun w => Try_B_fb0 _ w) hs (fun gT gU gA => ?_)
  refine zCo zAa call118 rfl rfl rfl rfl (c118 _ _ _ [_] _ (by simp) (zBb (i := 0) (rows := [[_]]) rfl (by simp) rfl) gA) (fun gV gj => ?_)
  refine w_p (zDo rfl rfl) rfl (w_p (zAs rfl rfl) rfl (zAd (zAc (gz _ _ (zA8 (zBa (l := [.tmp 2]) (vs := [_]) rfl ⟨⟨rfl, (rfl : _ = Value.bool _)⟩, trivial⟩ ?_))))))
  first
    | exact ⟨congrArg Value.bool (zF0 s i hi2 (by simp [nmByte]; omega)), gj.tail⟩
    | exact ⟨congrArg Value.bool (by have hil : i = s.size := (by omega); subst hil; rw [List.take_of_length_le (by simp)] at hpre; unfold nmOk; rw [hpre, Bool.eq_iff_iff]; simp [out] <;> omega), gj.tail.tail⟩

end Go.Proofs
/- Plain words of the hand layer: lots, their errors, their ways. No conditions. -/
namespace Go.Rt.Ha
structure Grade where
  name : ByteArray
  hands : Int
  scars : Int
structure Bunch where
  lo : Int
  hi : Int
  slo : Int
  shi : Int
structure Count where
  bits : Int
  hands : Int
structure Lot where
  grades : List Grade
  bunches : List Bunch
  counts : List Count
def Grade.cells (g : Grade) : List Value := [.string g.name, .int .i64 g.hands, .int .i64 g.scars]
def Bunch.cells (b : Bunch) : List Value := [.int .i64 b.lo, .int .i64 b.hi, .int .i64 b.slo, .int .i64 b.shi]
def Count.cells (c : Count) : List Value := [.int .i64 c.bits, .int .i64 c.hands]
structure At3 where
  ag : Option Addr
  cg : Nat
  ab : Option Addr
  cb : Nat
  ac : Option Addr
  cc : Nat
def Lot.cells (l : Lot) (p : At3) : List Value := [.slice p.ag l.grades.length p.cg, .slice p.ab l.bunches.length p.cb, .slice p.ac l.counts.length p.cc]
def crows (l : List Count) : List (List Value) := l.map Count.cells
def firstE {α : Type} (err : List α → α → Int) : List α → Int → List α → Int × Int
  | _,_, [] => (0,0)
  | b, i, x :: l => if err b x = 0 then firstE err (b ++ [x]) (i + 1) l else (i, err b x)
theorem zB3 {α : Type} {err : List α → α → Int} {l : List α} {i : Nat} (hi : i < l.length) (h : err (l.take i) l[i] = 0) : firstE err (l.take i) i (l.drop i) = firstE err (l.take (i + 1)) (i + 1 : Nat) (l.drop (i + 1)) := by
  rw [List.drop_eq_getElem_cons hi]
  simp only [firstE, h, if_true]
  rw [List.take_succ_eq_append_getElem hi]; rfl
theorem zAp {α : Type} {err : List α → α → Int} {l : List α} {i : Nat} (hi : i < l.length) (h : err (l.take i) l[i] ≠ 0) : firstE err (l.take i) i (l.drop i) = ((i : Int), err (l.take i) l[i]) := by
  rw [List.drop_eq_getElem_cons hi]
  simp only [firstE, if_neg h]
theorem zBn {α : Type} {err : List α → α → Int} {l : List α} {i : Nat} (hi : l.length ≤ i) (b : List α) : firstE err b i (l.drop i) = (0,0) := by
  rw [List.drop_of_length_le hi]; rfl
def nameE (before : List ByteArray) (s : ByteArray) : Int := if nmOk s then (if has before s then 5 else 0) else 6
def notBelow (before : List Grade) (g : Grade) : Bool := match before.getLast? with | none => false | some q => decide (q.hands ≤ g.hands) || decide (g.scars < q.scars)
def gradeE (before : List Grade) (g : Grade) : Int := if nameE (before.map (·.name)) g.name ≠ 0 then nameE (before.map (·.name)) g.name else if out 1 12 g.hands || out 0 9 g.scars then 7 else if notBelow before g then 2 else 0
def bunchE (_before : List Bunch) (b : Bunch) : Int := if out 1 12 b.lo || out 1 12 b.hi || (out 0 9 b.slo || out 0 9 b.shi) then 7 else if out 0 3 (b.hi - b.lo) || decide (b.shi < b.slo) then 2 else 0
def countE (n : Nat) (_before : List Count) (c : Count) : Int := if out 1 (2 ^ n - 1) c.bits then 4 else if out 0 72 c.hands then 7 else 0
def failE {α : Type} (err : List α → α → Int) (lo most : Int) (l : List α) : Int × Int := if out lo most l.length then (0,3) else firstE err [] 0 l
def check (l : Lot) : Int × Int × Int :=
  if (failE gradeE 1 4 l.grades).2 ≠ 0 then (1, failE gradeE 1 4 l.grades) else if (failE bunchE 0 6 l.bunches).2 ≠ 0 then (2, failE bunchE 0 6 l.bunches) else if (failE (countE l.bunches.length) 0 4 l.counts).2 ≠ 0 then (3, failE (countE l.bunches.length) 0 4 l.counts) else (0,0,0)
def upto (lo : Int) : Nat → List Int
  | 0 => []
  | n + 1 => lo :: upto (lo + 1) n
def spanL (lo hi : Int) : List Int := upto lo (hi + 1 - lo).toNat
def felt : List Bunch → List (List Int)
  | [] => [[]]
  | b :: l => (spanL b.lo b.hi).flatMap fun n => (felt l).map (n :: ·)
theorem felt_snoc (l : List Bunch) (b : Bunch) : felt (l ++ [b]) = (felt l).flatMap fun h => (spanL b.lo b.hi).map fun n => h ++ [n] := by
  induction l with
  | nil => simp [felt, List.flatMap]; induction spanL b.lo b.hi with
    | nil => rfl
    | cons a l ih => simp [ih]
  | cons a l ih => simp only [List.cons_append, felt, ih, List.flatMap_assoc, List.map_flatMap, List.flatMap_map, List.map_map]; rfl
def bit (b j : Nat) : Nat := (b >>> j) &&& 1
def counted (bits : Nat) : Nat → List Int → Int
  | _, [] => 0
  | i, h :: l => (if bit bits i = 1 then h else 0) + counted bits (i + 1) l
def soFrom (but : Nat) (h : List Int) : Nat → List Count → Bool
  | _, [] => true
  | i, c :: l => (decide (bit but i = 1) || decide (counted c.bits.toNat 0 h = c.hands)) && soFrom but h (i + 1) l
def ways (l : Lot) (but : Nat) : List (List Int) := (felt l.bunches).filter fun h => soFrom but h 0 l.counts
def ofG : List Grade → Int → Int → Int → Int
  | [], _,_, _ => -1
  | g :: l, i, h, s => if g.hands ≤ h ∧ s ≤ g.scars then i else ofG l (i + 1) h s
def orG (gs : List Grade) (h : Int) : List Int → Nat
  | [] => 0
  | s :: l => 1 <<< (ofG gs 0 h s + 1).toNat ||| orG gs h l
def gradesB (l : Lot) (b : Bunch) (h : Int) : Nat := orG l.grades h (spanL b.slo b.shi)
end Go.Rt.Ha
/- Plain words of the hand layer: what the program's functions return. No conditions. -/
namespace Go.Rt.Ha
def enterE (l : Lot) (e : Int) : Int := if (check l).2.2 ≠ 0 then (check l).2.2 else if e ≠ 0 then e else if ways l 0 = [] then 8 else 0
def at_ (h : List Int) (b : Nat) : Int := h.getD b 0
def bunchOf (l : Lot) (b : Nat) : Bunch := l.bunches.getD b ⟨0,0,0,0⟩
def listL (b : Nat) : Nat → List Int
  | 0 => []
  | n + 1 => listL b n ++ if bit b n = 1 then [(n : Int)] else []
def sumsTo (l : Lot) (g : Nat) (h : List Int) : Nat → Int × Int
  | 0 => (0,0)
  | k + 1 => let s := sumsTo l g h k; let z := gradesB l (bunchOf l k) (at_ h k)
    if z = 2 <<< g then (s.1 + at_ h k, s.2 + at_ h k) else if bit z (g + 1) = 1 then (s.1, s.2 + at_ h k) else s
def sums (l : Lot) (g : Nat) (h : List Int) : Int × Int := sumsTo l g h l.bunches.length
def before (a b : List Int) : Bool := decide (a.length < b.length) || (decide (a.length = b.length) && less a b)
def fewStep (do_ : Nat → Bool) (n : Nat) (s : List Int × Bool) (b : Nat) : List Int × Bool := if s.2 && before s.1 (listL b n) then s else if do_ b then (listL b n, true) else s
def fewTo (do_ : Nat → Bool) (n : Nat) : Nat → List Int × Bool
  | 0 => ([], false)
  | k + 1 => fewStep do_ n (fewTo do_ n k) k
def fewest (do_ : Nat → Bool) (n : Nat) : List Int × Bool := fewTo do_ n (1 <<< n)
def bitDiff (a b : Nat) : Nat := a &&& (a ^^^ b)
def often (b : Nat) (n : Int) (ws : List (List Int)) : Int := (ws.filter fun h => decide (at_ h b = n)).length
def wrongP (l : Lot) : List Int × Int := if (check l).2.2 ≠ 0 then ([], (check l).2.2) else ((fewest (fun b => !(ways l b).isEmpty) l.counts.length).1,0)
end Go.Rt.Ha
/- Plain words of lists in their order, and of all sets of some numbers, for all layers. No conditions. -/
namespace Go.Rt
def hasI (l : List Int) (z : Int) : Bool := l.any fun y => decide (y = z)
namespace Ls
def before (a b : List Int) : Bool := decide (a.length < b.length) || (decide (a.length = b.length) && less a b)
end Ls
end Go.Rt
/- Plain laws of the hand layer: the first of the fewest. No conditions. -/
namespace Go.Rt.Ha
end Go.Rt.Ha
/- Plain laws of the hand layer: grades as lists and as bits, spans, sums. No conditions. -/
namespace Go.Rt.Ha
theorem bit_iff (b j : Nat) : bit b j = 1 ↔ b.testBit j = true := by
  unfold bit Nat.testBit
  rw [Nat.and_comm 1, Nat.and_one_is_mod]
  have := Nat.mod_two_eq_zero_or_one (b >>> j)
  rcases this with h | h <;> rw [h] <;> simp
end Go.Rt.Ha
/- Plain laws of the hand layer: lots that are, their ways, totals. No conditions. -/
namespace Go.Rt.Ha
structure Lot.Ok (l : Lot) : Prop where
  lg : 1 ≤ l.grades.length ∧ l.grades.length ≤ 4
  lb : l.bunches.length ≤ 6
  lc : l.counts.length ≤ 4
  grade : ∀ g ∈ l.grades, 1 ≤ g.hands ∧ g.hands ≤ 12 ∧ 0 ≤ g.scars ∧ g.scars ≤ 9
  bunch : ∀ b ∈ l.bunches, 1 ≤ b.lo ∧ b.lo ≤ b.hi ∧ b.hi ≤ 12 ∧ b.hi - b.lo ≤ 3 ∧ 0 ≤ b.slo ∧ b.slo ≤ b.shi ∧ b.shi ≤ 9
  count : ∀ c ∈ l.counts, 1 ≤ c.bits ∧ c.bits ≤ 2 ^ l.bunches.length - 1 ∧ 0 ≤ c.hands ∧ c.hands ≤ 72
theorem firstE_zero {α : Type} (err : List α → α → Int) : ∀ (l b : List α) (i : Int), (firstE err b i l).2 = 0 → ∀ k (h : k < l.length), err (b ++ l.take k) l[k] = 0
  | [], _,_,_, k, h => by simp at h
  | x :: l, b, i, h, k, hk => by
    unfold firstE at h
    by_cases he : err b x = 0
    · rw [if_pos he] at h
      match k with
      | 0 => simpa using he
      | k + 1 =>
        have := firstE_zero err l (b ++ [x]) (i + 1) h k (by simpa using hk)
        simpa using this
    · rw [if_neg he] at h
      exact absurd h he
theorem zC8 {α : Type} {err : List α → α → Int} {lo most : Int} {l : List α} (h : (failE err lo most l).2 = 0) : (lo ≤ l.length ∧ (l.length : Int) ≤ most) ∧ ∀ k (h : k < l.length), err (l.take k) l[k] = 0 := by
  unfold failE at h
  split at h
  · cases h
  · rename_i ho
    unfold out at ho
    simp only [Bool.or_eq_true, decide_eq_true_eq, not_or] at ho
    exact ⟨by omega, fun k hk => by simpa using firstE_zero err l [] 0 h k hk⟩
theorem zG6 {l : Lot} (h : (check l).2.2 = 0) : (failE gradeE 1 4 l.grades).2 = 0 ∧ (failE bunchE 0 6 l.bunches).2 = 0 ∧ (failE (countE l.bunches.length) 0 4 l.counts).2 = 0 := by
  unfold check at h
  split at h
  · rename_i h1; exact absurd h h1
  · rename_i h1
    split at h
    · rename_i h2; exact absurd h h2
    · rename_i h2
      split at h
      · rename_i h3; exact absurd h h3
      · rename_i h3
        exact ⟨by omega, by omega, by omega⟩
theorem zEe {l : Lot} (h : (check l).2.2 = 0) : l.Ok := by
  obtain ⟨h1, h2, h3⟩ := zG6 h
  have h1 := zC8 h1
  have h2 := zC8 h2
  have h3 := zC8 h3
  refine ⟨by omega, by omega, by omega, fun g hg => ?_, fun b hb => ?_, fun c hc => ?_⟩
  · obtain ⟨k, hk, rfl⟩ := List.getElem_of_mem hg
    have := h1.2 k hk
    unfold gradeE out at this
    split at this
    · rename_i h; exact absurd this h
    · split at this
      · cases this
      · rename_i h
        simp only [Bool.or_eq_true, decide_eq_true_eq, not_or] at h
        omega
  · obtain ⟨k, hk, rfl⟩ := List.getElem_of_mem hb
    have := h2.2 k hk
    unfold bunchE out at this
    split at this
    · cases this
    · rename_i h
      simp only [Bool.or_eq_true, decide_eq_true_eq, not_or] at h
      split at this
      · cases this
      · rename_i h'
        simp only [Bool.or_eq_true, decide_eq_true_eq, not_or] at h'
        omega
  · obtain ⟨k, hk, rfl⟩ := List.getElem_of_mem hc
    have := h3.2 k hk
    unfold countE out at this
    split at this
    · cases this
    · rename_i h
      simp only [Bool.or_eq_true, decide_eq_true_eq, not_or] at h
      split at this
      · cases this
      · rename_i h'
        simp only [Bool.or_eq_true, decide_eq_true_eq, not_or] at h'
        omega
theorem zDu : ∀ (n : Nat) (lo z : Int), z ∈ upto lo n ↔ lo ≤ z ∧ z < lo + n
  | 0, lo, z => by simp [upto]
  | n + 1, lo, z => by
    rw [upto, List.mem_cons, zDu n (lo + 1) z]
    omega
theorem zBv {lo hi z : Int} : z ∈ spanL lo hi ↔ lo ≤ z ∧ z ≤ hi := by
  unfold spanL; rw [zDu]; omega
theorem zD4 : ∀ (bs : List Bunch) (h : List Int), h ∈ felt bs ↔ h.length = bs.length ∧ ∀ i (hi : i < bs.length), bs[i].lo ≤ at_ h i ∧ at_ h i ≤ bs[i].hi
  | [], h => by simp [felt]
  | b :: bs, h => by
    simp only [felt, List.mem_flatMap, List.mem_map]
    constructor
    · rintro ⟨n, hn, r, hr, rfl⟩
      have ih := (zD4 bs r).1 hr
      refine ⟨by simp [ih.1], fun i hi => ?_⟩
      cases i with
      | zero => exact zBv.1 hn
      | succ i => exact ih.2 i (by simpa using hi)
    · rintro ⟨h1, h2⟩
      cases h with
      | nil => simp at h1
      | cons n r =>
        refine ⟨n, zBv.2 (h2 0 (by simp)), r, (zD4 bs r).2 ⟨by simpa using h1, fun i hi => h2 (i + 1) (by simpa using hi)⟩, rfl⟩
end Go.Rt.Ha
/- Plain laws of the hand layer: Pick, Next and Wrong, as the reference has them. No conditions. -/
namespace Go.Rt.Ha
def soR (but : List Int) (h : List Int) : Nat → List Count → Bool
  | _, [] => true
  | i, c :: l => (hasI but i || decide (counted c.bits.toNat 0 h = c.hands)) && soR but h (i + 1) l
def waysR (l : Lot) (but : List Int) : List (List Int) := (felt l.bunches).filter fun h => soR but h 0 l.counts
theorem list_has (b : Nat) (k : Nat) : ∀ n, k < n → hasI (listL b n) k = decide (bit b k = 1)
  | 0, h => by omega
  | n + 1, h => by
    have hz : ∀ m, ∀ z ∈ listL b m, z < (m : Int) := by
      intro m
      induction m with
      | zero => intro z hz; cases hz
      | succ m ih =>
        intro z hz
        rw [listL, List.mem_append] at hz
        rcases hz with h | h
        · have := ih z h; omega
        · split at h
          · rw [List.mem_singleton] at h; omega
          · cases h
    rw [listL]
    unfold hasI
    rw [List.any_append]
    by_cases e : k = n
    · subst e
      have : (listL b k).any (fun y => decide (y = (k : Int))) = false := by
        rw [List.any_eq_false]
        intro z hz'
        have := hz k z hz'
        simp only [decide_eq_true_eq]; omega
      rw [this, Bool.false_or]
      split
      · rename_i h; simp [h]
      · rename_i h; simp [h]
    · have ih := list_has b k n (by omega)
      unfold hasI at ih
      rw [ih]
      have : (if bit b n = 1 then [(n : Int)] else []).any (fun y => decide (y = (k : Int))) = false := by
        split
        · simp; omega
        · rfl
      rw [this, Bool.or_false]
theorem so_same (b n : Nat) (h : List Int) : ∀ (cs : List Count) (i : Nat), i + cs.length ≤ n → soR (listL b n) h i cs = soFrom b h i cs
  | [], _, _ => rfl
  | c :: cs, i, hi => by
    simp only [List.length_cons] at hi
    rw [soR, soFrom, so_same b n h cs (i + 1) (by omega), list_has b i n (by omega)]
end Go.Rt.Ha
/- Plain laws of the hand layer: Hands, Grade, Total, Refused and Next, as the reference has them. No conditions. -/
namespace Go.Rt.Ha
end Go.Rt.Ha
/- Plain laws of the hand layer: Check as the reference has it; a lot that is told by a way. No conditions. -/
namespace Go.Rt.Ha
def toldC (h : List Int) (c : Count) : Count := { c with hands := counted c.bits.toNat 0 h }
def told (l : Lot) (h : List Int) : Lot := { l with counts := l.counts.map (toldC h) }
end Go.Rt.Ha
/- Plain words of the hand layer: all ways, as they are yielded one after the other, filled up to six numbers. No conditions. -/
namespace Go.Rt.Ha
theorem bit01 (b j : Nat) : bit b j = 0 ∨ bit b j = 1 := by unfold bit; have := Nat.and_lt_two_pow (x := b >>> j) (y := 1) (n := 1) (by omega); omega
theorem zC2 {lo : Int} {k n : Nat} (h : k < n) : upto (lo + k) (n - k) = (lo + k) :: upto (lo + (k + 1 : Nat)) (n - (k + 1)) := by
  rw [show n - k = (n - (k + 1)) + 1 by omega, upto, show lo + (k : Int) + 1 = lo + (k + 1 : Nat) by omega]
theorem upto_nodup : ∀ (n : Nat) (lo : Int), (upto lo n).Nodup
  | 0, _ => by simp [upto]
  | n + 1, lo => by
    simp only [upto, List.nodup_cons]
    exact ⟨fun h => by have := (zDu n (lo + 1) lo).1 h; omega, upto_nodup n (lo + 1)⟩
theorem zC4 : ∀ bs : List Bunch, (felt bs).Nodup
  | [] => by simp [felt]
  | b :: bs => by
    have ih := zC4 bs
    have key : ∀ xs : List Int, xs.Nodup → (xs.flatMap fun n => (felt bs).map (n :: ·)).Nodup := by
      intro xs
      induction xs with
      | nil => intro _; simp
      | cons x xs ihx =>
        intro hn
        rw [List.nodup_cons] at hn
        rw [List.flatMap_cons, List.nodup_append]
        refine ⟨by unfold List.Nodup; rw [List.pairwise_map]; exact List.Pairwise.imp (fun h e => h (by simpa using e)) ih, ihx hn.2, ?_⟩
        intro a ha b hb hab
        obtain ⟨u, _, rfl⟩ := List.mem_map.1 ha
        obtain ⟨y, hy, hb⟩ := List.mem_flatMap.1 hb
        obtain ⟨v, _, rfl⟩ := List.mem_map.1 hb
        injection hab with h1 h2
        subst h1
        exact hn.1 hy
    exact key _ (upto_nodup _ _)
theorem zB8 {α : Type} {l : List α} {i : Nat} {x : α} {r : List α} (h : l.drop i = x :: r) : i < l.length := by
  rcases Nat.lt_or_ge i l.length with h1 | h1
  · exact h1
  · rw [List.drop_of_length_le h1] at h; cases h
theorem zCi {α : Type} {l : List α} {i : Nat} {x : α} {r : List α} (h : l.drop i = x :: r) : l[i]'(zB8 h) = x := by
  rw [List.drop_eq_getElem_cons (zB8 h)] at h
  injection h
theorem zBx {α : Type} {l : List α} {i : Nat} {x : α} {r : List α} (h : l.drop i = x :: r) : l.drop (i + 1) = r := by
  rw [List.drop_eq_getElem_cons (zB8 h)] at h
  injection h
theorem zB2 {α : Type} {l : List α} {i : Nat} (hi : i ≤ l.length) (h : l.drop i = []) : i = l.length := by
  have := congrArg List.length h; simp at this; omega
theorem zCg {cur pre : List Int} {d : Nat} {x : Int} (hk : cur.take d = pre) (hd : d < cur.length) : (cur.set d x).take (d + 1) = pre ++ [x] := by
  rw [List.take_succ_eq_append_getElem (by simpa using hd), List.take_set_of_le (Nat.le_refl _), hk]; simp
theorem zCf {cur : List Int} {d n : Nat} {x : Int} (hd : d < n) (hz : ∀ j, n ≤ j → cur.getD j 0 = 0) : ∀ j, n ≤ j → (cur.set d x).getD j 0 = 0 := by
  intro j hj
  have := hz j hj
  simp only [List.getD, List.getElem?_set_ne (show d ≠ j by omega)] at this ⊢; exact this
theorem zBu {cur pre : List Int} {d : Nat} {x : Int} (hk : cur.take (d + 1) = pre ++ [x]) (hp : pre.length = d) : cur.take d = pre := by
  have h := congrArg (List.take d) hk
  rw [List.take_take, Nat.min_eq_left (by omega)] at h
  rw [h, ← hp]; simp
end Go.Rt.Ha
/- The walking engine, part 10: bits of numbers, numbers within arrays of a struct, maps by structs of numbers. No conditions. -/
namespace Go.Rt
open Go.RowKit
section
variable {r : Option Nat} {P : Program} {ops : Array Oper} {Q : Exit → Act → World → Prop} {rest : List Oper} {n : Nat} {ρ : Nat → Value} {ds : List Deferred} {d : Option Tmp} {ty : TypeId} {p : String} {e : Array Edge} {g : Option (Nat × Bool)} {w w0 : World} {L : List (Nat × Obj)}
theorem ofI (a : Nat) (ha : a < 9223372036854775808) : (BitVec.ofInt 64 (a : Int)).toNat = a := by
  rw [BitVec.ofInt_natCast, BitVec.toNat_ofNat]; exact Nat.mod_eq_of_lt (by omega)
theorem y_and {t t2 : TypeId} {u v : Operand} {a b : Int} {x y : Nat} (ho : okO n u = true) (ho1 : okO n v = true) (hx : ev ρ u = .int .i64 a) (hy : ev ρ v = .int .i64 b) (ha : a = (x : Int)) (hb : b = (y : Int)) (h1 : x < 9223372036854775808) (h2 : y < 9223372036854775808) :
    Yd P (A n ρ ds) ⟨d, .binOp .and t u v t2, ty, p, e, g⟩ w (.int .i64 ((x &&& y : Nat) : Int)) := by
  subst ha hb
  refine zGx ho ho1 hx hy fun w => ?_
  have hle : x &&& y < 2 ^ 63 := Nat.and_lt_two_pow _ (by omega)
  have : Go.bits .and .i64 (x : Int) (y : Int) = ((x &&& y : Nat) : Int) := by
    show IntKind.i64.wrap ((BitVec.ofInt 64 (x : Int) &&& BitVec.ofInt 64 (y : Int)).toNat : Int) = _
    rw [BitVec.toNat_and, ofI x h1, ofI y h2, zFk (by omega) (by omega)]
  rw [binOp_and, intBits_and, this]; rfl
theorem y_or {t t2 : TypeId} {u v : Operand} {a b : Int} {x y : Nat} (ho : okO n u = true) (ho1 : okO n v = true) (hx : ev ρ u = .int .i64 a) (hy : ev ρ v = .int .i64 b) (ha : a = (x : Int)) (hb : b = (y : Int)) (h1 : x < 9223372036854775808) (h2 : y < 9223372036854775808) :
    Yd P (A n ρ ds) ⟨d, .binOp .or t u v t2, ty, p, e, g⟩ w (.int .i64 ((x ||| y : Nat) : Int)) := by
  subst ha hb
  refine zGx ho ho1 hx hy fun w => ?_
  have hle : x ||| y < 2 ^ 63 := Nat.or_lt_two_pow (by omega) (by omega)
  have : Go.bits .or .i64 (x : Int) (y : Int) = ((x ||| y : Nat) : Int) := by
    show IntKind.i64.wrap ((BitVec.ofInt 64 (x : Int) ||| BitVec.ofInt 64 (y : Int)).toNat : Int) = _
    rw [BitVec.toNat_or, ofI x h1, ofI y h2, zFk (by omega) (by omega)]
  rw [binOp_or, intBits_or, this]; rfl
def bitDiff (x y : Nat) : Nat := (BitVec.ofNat 64 x &&& ~~~(BitVec.ofNat 64 y)).toNat
theorem bitDiff_le (x y : Nat) (h : x < 9223372036854775808) : bitDiff x y ≤ x := by
  unfold bitDiff
  rw [BitVec.toNat_and, BitVec.toNat_ofNat, Nat.mod_eq_of_lt (by omega)]
  exact Nat.and_le_left
theorem zI0 {t t2 : TypeId} {u v : Operand} {a b : Int} {x y : Nat} (ho : okO n u = true) (ho1 : okO n v = true) (hx : ev ρ u = .int .i64 a) (hy : ev ρ v = .int .i64 b) (ha : a = (x : Int)) (hb : b = (y : Int)) (h1 : x < 9223372036854775808) :
    Yd P (A n ρ ds) ⟨d, .binOp .andNot t u v t2, ty, p, e, g⟩ w (.int .i64 ((bitDiff x y : Nat) : Int)) := by
  subst ha hb
  refine zGx ho ho1 hx hy fun w => ?_
  have hle := bitDiff_le x y h1
  have : Go.bits .andNot .i64 (x : Int) (y : Int) = ((bitDiff x y : Nat) : Int) := by
    show IntKind.i64.wrap ((BitVec.ofInt 64 (x : Int) &&& ~~~(BitVec.ofInt 64 (y : Int))).toNat : Int) = _
    rw [BitVec.ofInt_natCast, BitVec.ofInt_natCast]
    exact zFk (z := ((bitDiff x y : Nat) : Int)) (by omega) (by omega)
  rw [binOp_andNot, intBits_andNot, this]; rfl
theorem y_shr {t t2 : TypeId} {u v : Operand} {a b : Int} {x y : Nat} (ho : okO n u = true) (ho1 : okO n v = true) (hx : ev ρ u = .int .i64 a) (hy : ev ρ v = .int .i64 b) (ha : a = (x : Int)) (hb : b = (y : Int)) (h2 : y ≤ 60) :
    Yd P (A n ρ ds) ⟨d, .binOp .shr t u v t2, ty, p, e, g⟩ w (.int .i64 ((x >>> y : Nat) : Int)) := by
  subst ha hb
  refine zGx ho ho1 hx hy fun w => ?_
  rw [binOp_shr]
  unfold Op.shift
  have hb : IntKind.i64.bits = 64 := rfl
  rw [if_neg (by omega)]
  simp only [Int.toNat_natCast, hb, Nat.min_eq_left (show y ≤ 64 by omega), Sem.run_pure]
  congr 2
  rw [Int.fdiv_eq_ediv_of_nonneg _ (by exact_mod_cast Nat.zero_le _), Nat.shiftRight_eq_div_pow]
  norm_cast
theorem y_shl {t t2 : TypeId} {u v : Operand} {a b : Int} {x y : Nat} (ho : okO n u = true) (ho1 : okO n v = true) (hx : ev ρ u = .int .i64 a) (hy : ev ρ v = .int .i64 b) (ha : a = (x : Int)) (hb : b = (y : Int)) (h1 : x ≤ 1000) (h2 : y ≤ 40) :
    Yd P (A n ρ ds) ⟨d, .binOp .shl t u v t2, ty, p, e, g⟩ w (.int .i64 ((x <<< y : Nat) : Int)) := by
  subst ha hb
  refine zGx ho ho1 hx hy fun w => ?_
  rw [binOp_shl]
  unfold Op.shift
  have hb : IntKind.i64.bits = 64 := rfl
  rw [if_neg (by omega)]
  simp only [Int.toNat_natCast, hb, Nat.min_eq_left (show y ≤ 64 by omega), Sem.run_pure]
  have h3 : x * 2 ^ y ≤ 1000 * 2 ^ 40 := Nat.mul_le_mul h1 (Nat.pow_le_pow_right (by omega) h2)
  have h4 : (x : Int) * 2 ^ y = ((x * 2 ^ y : Nat) : Int) := by push_cast; rfl
  rw [h4, zFk (by omega) (by omega), Nat.shiftLeft_eq]
theorem zEr {b i o : Nat} {t : TypeId} {l : List Int} (hi : L[i]? = some (b, blk t (iv l))) (hj : o < l.length) : Ats w0 L b o [.int .i64 (l.getD o 0)] := by
  have := zC9 (w0 := w0) (j := o) hi hj
  rwa [show 0 + o * 1 = o by omega] at this
theorem w_storeAtIO {t : TypeId} {x y : Operand} {b i o j : Nat} {tb : TypeId} {l : List Int} {z : Int} (hw : Want ops (A n ρ ds) ⟨none, .store t x y, ty, p, e, g⟩) (hs : ∀ w, (sizeOf t).run P w = .ok 1 w)
    (ho : okO n x = true) (ho1 : okO n y = true) (hx : ev ρ x = .pointer (some ⟨b, o + j * 1, none⟩)) (hy : ev ρ y = .int .i64 z) (hst : St w0 w L) (hi : L[i]? = some (b, blk tb (iv l))) (hl : o + j < l.length)
    (hk : ∀ w', St w0 w' (L.set i (b, blk tb (iv (l.set (o + j) z)))) → WL r P ops Q rest (A n ρ ds) w') :
    WL r P ops Q (⟨none, .store t x y, ty, p, e, g⟩ :: rest) (A n ρ ds) w :=
  zDp (j := o + j) hw hs ho ho1 (by rw [hx, show 0 + (o + j) * 1 = o + j * 1 by omega]) hy hst hi hl hk
theorem zE8 {t : TypeId} {x y : Operand} {b i o : Nat} {tb : TypeId} {l : List Int} {z : Int} (hw : Want ops (A n ρ ds) ⟨none, .store t x y, ty, p, e, g⟩) (hs : ∀ w, (sizeOf t).run P w = .ok 1 w)
    (ho : okO n x = true) (ho1 : okO n y = true) (hx : ev ρ x = .pointer (some ⟨b, o, none⟩)) (hy : ev ρ y = .int .i64 z) (hst : St w0 w L) (hi : L[i]? = some (b, blk tb (iv l))) (hl : o < l.length)
    (hk : ∀ w', St w0 w' (L.set i (b, blk tb (iv (l.set o z)))) → WL r P ops Q rest (A n ρ ds) w') :
    WL r P ops Q (⟨none, .store t x y, ty, p, e, g⟩ :: rest) (A n ρ ds) w :=
  zDp (j := o) hw hs ho ho1 (by rw [hx, show 0 + o * 1 = o by omega]) hy hst hi hl hk
theorem y_loadIP {k o : Nat} {t : TypeId} {x : Operand} {b i : Nat} {tb : TypeId} {l : List Int} (ha : ∀ w, (isAgg t).run P w = .ok true w) (hs : ∀ w, (sizeOf t).run P w = .ok k w) (hkl : o + k ≤ l.length) (hst : St w0 w L) (ho : okO n x = true) (hx : ev ρ x = .pointer (some ⟨b, o, none⟩))
    (hi : L[i]? = some (b, blk tb (iv l))) : Yd P (A n ρ ds) ⟨d, .load t x, ty, p, e, g⟩ w (ia ((l.drop o).take k)) := by
  have hl : (iv ((l.drop o).take k)).length = k := by simp; omega
  have := zA2 (d := d) (ty := ty) (p := p) (e := e) (g := g) (P := P) (ds := ds) (vs := iv ((l.drop o).take k)) ha (by rw [hl]; exact hs) hst ho hx (zB9 hi (by rw [hl]; simp [iv, List.map_drop, List.map_take]))
  exact this
theorem y_indexV {t el len : TypeId} {x y : Operand} {a : Value} {l : List Int} {z : Int} {i : Nat} (hU : P.underlying t = some (.array len el)) (hel : P.underlying el = some (.int .i64)) (hsz : ∀ w, (sizeOf el).run P w = .ok 1 w) (ho : okO n x = true) (ho1 : okO n y = true)
    (hx : ev ρ x = a) (ha : a = ia l) (hy : ev ρ y = .int .i64 z) (hz : z = (i : Int)) (hi : i < len) (hl : i < l.length) : Yd P (A n ρ ds) ⟨d, .index t x y, ty, p, e, g⟩ w (.int .i64 (l.getD i 0)) := by
  subst hz ha
  have e1 : (iv l).toArray[i * 1]? = some (.int .i64 (l.getD i 0)) := by simp [hl]
  have hp := zDl (P := P) (w := w) hel e1
  have : (Instr.index t (ia l) (.int .i64 (i : Int))).run P w = .ok (.int .i64 (l.getD i 0)) w := by
    unfold Instr.index ia
    simp only [asIntOf, Sem.run_bind, Sem.run_pure, Result.andThen_ok, run_underlying hU]
    rw [if_pos ⟨by omega, by omega⟩]
    simp only [Sem.run_bind, hsz, Result.andThen_ok, Int.toNat_natCast, hp]
  simp only [Yd, execOp, zCk ho, zCk ho1, hx, hy, Sem.run_bind, this]
  rfl
theorem zFy {t : TypeId} {k o : Nat} (ha : ∀ w, (isAgg t).run P w = .ok true w) (hs : ∀ w, (sizeOf t).run P w = .ok k w) {l : List Int} : (part t (iv l).toArray o).run P w = .ok (ia ((l.drop o).take k)) w := by
  unfold part
  simp only [Sem.run_bind, ha, Result.andThen_ok, if_true, hs, Sem.run_pure]
  congr 2
  simp [iv, List.map_drop, List.map_take, List.extract_eq_take_drop]
def FF (P : Program) (f : Field) (k : Nat) : Prop := f.name ≠ "_" ∧ ((P.underlying f.type = some (.int .i64) ∧ k = 1) ∨ (flatInts P f.type k = true ∧ (∀ w, (isAgg f.type).run P w = .ok true w) ∧ ∀ w, (sizeOf f.type).run P w = .ok k w))
theorem zHv (dd : Nat) (l m : List Int) : ∀ (fs : List (Field × Nat)), (∀ q ∈ fs, FF P q.1 q.2 ∧ q.1.offset + q.2 ≤ l.length ∧ q.1.offset + q.2 ≤ m.length) →
    (Op.eqFields (dd + 2) (iv l).toArray (iv m).toArray (fs.map Prod.fst)).run P w = .ok (fs.all fun q => decide ((l.drop q.1.offset).take q.2 = (m.drop q.1.offset).take q.2)) w
  | [], _ => by simp [Op.eqFields]
  | q :: fs, hh => by
    obtain ⟨⟨hn, hff⟩, h1, h2⟩ := hh q (.head _)
    have ih := zHv dd l m fs fun j hj => hh j (.tail _ hj)
    have key : ∃ u v : Value, (part q.1.type (iv l).toArray q.1.offset).run P w = .ok u w ∧ (part q.1.type (iv m).toArray q.1.offset).run P w = .ok v w ∧ (Op.equalIn (dd + 2) q.1.type u v).run P w = .ok (decide ((l.drop q.1.offset).take q.2 = (m.drop q.1.offset).take q.2)) w := by
      rcases hff with ⟨hu, hk⟩ | ⟨hf, ha, hs⟩
      · have e1 : (iv l).toArray[q.1.offset]? = some (.int .i64 (l.getD q.1.offset 0)) := by simp [show q.1.offset < l.length by omega]
        have e2 : (iv m).toArray[q.1.offset]? = some (.int .i64 (m.getD q.1.offset 0)) := by simp [show q.1.offset < m.length by omega]
        refine ⟨_, _, zDl hu e1, zDl hu e2, ?_⟩
        rw [run_equalIn_int w (dd + 1) q.1.type .i64 .i64 _ _ hu, hk]
        congr 1
        rw [List.drop_eq_getElem_cons (show q.1.offset < l.length by omega), List.drop_eq_getElem_cons (show q.1.offset < m.length by omega)]
        simp only [List.take_succ_cons, List.take_zero, List.cons.injEq, and_true]
        have g1 : l.getD q.1.offset 0 = l[q.1.offset]'(by omega) := by simp [List.getD, show q.1.offset < l.length by omega]
        have g2 : m.getD q.1.offset 0 = m[q.1.offset]'(by omega) := by simp [List.getD, show q.1.offset < m.length by omega]
        rw [g1, g2]
        rfl
      · refine ⟨_, _, zFy ha hs, zFy ha hs, ?_⟩
        have hl1 : ((l.drop q.1.offset).take q.2).length = q.2 := by simp; omega
        have hl2 : ((m.drop q.1.offset).take q.2).length = q.2 := by simp; omega
        exact zEv dd (by rw [hl1]; exact hf) (by rw [hl1, hl2])
    obtain ⟨u, v, k1, k2, k3⟩ := key
    simp only [List.map_cons, Op.eqFields, hn, ne_eq, not_false_eq_true, if_true, Sem.run_bind, k1, k2, k3, Result.andThen_ok]
    simp only [List.all_cons]
    by_cases hv : (l.drop q.1.offset).take q.2 = (m.drop q.1.offset).take q.2
    · rw [decide_eq_true hv]
      simp only [Bool.not_true, Bool.false_eq_true, if_false, Bool.true_and]
      exact ih
    · rw [decide_eq_false hv]
      simp only [Bool.not_false, if_true, Sem.run_pure, Bool.false_and]
structure KeyTy (P : Program) (t : TypeId) (n : Nat) : Prop where
  chk : ∀ (em : Bool) (l : List Int) (w : World), l.length = n → (Instr.checkKey em 10000 t (ia l)).run P w = .ok () w
  eq : ∀ (l m : List Int) (w : World), l.length = n → m.length = n → (Op.equal t (ia l) (ia m)).run P w = .ok (decide (l = m)) w
  desc : ∃ u, P.underlying t = some u ∧ (∀ (l : List Int) (e : MapEntry) (es : List MapEntry), Instr.findNow u (ia l) (e :: es) 0 = none) ∧ ∀ (l : List Int) (w : World), (Instr.findKey t (ia l) []).run P w = .ok none w
theorem keyTy_struct {t : TypeId} {fs : Array Field} {k : Nat} (fq : List (Field × Nat)) (hu : P.underlying t = some (.struct fs)) (hp : P.stoodInHeld t = false) (hfs : fs.toList = fq.map Prod.fst) (hff : ∀ q ∈ fq, FF P q.1 q.2 ∧ q.1.offset + q.2 ≤ k)
    (hck : ∀ q ∈ fq, P.underlying q.1.type = some (.int .i64) ∨ ∃ el, P.underlying q.1.type = some (.array q.2 el) ∧ P.underlying el = some (.int .i64) ∧ ∀ w, (sizeOf el).run P w = .ok 1 w)
    (hcov : ∀ l m : List Int, l.length = k → m.length = k → (fq.all fun q => decide ((l.drop q.1.offset).take q.2 = (m.drop q.1.offset).take q.2)) = decide (l = m)) : KeyTy P t k := by
  refine ⟨fun em l w hl => ?_, fun l m w hl hm => ?_, ⟨_, hu, fun l e es => ?_, fun l w => ?_⟩⟩
  · have one : ∀ q ∈ fq, ∀ w, q.1.name ≠ "_" ∧ ∃ v, (part q.1.type (iv l).toArray q.1.offset).run P w = .ok v w ∧ (Instr.checkKey em 9999 q.1.type v).run P w = .ok () w := by
      intro q hq w
      obtain ⟨⟨hn, hf⟩, ho⟩ := hff q hq
      refine ⟨hn, ?_⟩
      rcases hf with ⟨hi, hk1⟩ | ⟨hf, ha, hs⟩
      · have e1 : (iv l).toArray[q.1.offset]? = some (.int .i64 (l.getD q.1.offset 0)) := by simp [show q.1.offset < l.length by omega]
        refine ⟨_, zDl hi e1, ?_⟩
        unfold Instr.checkKey
        simp [Sem.run_bind, run_underlying hi, Result.andThen]
      · refine ⟨_, zFy ha hs, ?_⟩
        rcases hck q hq with hi | ⟨el, h1, h2, h3⟩
        · exfalso
          unfold flatInts at hf
          rw [hi] at hf
          cases hf
        · exact zIu (dd := 9997) h1 (by simp; omega) h2 h3
    rw [show (10000 : Nat) = 9999 + 1 from rfl, Instr.checkKey]
    unfold ia
    simp only [Sem.run_bind, run_underlying hu, Result.andThen_ok]
    rw [← Array.forIn_toList, hfs]
    have : ∀ (q : List (Field × Nat)), (∀ x ∈ q, x ∈ fq) → ∀ w, (forIn (q.map Prod.fst) PUnit.unit fun f _ => (do
        if f.name ≠ "_" then Instr.checkKey em 9999 f.type (← part f.type (iv l).toArray f.offset)
        pure (ForInStep.yield PUnit.unit) : Sem (ForInStep PUnit)) : Sem PUnit).run P w = .ok PUnit.unit w := by
      intro q
      induction q with
      | nil => intro _ w; simp
      | cons x q ih =>
        intro hx w
        obtain ⟨hn, v, h1, h2⟩ := one x (hx x (.head _)) w
        simp only [List.map_cons, List.forIn_cons, Sem.run_bind, hn, ne_eq, not_false_eq_true, if_true, h1, h2, Result.andThen_ok, Sem.run_pure]
        exact ih (fun y hy => hx y (.tail _ hy)) w
    have h := this fq (fun _ h => h) w
    exact congrArg (fun r => Result.andThen r fun a w' => Sem.run P (pure ()) w') h
  · have hfo : P.fieldsOf t = fs := by simp [Program.fieldsOf, hu]
    show (Op.equalIn ((9997 + 2) + 1) t (.agg (iv l).toArray) (.agg (iv m).toArray)).run P w = _
    rw [run_equalIn_struct w (9997 + 2) t _ _ (by rw [hfo]; exact hu) hp, hfo, hfs, zHv 9997 l m fq (fun q hq => ⟨(hff q hq).1, by have := (hff q hq).2; omega, by have := (hff q hq).2; omega⟩), hcov l m hl hm]
  · simp [Instr.findNow, Instr.sameNow]
  · simp [Instr.findKey, Sem.run_bind, run_underlying hu, Result.andThen, Instr.findNow]
end
end Go.Rt
/- Plain words of the turn layer: cargos, their errors, the hours at which lots turn, truths, what the program's functions return. No conditions. -/
namespace Go.Rt.Tu
open Go.Rt.Ha (firstE failE felt spanL upto bit listL fewest Bunch zC8)
structure Lot where
  hold : Int
  frm : Int
  lo : Int
  hi : Int
structure Look where
  lot : Int
  hour : Int
  turned : Bool
structure Cargo where
  heat : List Int
  gas : Int
  holds : List (Int × Int)
  lots : List Lot
  seen : List Look
structure AtT where
  ae : Option Addr
  ce : Nat
  ah : Option Addr
  ch : Nat
  al : Option Addr
  cl : Nat
  an : Option Addr
  cn : Nat
def scells (s : Int × Int) : List Value := [.int .i64 s.1, .int .i64 s.2]
def Lot.cells (l : Lot) : List Value := [.int .i64 l.hold, .int .i64 l.frm, .int .i64 l.lo, .int .i64 l.hi]
def Look.cells (s : Look) : List Value := [.int .i64 s.lot, .int .i64 s.hour, .bool s.turned]
def Cargo.cells (c : Cargo) (p : AtT) : List Value := [.slice p.ae c.heat.length p.ce, .int .i64 c.gas, .slice p.ah c.holds.length p.ch, .slice p.al c.lots.length p.cl, .slice p.an c.seen.length p.cn]
def srows (l : List (Int × Int)) : List (List Value) := l.map scells
def lrows (l : List Lot) : List (List Value) := l.map Lot.cells
def nrows (l : List Look) : List (List Value) := l.map Look.cells
def widthE (s : Int × Int) (most : Int) : Int := if out 0 most s.1 || out 0 most s.2 then 7 else if out 0 3 (s.2 - s.1) then 2 else 0
def heatE (_before : List Int) (n : Int) : Int := if out 0 3 n then 7 else 0
def holdE (_before : List (Int × Int)) (s : Int × Int) : Int := widthE s 6
def lotE (nh ne : Nat) (_before : List Lot) (l : Lot) : Int := if out 0 (nh - 1) l.hold then 4 else if out 0 ne l.frm then 7 else widthE (l.lo, l.hi) 40
def lotAt (c : Cargo) (i : Nat) : Lot := c.lots.getD i ⟨0,0,0,0⟩
def holdAt (c : Cargo) (i : Nat) : Int × Int := c.holds.getD i (0,0)
def seenAt (c : Cargo) (i : Nat) : Look := c.seen.getD i ⟨0,0, false⟩
def seenE (c : Cargo) (_before : List Look) (s : Look) : Int := if out 0 (c.lots.length - 1) s.lot then 4 else if out (lotAt c s.lot.toNat).frm c.heat.length s.hour then 7 else 0
def check (c : Cargo) : Int × Int × Int :=
  if (failE heatE 0 8 c.heat).2 ≠ 0 then (1, failE heatE 0 8 c.heat) else if out 0 3 c.gas then (2,0,7) else if (failE holdE 1 3 c.holds).2 ≠ 0 then (3, failE holdE 1 3 c.holds) else
    if (failE (lotE c.holds.length c.heat.length) 0 4 c.lots).2 ≠ 0 then (4, failE (lotE c.holds.length c.heat.length) 0 4 c.lots) else if (failE (seenE c) 0 4 c.seen).2 ≠ 0 then (5, failE (seenE c) 0 4 c.seen) else (0,0,0)
def tw (s : List Int) : Int := s.getD 1 0
def tt (s : List Int) : Nat := (s.getD 7 0).toNat
def never (c : Cargo) : Int := c.heat.length + 1
def on (c : Cargo) (s : List Int) (h : Nat) (left : List Int) (i : Nat) : Bool := !(decide (bit (tt s) i = 0) || decide ((h : Int) < (lotAt c i).frm) || decide (0 < left.getD i 0))
def turnStep (c : Cargo) (s : List Int) (h : Nat) (left : List Int) (i : Nat) (p : List Int × Int) : List Int × Int := if on c s h left i then (p.1.set i (min (p.1.getD i 0) h), c.gas) else p
def turnTo (c : Cargo) (s : List Int) (h : Nat) (left t0 : List Int) : Nat → List Int × Int
  | 0 => (t0,0)
  | i + 1 => turnStep c s h left i (turnTo c s h left t0 i)
def takes (c : Cargo) (s : List Int) (h : Nat) (gas : Int) : Int := c.heat.getD h 0 + s.getD 1 0 + gas
def lessAt (c : Cargo) (h : Nat) (i : Nat) (l : List Int) : Bool := decide ((lotAt c i).frm ≤ (h : Int)) && decide (0 < l.getD i 0)
def leftStep (c : Cargo) (s : List Int) (h : Nat) (gas : Int) (i : Nat) (l : List Int) : List Int := if lessAt c h i l then l.set i (l.getD i 0 - takes c s h gas) else l
def leftTo (c : Cargo) (s : List Int) (h : Nat) (gas : Int) (l0 : List Int) : Nat → List Int
  | 0 => l0
  | i + 1 => leftStep c s h gas i (leftTo c s h gas l0 i)
def hourStep (c : Cargo) (s : List Int) (h : Nat) (p : List Int × List Int) : List Int × List Int :=
  ((turnTo c s h p.2 p.1 c.lots.length).1, leftTo c s h (turnTo c s h p.2 p.1 c.lots.length).2 p.2 c.lots.length)
def hourTo (c : Cargo) (s : List Int) : Nat → List Int × List Int
  | 0 => (List.replicate 5 (never c), (s.drop 2).take 5)
  | h + 1 => hourStep c s h (hourTo c s h)
def times (c : Cargo) (s : List Int) : List Int := (turnTo c s c.heat.length (hourTo c s c.heat.length).2 (hourTo c s c.heat.length).1 c.lots.length).1
def okAt (c : Cargo) (but : Nat) (hold : Int) (t : List Int) (i : Nat) : Bool :=
  !((decide (bit but i = 0) && decide ((lotAt c (seenAt c i).lot.toNat).hold = hold)) && (decide (t.getD (seenAt c i).lot.toNat 0 ≤ (seenAt c i).hour) != (seenAt c i).turned))
def seenTo (c : Cargo) (but : Nat) (hold : Int) (t : List Int) : Nat → Bool
  | 0 => true
  | i + 1 => seenTo c but hold t i && okAt c but hold t i
def seenOk (c : Cargo) (but : Nat) (hold : Int) (t : List Int) : Bool := seenTo c but hold t c.seen.length
def ofTo (c : Cargo) (hold : Int) : Nat → Nat
  | 0 => 0
  | i + 1 => if (lotAt c i).hold = hold then ofTo c hold i ||| (1 <<< i) else ofTo c hold i
def ofH (c : Cargo) (hold : Int) : Nat := ofTo c hold c.lots.length
def bunAt (c : Cargo) (m i : Nat) : Bunch := ⟨(lotAt c i).lo, if bit m i = 0 then (lotAt c i).lo else (lotAt c i).hi, 0,0⟩
def bun (c : Cargo) (m : Nat) : List Bunch := (List.range c.lots.length).map (bunAt c m)
def pad5 (h : List Int) : List Int := h ++ List.replicate (5 - h.length) 0
def mkS (hold w : Int) (m : Nat) (h : List Int) : List Int := hold :: w :: (pad5 h ++ [(m : Int)])
def okS (c : Cargo) (but : Nat) (hold : Int) (s : List Int) : Bool := seenOk c but hold (times c s)
def allW (c : Cargo) (hold : Nat) (w : Int) : List (List Int) := (felt (bun c (ofH c hold))).map (mkS hold w (ofH c hold))
def truths (c : Cargo) (but hold : Nat) : List (List Int) := (spanL (holdAt c hold).1 (holdAt c hold).2).flatMap fun w => (allW c hold w).filter (okS c but hold)
def someTo (c : Cargo) (but : Nat) : Nat → Bool
  | 0 => true
  | k + 1 => someTo c but k && !(truths c but k).isEmpty
def someB (c : Cargo) (but : Nat) : Bool := someTo c but c.holds.length
def firstAsk : List (Bool × Int) → Int
  | [] => 0
  | x :: l => if x.1 then x.2 else firstAsk l
def anyAsk (l : List (Bool × Int)) : Bool := l.any (·.1)
def enterE (c : Cargo) (l : List (Bool × Int)) : Int := if (check c).2.2 ≠ 0 then (check c).2.2 else if anyAsk l then firstAsk l else if someB c 0 then 0 else 8
def askOf (n all : Nat) : Int := if n = all then 1 else if n = 0 then 2 else 0
def ask (c : Cargo) (hold : Nat) (q : List Int → Bool) : Int := askOf ((truths c 0 hold).filter q).length (truths c 0 hold).length
def noneA (n : Int) (l : List Int) : Bool × Int := (l.any (out 0 (n - 1)), 4)
def hoursA (c : Cargo) (l : List Int) : Bool × Int := (l.any (out 0 c.heat.length), 7)
def holdOf (c : Cargo) (i : Nat) : Nat := (lotAt c i).hold.toNat
def tOf (c : Cargo) (s : List Int) (i : Nat) : Int := (times c s).getD i 0
def turnsSt (c : Cargo) (lot : Nat) (a : (Int × Int) × Bool) (s : List Int) : (Int × Int) × Bool :=
  if tOf c s lot = never c then a else if a.2 then ((min (tOf c s lot) (tOf c s lot), max (tOf c s lot) (tOf c s lot)), false) else ((min a.1.1 (tOf c s lot), max a.1.2 (tOf c s lot)), false)
def turnsA (c : Cargo) (lot : Nat) (l : List (List Int)) : (Int × Int) × Bool := l.foldl (turnsSt c lot) ((0,0), true)
def turnsQ (c : Cargo) (lot : Nat) (s : List Int) : Bool := decide (tOf c s lot ≠ never c)
def turnsP (c : Cargo) (lot : Int) : (Int × Int) × Int × Int :=
  if enterE c [noneA c.lots.length [lot]] ≠ 0 then ((0,0), 0, enterE c [noneA c.lots.length [lot]]) else ((turnsA c lot.toNat (truths c 0 (holdOf c lot.toNat))).1, ask c (holdOf c lot.toNat) (turnsQ c lot.toNat), 0)
def safeQ (c : Cargo) (hour : Int) (i : Nat) (s : List Int) : Bool := decide (hour < tOf c s i)
def safeTo (c : Cargo) (hour : Int) : Nat → List Int
  | 0 => []
  | i + 1 => if (lotAt c i).frm ≤ hour ∧ ask c (holdOf c i) (safeQ c hour i) = 1 then safeTo c hour i ++ [(i : Int)] else safeTo c hour i
def safeP (c : Cargo) (hour : Int) : List Int × Int := if enterE c [hoursA c [hour]] ≠ 0 then ([], enterE c [hoursA c [hour]]) else (safeTo c hour c.lots.length, 0)
def minTo (l : List Int) : Nat → Int
  | 0 => l.getD 0 0
  | i + 1 => min (minTo l i) (l.getD (i + 1) 0)
def firstQ (c : Cargo) (i : Nat) (s : List Int) : Bool := decide (tOf c s i < never c) && decide (minTo (times c s) 4 = tOf c s i)
def firstTo (c : Cargo) (hold : Nat) : Nat → List Int
  | 0 => []
  | i + 1 => if (lotAt c i).hold = (hold : Int) ∧ ask c hold (firstQ c i) ≠ 2 then firstTo c hold i ++ [(i : Int)] else firstTo c hold i
def firstP (c : Cargo) (hold : Int) : List Int × Int := if enterE c [noneA c.holds.length [hold]] ≠ 0 then ([], enterE c [noneA c.holds.length [hold]]) else (firstTo c hold.toNat c.lots.length, 0)
def without (s : List Int) (m : Nat) : List Int := s.set 7 ((bitDiff (tt s) m : Nat) : Int)
def spoilsQ (c : Cargo) (by_ lot : Nat) (s : List Int) : Bool := decide (tOf c s lot < tOf c (without s (1 <<< by_)) lot)
def spoilsL (c : Cargo) (a b : Int) : List (Bool × Int) := [noneA c.lots.length [a, b], (decide (a = b), 2)]
def spoilsP (c : Cargo) (a b : Int) : Int × Int := if enterE c (spoilsL c a b) ≠ 0 then (0, enterE c (spoilsL c a b)) else (ask c (holdOf c b.toNat) (spoilsQ c a.toNat b.toNat), 0)
def withLot (c : Cargo) (l : Lot) : Cargo := { c with lots := c.lots ++ [l] }
def putS (n : Nat) (s : List Int) (g : Int) : List Int := (s.set 7 ((tt s ||| (1 <<< n) : Nat) : Int)).set (2 + n) g
def putAt (c2 : Cargo) (n : Nat) (until_ : Int) (t s : List Int) (g : Int) : Bool := decide (until_ < tOf c2 (putS n s g) n) && decide ((times c2 (putS n s g)).set n (t.getD n 0) = t)
def putQ (c c2 : Cargo) (g : Int × Int) (until_ : Int) (s : List Int) : Bool := (spanL g.1 g.2).all (putAt c2 c.lots.length until_ (times c s) s)
def putTo (c : Cargo) (g : Int × Int) (frm until_ : Int) : Nat → List Int
  | 0 => []
  | k + 1 => if ask c k (putQ c (withLot c ⟨k, frm, g.1, g.2⟩) g until_) = 1 then putTo c g frm until_ k ++ [(k : Int)] else putTo c g frm until_ k
def putL (c : Cargo) (g : Int × Int) (frm until_ : Int) : List (Bool × Int) := [hoursA c [frm, until_], (decide (widthE g 40 = 7), widthE g 40), (decide (until_ ≤ frm) || decide (widthE g 40 ≠ 0), 2)]
def putP (c : Cargo) (g : Int × Int) (frm until_ : Int) : List Int × Int := if enterE c (putL c g frm until_) ≠ 0 then ([], enterE c (putL c g frm until_)) else (putTo c g frm until_ c.holds.length, 0)
def outAll (c : Cargo) (until_ : Int) (t : List Int) (l : List Int) : Bool := l.all fun i => !(decide ((lotAt c i.toNat).frm ≤ until_) && decide (t.getD i.toNat 0 ≤ until_))
def outQ (c : Cargo) (set : Nat) (until_ : Int) (s : List Int) : Bool := outAll c until_ (times c (without s set)) (listL (tt (without s set)) c.lots.length)
def outS (c : Cargo) (hold : Nat) (until_ : Int) (set : Nat) : Bool := decide (bitDiff set (ofH c hold) = 0) && decide (ask c hold (outQ c set until_) = 1)
def outL (c : Cargo) (hold until_ : Int) : List (Bool × Int) := [noneA c.holds.length [hold], hoursA c [until_]]
def outP (c : Cargo) (hold until_ : Int) : List Int × Int := if enterE c (outL c hold until_) ≠ 0 then ([], enterE c (outL c hold until_)) else ((fewest (outS c hold.toNat until_) c.lots.length).1,0)
def wrongP (c : Cargo) : List Int × Int := if (check c).2.2 ≠ 0 then ([], (check c).2.2) else ((fewest (someB c) c.seen.length).1,0)
def cargoX (hour : Int) : Cargo := ⟨[0,0,0,1,0,0], 2, [(1,2),(1,1)], [⟨0,0,4,5⟩, ⟨0,0,10,10⟩, ⟨1,2,6,6⟩], if 0 ≤ hour then [⟨0, hour, false⟩] else []⟩
end Go.Rt.Tu
/- The walking engine, part 11: one number copied into a list at a place. No conditions. -/
namespace Go.Rt
open Go.RowKit
variable {r : Option Nat} {P : Program} {ops : Array Oper} {Q : Exit → Act → World → Prop} {rest : List Oper} {n : Nat} {ρ : Nat → Value} {ds : List Deferred} {ty : TypeId} {p : String} {e : Array Edge} {g : Option (Nat × Bool)} {w w0 : World} {L : List (Nat × Obj)}
theorem w_copy1 {d : Nat} {t el : TypeId} {i i2 : Nat} {x y : Operand} {b b2 j c c2 : Nat} {tb tb2 : TypeId} {l : List Int} {z : Int}
    (hw : Want ops (A n ρ ds) ⟨some d, .call ⟨.builtin .copy, #[x, y], #[t, t]⟩, ty, p, e, g⟩)
    (hU : P.underlying t = some (.slice el)) (hsz : ∀ w, (sizeOf el).run P w = .ok 1 w) (ho : okO n x = true) (ho1 : okO n y = true)
    (hx : ev ρ x = .slice (if c = j then some ⟨b, 0, none⟩ else (some (⟨b, 0, none⟩ : Addr)).map (·.add (j * 1))) (c - j) (c - j)) (hy : ev ρ y = .slice (some ⟨b2,0, none⟩) 1 c2)
    (hst : St w0 w L) (hi : L[i]? = some (b, blk tb (iv l))) (hi2 : L[i2]? = some (b2, blk tb2 [.int .i64 z])) (hj : j < c) (hc : l.length = c)
    (hk : ∀ w', St w0 w' (L.set i (b, blk tb (iv (l.set j z)))) → WL r P ops Q rest (A n (upd ρ d (.int .i64 1)) ds) w') :
    WL r P ops Q (⟨some d, .call ⟨.builtin .copy, #[x, y], #[t, t]⟩, ty, p, e, g⟩ :: rest) (A n ρ ds) w := by
  have hx2 : ev ρ x = .slice (some ⟨b, j, none⟩) (c - j) (c - j) := by
    rw [hx, if_neg (by omega)]
    by_cases h0 : j = 0
    · subst h0; rfl
    · simp [Addr.add, h0]
  have hm : Nat.min 1 (c - j) = 1 := Nat.min_eq_left (by omega)
  refine w_copy (xs := [.int .i64 z]) (vs := [.int .i64 z]) (k := 1) hw hU hsz ho ho1 hx2 hy hst hi (zBb (i := i2) (rows := [[.int .i64 z]]) hi2 (by simp) rfl) rfl hm.symm rfl (by simp [Value.oneCell']) (by simp; omega) (fun w' hst' => hk w' ?_)
  have : setMany (iv l) j [.int .i64 z] = iv (l.set j z) := by simp [setMany, iv, List.map_set]
  rwa [this] at hst'
theorem zCr {x y k : Nat} (h : x < k) : x >>> y < k := Nat.lt_of_le_of_lt (Nat.shiftRight_le _ _) h
end Go.Rt
/- The walking engine, part 12: ranges over functions that keep something of their own. No conditions. -/
namespace Go.Rt
open Go.RowKit
variable {r : Option Nat} {P : Program} {ops : Array Oper} {Q : Exit → Act → World → Prop} {rest : List Oper} {n : Nat} {ρ : Nat → Value} {ds : List Deferred} {w w0 : World} {L : List (Nat × Obj)}
def IterC (P : Program) (k : FuncId) (first captured : List Value) (xs : List Value) (w0 : World) (F : List (Nat × Obj)) (C : (Nat → List (Nat × Obj) → Prop) → (List (Nat × Obj) → Prop) → Prop) : Prop :=
  ∀ (J : Nat → List (Nat × Obj) → Prop) (Js : List (Nat × Obj) → Prop), C J Js → ∀ (yv : Value) (B X : List (Nat × Obj)) (w : World), (∃ f a b, yv = .func f a b) →
    (∀ i (hi : i < xs.length) B X w, J i B → St w0 w (X ++ (B ++ F)) → FCon P yv [xs[i]] w fun v w' => ∃ B', St w0 w' (X ++ (B' ++ F)) ∧ (v = .bool true ∧ J (i + 1) B' ∨ v = .bool false ∧ Js B')) →
    J 0 B → St w0 w (X ++ (B ++ F)) →
    Con P k (first ++ ([yv] ++ captured)) w fun _ w' => ∃ B', St w0 w' (X ++ (B' ++ F)) ∧ (J xs.length B' ∨ Js B')
def ClsM (K : List (Nat × Obj) → Prop) (J : Nat → List (Nat × Obj) → Prop) (Js : List (Nat × Obj) → Prop) : Prop :=
  ∃ (J0 : Nat → List (Nat × Obj) → Prop) (Js0 : List (Nat × Obj) → Prop), (∀ i Bx, J i Bx ↔ ∃ B M, Bx = B ++ M ∧ K M ∧ J0 i B) ∧ ∀ Bx, Js Bx ↔ ∃ B M, Bx = B ++ M ∧ K M ∧ Js0 B
theorem clsM_range {K : List (Nat × Obj) → Prop} {J : Nat → List (Nat × Obj) → Prop} {Js : Code → List (Nat × Obj) → Prop} (J0 : Nat → List (Nat × Obj) → Prop) (Js0 : Code → List (Nat × Obj) → Prop) (h1 : ∀ i Bx, J i Bx ↔ ∃ B M, Bx = B ++ M ∧ K M ∧ J0 i B) (h2 : ∀ c Bx, Js c Bx ↔ ∃ B M, Bx = B ++ M ∧ K M ∧ Js0 c B) (a b : Nat × Obj) (cc : Code → Nat × Obj) :
    ClsM K (fun i Bx => ∃ B, Bx = a :: b :: B ∧ J i B) (fun Bx => ∃ B c, Bx = cc c :: b :: B ∧ Js c B) := by
  refine ⟨fun i B => ∃ B0, B = a :: b :: B0 ∧ J0 i B0, fun B => ∃ B0 c, B = cc c :: b :: B0 ∧ Js0 c B0, fun i Bx => ⟨?_, ?_⟩, fun Bx => ⟨?_, ?_⟩⟩
  · rintro ⟨B, rfl, hJ⟩
    obtain ⟨B0, M, rfl, hK, h⟩ := (h1 i B).1 hJ
    exact ⟨a :: b :: B0, M, rfl, hK, B0, rfl, h⟩
  · rintro ⟨B, M, rfl, hK, B0, rfl, h⟩
    exact ⟨B0 ++ M, rfl, (h1 i _).2 ⟨B0, M, rfl, hK, h⟩⟩
  · rintro ⟨B, c, rfl, hJ⟩
    obtain ⟨B0, M, rfl, hK, h⟩ := (h2 c B).1 hJ
    exact ⟨cc c :: b :: B0, M, rfl, hK, B0, c, rfl, h⟩
  · rintro ⟨B, M, rfl, hK, B0, c, rfl, h⟩
    exact ⟨B0 ++ M, c, rfl, (h2 c _).2 ⟨B0, M, rfl, hK, h⟩⟩
theorem st_in {P X B R : List (Nat × Obj)} (h : St w0 w (P ++ (X ++ (B ++ R)))) : St w0 w ((P ++ (X ++ B)) ++ R) := by simpa only [List.append_assoc] using h
theorem st_out {P X B R : List (Nat × Obj)} (h : St w0 w ((P ++ (X ++ B)) ++ R)) : St w0 w (P ++ (X ++ (B ++ R))) := by simpa only [List.append_assoc] using h
theorem w_rangeC {C : (Nat → List (Nat × Obj) → Prop) → (List (Nat × Obj) → Prop) → Prop} {g : Operand} {pt : Nat} {assign body : Code} {k : FuncId} {first captured : Array Value} {xs : List Value} {F : List (Nat × Obj)} (B : List (Nat × Obj)) (J : Nat → List (Nat × Obj) → Prop) (Js : Code → List (Nat × Obj) → Prop)
    (hog : okO n g = true) (hg : ev ρ g = .func (.func k) first captured) (hpt : Nat.blt pt n = true) (hC : CF P k) (hit : IterC P k first.toList captured.toList xs w0 F C) (hcls : ∀ (a b : Nat × Obj) (cc : Code → Nat × Obj), C (fun i Bx => ∃ B, Bx = a :: b :: B ∧ J i B) (fun Bx => ∃ B c, Bx = cc c :: b :: B ∧ Js c B)) (hst : St w0 w L) (hperm : L.Perm (B ++ F)) (h0 : J 0 B)
    (round : ∀ l i (hi : i < xs.length) B X X' w, J i B → St w0 w (B ++ (X ++ F)) → ∀ K : Act → World → Prop,
      (∀ a w Y, St w0 w (Y ++ (X ++ F)) → (∀ w', St w0 w' (Y ++ (X' ++ F)) → WC (some l) P body (Rd w0 J Js i (X' ++ F)) a w') → K a w) →
      WC (some l) P assign (Exit.then K fun _ _ _ => False) (A n (upd ρ pt xs[i]) []) w)
    (hend : ∀ bd B w, J xs.length B → St w0 w ((bd, .deferred (some [])) :: (B ++ F)) → Q .normal (A n ρ (mk bd :: ds)) w)
    (hjump : ∀ bd c B w, Js c B → St w0 w ((bd, .deferred (some [])) :: (B ++ F)) → WC none P c Q (A n ρ (mk bd :: ds)) w) :
    WC none P (.rangeFunc g #[pt] assign body) Q (A n ρ ds) w := by
  refine wpIn_rangeFunc (F := FW none) fun fn _ => ?_
  have henter := run_enterLoop_outer (P := P) (w := w) fn (A n ρ ds).tmps #[pt] assign body
  let bd := w.heap.size
  let l := w.heap.size + 1
  let rc (s : LoopState) (pend : Option Code) : Obj := .loop { state := s, pending := pend, fn := fn, tmps := fa n ρ, params := #[pt], assign := assign, body := body, defers := bd }
  let w1 : World := (w.alloc (.deferred (some []))).alloc (rc .ready none)
  have hst1 : St w0 w1 ((l, rc .ready none) :: (bd, .deferred (some [])) :: L) := by
    have h1 := (hst.alloc (.deferred (some []))).alloc (rc .ready none)
    rw [World.size_alloc] at h1
    exact h1
  refine ⟨l, [mk bd], w1, { target := .fn (.func k) captured, args := first ++ #[.func (.yield l) #[] #[]] }, w1, k, first ++ #[.func (.yield l) #[] #[]] ++ captured, w1, henter, ?_, fun _ _ => trivial, ?_, fun h => (by simp at h), ?_⟩
  · have e1 : (#[Operand.const (Value.func (Fn.yield l) #[] #[])].map (A n ρ ds).eval) = #[Value.func (Fn.yield l) #[] #[]] := by simp [Act.eval]
    simp only [resolve, rangeCall, zCk hog, hg, Deferred.ofValue, e1]
    rfl
  · exact hC (first ++ #[Value.func (Fn.yield l) #[] #[]] ++ captured) w1
  · have hperm1 : ((l, rc .ready none) :: (bd, .deferred (some [])) :: L).Perm ([] ++ (((l, rc .ready none) :: (bd, .deferred (some [])) :: B) ++ F)) := (List.Perm.cons _ (List.Perm.cons _ hperm))
    have hI := hit (fun i Bx => ∃ B, Bx = (l, rc .ready none) :: (bd, .deferred (some [])) :: B ∧ J i B) (fun Bx => ∃ B c, Bx = (l, rc .done (some c)) :: (bd, .deferred (some [])) :: B ∧ Js c B) (hcls (l, rc .ready none) (bd, .deferred (some [])) (fun c => (l, rc .done (some c)))) (.func (.yield l) #[] #[])
      ((l, rc .ready none) :: (bd, .deferred (some [])) :: B) [] w1 ⟨_, _,_, rfl⟩ ?_ ⟨B, rfl, h0⟩ (hst1.perm hperm1)
    · have hargs : (first ++ #[Value.func (Fn.yield l) #[] #[]] ++ captured) = (first.toList ++ ([Value.func (Fn.yield l) #[] #[]] ++ captured.toList)).toArray := by
        apply Array.ext'; simp
      rw [hargs]
      refine CallsIn.mono hI ?_
      rintro e w' ⟨v, rfl, B', hst', hB⟩
      rcases hB with ⟨B, rfl, hB⟩ | ⟨B, c, rfl, hB⟩
      · have hg' := hst'.get (i := 0) rfl
        refine ⟨none, _, run_endLoop hg' (by simp), ?_⟩
        exact hend bd B _ hB (hst'.putObj (i := 0) rfl _).tail
      · have hg' := hst'.get (i := 0) rfl
        refine ⟨some c, _, run_endLoop hg' (by simp), ?_⟩
        exact hjump bd c B _ hB (hst'.putObj (i := 0) rfl _).tail
    · rintro i hi Bx X w2 ⟨B, rfl, hB⟩ hst2
      have hp : (X ++ (((l, rc .ready none) :: (bd, .deferred (some [])) :: B) ++ F)).Perm ((l, rc .ready none) :: (bd, .deferred (some [])) :: (X ++ (B ++ F))) := zBp X [(l, rc .ready none), (bd, .deferred (some []))] (B ++ F)
      have hst3 := hst2.perm hp
      have hg' := hst3.get (i := 0) rfl
      refine .inr ⟨l, fn, fa n (upd ρ pt xs[i]), assign, body, rfl, ?_, ?_⟩
      · rw [run_yield hg' rfl]
        simp [rc, fa_put]
      · refine roundIn_of_wpIn (F := FW none) trivial ?_
        have hp2 : ((l, rc .ready none) :: (bd, .deferred (some [])) :: (X ++ (B ++ F))).Perm (B ++ (((l, rc .ready none) :: (bd, .deferred (some [])) :: X) ++ F)) :=
          zBp ((l, rc .ready none) :: (bd, .deferred (some [])) :: X) B F
        refine round l i hi B ((l, rc .ready none) :: (bd, .deferred (some [])) :: X) ((l, rc .busy none) :: (bd, .deferred (some [])) :: X) w2 hB (hst3.perm hp2) _ ?_
        intro a w3 Y hst4 hbody
        have hp3 : (Y ++ (((l, rc .ready none) :: (bd, .deferred (some [])) :: X) ++ F)).Perm ((l, rc .ready none) :: (Y ++ (((bd, .deferred (some [])) :: X) ++ F))) := zBp Y [(l, rc .ready none)] _
        have hst5 := hst4.perm hp3
        have hg5 := hst5.get (i := 0) rfl
        refine ⟨_, run_beginRound hg5 rfl, ?_⟩
        have hst6 := hst5.putObj (i := 0) rfl (rc .busy none)
        have hp4 : ((l, rc .busy none) :: (Y ++ (((bd, .deferred (some [])) :: X) ++ F))).Perm (Y ++ (((l, rc .busy none) :: (bd, .deferred (some [])) :: X) ++ F)) := (zBp Y [(l, rc .busy none)] _).symm
        refine w_mono (hbody _ (hst6.perm hp4)) ?_
        have back : ∀ (B' : List (Nat × Obj)) (w : World) (s : LoopState) (pend : Option Code), St w0 w (B' ++ (((l, rc .busy none) :: (bd, .deferred (some [])) :: X) ++ F)) → w.heap[l]? = some (rc .busy none) ∧
            St w0 (w.putObj l (rc s pend)) (X ++ (((l, rc s pend) :: (bd, .deferred (some [])) :: B') ++ F)) := by
          intro B' w s pend h
          have h1 := h.perm (zBp B' [(l, rc .busy none)] (((bd, .deferred (some [])) :: X) ++ F))
          refine ⟨h1.get (i := 0) rfl, ?_⟩
          have h2 := h1.putObj (i := 0) rfl (rc s pend)
          refine h2.perm ?_
          show ((l, rc s pend) :: (B' ++ (((bd, .deferred (some [])) :: X) ++ F))).Perm _
          refine (List.Perm.cons _ (zBp B' [(bd, .deferred (some []))] (X ++ F))).trans ?_
          refine (List.Perm.cons _ (List.Perm.cons _ (zBp B' X F))).trans ?_
          exact (zBp X [(l, rc s pend), (bd, .deferred (some []))] (B' ++ F)).symm
        intro e a' w' hq
        cases e with
        | normal =>
          obtain ⟨B', hs, hJ⟩ := hq
          obtain ⟨hb1, hb2⟩ := back B' w' .ready none hs
          exact ⟨_, _, run_endRound none hb1, _, rfl, _, hb2, .inl ⟨rfl, B', rfl, hJ⟩⟩
        | ret =>
          obtain ⟨B', hs, hJ⟩ := hq
          obtain ⟨hb1, hb2⟩ := back B' w' .done (some .ret) hs
          exact ⟨_, _, run_endRound (some .ret) hb1, _, rfl, _, hb2, .inr ⟨rfl, B', _, rfl, hJ⟩⟩
        | exit id =>
          obtain ⟨B', hs, hJ⟩ := hq
          obtain ⟨hb1, hb2⟩ := back B' w' .done (some (.exit id)) hs
          exact ⟨_, _, run_endRound (some (.exit id)) hb1, _, rfl, _, hb2, .inr ⟨rfl, B', _, rfl, hJ⟩⟩
        | goto t => exact hq.elim
        | panic c => exact hq.elim
        | outgrown => exact hq.elim

end Go.Rt
/- The walking engine, part 13: whole quotients. Plain theorems over the kit's fenced calculus. No conditions. -/
namespace Go.Rt
variable {r : Option Nat} {P : Program} {ops : Array Oper} {Q : Exit → Act → World → Prop} {rest : List Oper} {n : Nat} {ρ : Nat → Value} {ds : List Deferred} {w w0 : World} {d : Option Nat} {ty : TypeId} {p : String} {e : Array Edge} {g : Option (Nat × Bool)} {L : List (Nat × Obj)}
theorem y_quo {t t2 : TypeId} {x y : Operand} {a b : Int} (ho : okO n x = true) (ho1 : okO n y = true) (hx : ev ρ x = .int .i64 a) (hy : ev ρ y = .int .i64 b) (ha : 0 ≤ a) (hb : 0 < b) (hm : a ≤ 9223372036854775807) :
    Yd P (A n ρ ds) ⟨d, .binOp .quo t x y t2, ty, p, e, g⟩ w (.int .i64 (a / b)) := zGx ho ho1 hx hy fun w => by
  have h0 : b ≠ 0 := by omega
  have h1 : 0 ≤ a / b := Int.ediv_nonneg ha (by omega)
  have h2 : a / b ≤ a := Int.ediv_le_self _ ha
  have hw : IntKind.i64.wrap (a / b) = a / b := zFk (by omega) (by omega)
  simp [binOp_quo, Op.intDiv, h0, Int.tdiv_eq_ediv_of_nonneg ha, hw]
theorem y_eqB {t t2 : TypeId} {x y : Operand} {a b : Bool} (ht : P.underlying t = some .bool) (ho : okO n x = true) (ho1 : okO n y = true) (hx : ev ρ x = .bool a) (hy : ev ρ y = .bool b) :
    Yd P (A n ρ ds) ⟨d, .binOp .eql t x y t2, ty, p, e, g⟩ w (.bool (decide (a = b))) := by
  have : (a == b) = decide (a = b) := by cases a <;> cases b <;> rfl
  simp [Yd, execOp, zCk ho, zCk ho1, hx, hy, eqGuard_at_bool, Sem.run_bind, binOp, run_equal_bool w t a b ht, Result.andThen, this]
theorem y_neB {t t2 : TypeId} {x y : Operand} {a b : Bool} (ht : P.underlying t = some .bool) (ho : okO n x = true) (ho1 : okO n y = true) (hx : ev ρ x = .bool a) (hy : ev ρ y = .bool b) :
    Yd P (A n ρ ds) ⟨d, .binOp .neq t x y t2, ty, p, e, g⟩ w (.bool (!decide (a = b))) := by
  have : (a == b) = decide (a = b) := by cases a <;> cases b <;> rfl
  simp [Yd, execOp, zCk ho, zCk ho1, hx, hy, eqGuard_at_bool, Sem.run_bind, binOp, run_equal_bool w t a b ht, Result.andThen, this, bne]
theorem w_drawD {id : Nat} {l : List Oper} {Q : Exit → Act → World → Prop} {C0 C : World → Prop} (late : List Nat) (ord : List (Nat × Nat)) (hm : P.follows .mixedOrders = true) (hB : drawOK l.toArray late ord = true) (hC : C0 w) (h0 : ∀ w, C0 w → C w)
    (hdrew : ∀ w, C0 w → C0 { w with drawn := w.drawn + 1 }) (h : ∀ w', C0 w' → DW r P l.toArray (fun a w => Q .normal a w) C ord (A n ρ ds) w') : WC r P (.region id l.toArray true) Q (A n ρ ds) w := by
  unfold drawOK at hB
  simp only [Bool.and_eq_true] at hB
  obtain ⟨⟨⟨h1, h2⟩, h3⟩, h4⟩ := hB
  have hst' := hdrew _ hC
  have hsz : ord.length = l.toArray.size := Nat.eq_of_beq_eq_true h3
  have := zHb h1 h2 ord (Array.replicate l.toArray.size false) (A n ρ ds) _ (by simp) h4 (fun _ => h0 _ hst') (h _ hst')
  have hany := zEt _ _ _ _ this
  rw [hsz] at hany
  refine wpIn_mono (wpIn_region_any hm hany) ?_
  intro e a w hq
  cases e <;> first | exact hq | exact hq.elim
end Go.Rt
/- The walking engine, part 14: lookups that ask for the value alone. No conditions. -/
namespace Go.Rt
open Go.RowKit
variable {r : Option Nat} {P : Program} {ops : Array Oper} {Q : Exit → Act → World → Prop} {rest : List Oper} {n : Nat} {ρ : Nat → Value} {ds : List Deferred} {d : Option Nat} {ty : TypeId} {p : String} {e : Array Edge} {g : Option (Nat × Bool)} {w w0 : World} {L : List (Nat × Obj)}
end Go.Rt
/- The walking engine, part 15: loops that hold ranges over functions: the marks pile up. No conditions. -/
namespace Go.Rt
open Go.RowKit
variable {r : Option Nat} {P : Program} {ops : Array Oper} {Q : Exit → Act → World → Prop} {rest : List Oper} {n : Nat} {ρ : Nat → Value} {ds : List Deferred} {w w0 : World} {L : List (Nat × Obj)}
def mks (bs : List Nat) : List Deferred := bs.map mk
def dfs (bs : List Nat) : List (Nat × Obj) := bs.map fun b => (b, .deferred (some []))
def NxD (n : Nat) (D S : List Nat) (ρ : Nat → Value) (I : Nat → List Value → List Nat → World → Prop) (k : Nat) (a : Act) (w : World) : Prop :=
  ∃ ρ' k' bs', a = A n ρ' (mks bs') ∧ Agree D ρ ρ' ∧ k' < k ∧ I k' (S.map ρ') bs' w
theorem NxD.intro {D S : List Nat} {I : Nat → List Value → List Nat → World → Prop} {k : Nat} {ρ' : Nat → Value} (bs' : List Nat) (k' : Nat) (hk : k' < k) (ha : Agree D ρ ρ') (hI : I k' (S.map ρ') bs' w) : NxD n D S ρ I k (A n ρ' (mks bs')) w :=
  ⟨ρ', k', bs', rfl, ha, hk, hI⟩
open Classical in
theorem w_loopD {c : Code} (D S : List Nat) (I : Nat → List Value → List Nat → World → Prop) (k0 : Nat) (bs0 : List Nat) (h0 : I k0 (S.map ρ) bs0 w)
    (round : ∀ k vs μ bs w, I k vs bs w → ∀ K : Act → World → Prop, (∀ a w, NxD n D S ρ I k a w → K a w) → WC r P c (Exit.then K Q) (A n (updL (mix D ρ μ) S vs) (mks bs)) w) :
    WC r P (.loop c) Q (A n ρ (mks bs0)) w := by
  let J : Nat → Act → World → Prop := fun k a w => ∃ vs μ bs, a = A n (updL (mix D ρ μ) S vs) (mks bs) ∧ I k vs bs w
  refine wpIn_loop (fun a w => ∃ k, J k a w) (fun a w => leastOf fun k => J k a w) ⟨k0, S.map ρ, ρ, bs0, by rw [zGb S zIm], h0⟩ ?_
  intro a w hI
  obtain ⟨vs, μ, bs, ha, hi⟩ := (leastOf_spec hI).1
  subst ha
  refine wpIn_mono (round _ vs μ bs w hi _ fun _ _ h => h) ?_
  intro e a' w' hq
  cases e with
  | normal =>
    obtain ⟨ρ', k', bs', rfl, hag, hlt, hI'⟩ := hq
    have hJ : J k' (A n ρ' (mks bs')) w' := ⟨S.map ρ', ρ', bs', by rw [zGb S hag], hI'⟩
    exact show (∃ k, J k (A n ρ' (mks bs')) w') ∧ leastOf (fun k => J k (A n ρ' (mks bs')) w') < leastOf (fun k => J k _ w) from ⟨⟨k', hJ⟩, Nat.lt_of_le_of_lt ((leastOf_spec ⟨k', hJ⟩).2 k' hJ) hlt⟩
  | exit id => exact hq
  | goto l => exact hq
  | ret => exact hq
  | panic ch => exact hq
  | outgrown => exact hq
theorem leavesMM {fn : Func} {l : List ResultVar} {vs : List Value} {R : Value → World → Prop} (hl : fn.results = l.toArray) : ∀ (bs : List Nat) (w : World), St w0 w (dfs bs ++ L) → (∀ w', St w0 w' L → RVs P ρ n w' l vs ∧ R (retV vs) w') →
    LeavesInM (FW none) 0 P fn (fa n ρ) (fun e w' => ∃ v, e = .returned v ∧ R v w') (mks bs) .returning w
  | [], w, hst, h => by
    obtain ⟨h1, h2⟩ := h _ hst
    exact ⟨_, zHf hl h1, _, rfl, h2⟩
  | bd :: bs, w, hst, h => by
    have hst1 : St w0 w ((bd, .deferred (some [])) :: (dfs bs ++ L)) := hst
    exact ⟨by simp, .inl ⟨bd, _, rfl, run_takeDeferred (hst1.get (i := 0) rfl), leavesMM hl bs _ (hst1.putObj (i := 0) rfl _).tail h⟩⟩
theorem q_retMM {fn : Func} {l : List ResultVar} {vs : List Value} {R : Value → World → Prop} {bs : List Nat} (hst : St w0 w (dfs bs ++ L)) (hl : fn.results = l.toArray)
    (h : ∀ w', St w0 w' L → RVs P ρ n w' l vs ∧ R (retV vs) w') :
    bodyPostM (FW none) 0 P fn (fun e w' => ∃ v, e = .returned v ∧ R v w') .ret (A n ρ (mks bs)) w := leavesMM hl bs w hst h
end Go.Rt
/- The walking engine, part 16: the check of one order of a region, over numbers as sets of bits. No conditions. -/
namespace Go.Rt
open Go.RowKit
variable {r : Option Nat} {P : Program} {ops : Array Oper} {Q : Exit → Act → World → Prop} {rest : List Oper} {n : Nat} {ρ : Nat → Value} {ds : List Deferred} {w w0 : World} {L : List (Nat × Obj)}
def tb (m i : Nat) : Bool := Nat.beq (Nat.land (Nat.shiftRight m i) 1) 1
theorem tb_eq (m i : Nat) : tb m i = m.testBit i := by
  have h : Nat.land (Nat.shiftRight m i) 1 = (m >>> i) % 2 := by
    show (m >>> i) &&& 1 = _
    exact Nat.and_one_is_mod _
  have h2 : m.testBit i = decide ((m >>> i) % 2 = 1) := by rw [Nat.testBit_eq_decide_div_mod_eq, Nat.shiftRight_eq_div_pow]
  unfold tb
  rw [h, h2, Bool.eq_iff_iff, Nat.beq_eq, decide_eq_true_eq]
def orB (m i : Nat) : Nat := Nat.lor m (Nat.shiftLeft 1 i)
theorem tb_orB (m i j : Nat) : tb (orB m i) j = (tb m j || decide (i = j)) := by
  rw [tb_eq, tb_eq]
  show (m ||| (1 <<< i)).testBit j = _
  rw [Nat.testBit_or, Nat.shiftLeft_eq, Nat.one_mul, Nat.testBit_two_pow]
def maskOf : List Nat → Nat
  | [] => 0
  | x :: l => orB (maskOf l) x
theorem zH4 (j : Nat) : ∀ l : List Nat, tb (maskOf l) j = l.contains j
  | [] => by simp [maskOf, tb_eq]
  | x :: l => by
    simp only [maskOf, tb_orB, zH4 j l, List.contains_cons]
    rw [Bool.or_comm]
    congr 1
    rw [Bool.eq_iff_iff]; simp only [decide_eq_true_eq, beq_iff_eq, Nat.beq_eq]; exact eq_comm
def subN (a m : Nat) : Bool := Nat.beq (Nat.land a m) a
theorem sub_iff (a m : Nat) : subN a m = true ↔ ∀ j, tb a j = true → tb m j = true := by
  unfold subN
  rw [Nat.beq_eq]
  constructor
  · intro h j hj
    have h1 : (a &&& m).testBit j = a.testBit j := by rw [show a &&& m = a from h]
    rw [Nat.testBit_and] at h1
    rw [tb_eq] at hj ⊢
    rw [hj] at h1; simpa using h1
  · intro h
    show a &&& m = a
    apply Nat.eq_of_testBit_eq
    intro j
    rw [Nat.testBit_and]
    have := h j
    rw [tb_eq, tb_eq] at this
    cases ha : a.testBit j with
    | false => rfl
    | true => rw [this ha]; rfl
structure OpS where
  nd : Nat
  dst : Option Nat
  lk : Nat
def opS (ops : Array Oper) (o : Oper) : OpS := ⟨maskOf ((o.after.toList.filter (Region.binds .any)).map (·.on)), o.dst, maskOf (o.looksAt ops)⟩
def sumS (ops : Array Oper) : List OpS := ops.toList.map (opS ops)
def readyN : List OpS → Nat → Nat → List Nat
  | [], _, _ => []
  | x :: s, i, m => bif (!tb m i) && subN x.nd m then i :: readyN s (i + 1) m else readyN s (i + 1) m
def apartN (x y : OpS) : Bool :=
  (match x.dst with | some d => !tb y.lk d && y.dst != some d | none => true) && (match y.dst with | some d => !tb x.lk d | none => true)
def freeN (xi : OpS) (i m : Nat) : List OpS → Nat → Bool
  | [], _ => true
  | y :: s, j => (Nat.beq j i || tb m j || tb y.nd i || apartN xi y) && freeN xi i m s (j + 1)
def closeN (s : List OpS) (i : Nat) : Nat → Nat → Nat
  | 0, m => m
  | k + 1, m => closeN s i k ((readyN s 0 m).foldl (fun m j => bif Nat.beq j i then m else orB m j) m)
def memN (i : Nat) : List Nat → Bool
  | [] => false
  | j :: l => Nat.beq j i || memN i l
def onlyN (i : Nat) : List Nat → Bool
  | [j] => Nat.beq j i
  | _ => false
def drawN (s : List OpS) (n : Nat) (late : List Nat) : List (Nat × Nat) → Nat → Bool
  | [], m => match readyN s 0 m with | [] => true | _ => false
  | (i, t) :: rest, m =>
    (match t with
     | 0 => memN i (readyN s 0 m) && (match s[i]? with | some x => freeN x i m s 0 | none => false) && !memN i late
     | 1 => memN i (readyN s 0 m) && (match s[i]? with | some x => freeN x i m s 0 | none => false) && !memN i late &&
        (let c := closeN s i n m; ((readyN s 0 c).all fun j => Nat.beq j i) && !(late.any fun q => tb c q) && !tb c i && subN m c)
     | 2 => onlyN i (readyN s 0 m) && !memN i late
     | _ => onlyN i (readyN s 0 m) && memN i late) && drawN s n late rest (orB m i)
def drawOKN (ops : Array Oper) (late : List Nat) (ord : List (Nat × Nat)) : Bool :=
  Region.noSelect ops && noDefer ops && Nat.beq ord.length ops.size && drawN (sumS ops) ops.size late ord 0
def Rep (ops : Array Oper) (l : Array Bool) (m : Nat) : Prop := l.size = ops.size ∧ ∀ j, l.getD j false = tb m j
theorem zIe (i : Nat) : ∀ l : List Nat, memN i l = l.contains i
  | [] => rfl
  | j :: l => by
    simp only [memN, zIe i l, List.contains_cons]
    congr 1
    rw [Bool.eq_iff_iff]; simp only [decide_eq_true_eq, beq_iff_eq, Nat.beq_eq]; exact eq_comm
theorem zI5 {i : Nat} {l : List Nat} (h : onlyN i l = true) : l = [i] := by
  match l with
  | [] => cases h
  | [j] => simp only [onlyN, Nat.beq_eq] at h; rw [h]
  | _ :: _ :: _ => cases h
theorem zHg {l : Array Bool} {m : Nat} (h : Rep ops l m) : Region.ready .any ops l = readyN (sumS ops) 0 m := by
  have key : ∀ (s : List Oper) (i : Nat), (∀ k (hk : k < s.length), ops[i + k]? = some s[k]) → (List.range' i s.length).filter (fun j => !l.getD j true && ((ops[j]?).map (·.after.all fun e => !Region.binds .any e || l.getD e.on false)).getD false) = readyN (s.map (opS ops)) i m := by
    intro s
    induction s with
    | nil => intro i _; rfl
    | cons x s ih =>
      intro i hk
      have hx : ops[i]? = some x := hk 0 (by simp)
      have hlt : i < ops.size := (Array.getElem?_eq_some_iff.1 hx).1
      have hih := ih (i + 1) (fun k hk2 => by have := hk (k + 1) (by simpa using hk2); rw [show i + 1 + k = i + (k + 1) by omega]; simpa using this)
      have hT : l.getD i true = tb m i := by
        rw [← h.2 i]
        have : i < l.size := by rw [h.1]; exact hlt
        simp [this]
      have hA : (x.after.all fun e => !Region.binds .any e || l.getD e.on false) = subN (opS ops x).nd m := by
        rw [Bool.eq_iff_iff, sub_iff, Array.all_eq_true_iff_forall_mem]
        unfold opS
        dsimp only
        constructor
        · intro hall j hj
          rw [zH4, List.contains_iff_mem] at hj
          obtain ⟨e, he, rfl⟩ := List.mem_map.1 hj
          obtain ⟨he1, he2⟩ := List.mem_filter.1 he
          have := hall e (by simpa using he1)
          rw [he2, h.2] at this
          simpa using this
        · intro hall e he
          rw [h.2]
          cases hb : Region.binds .any e with
          | false => rfl
          | true =>
            have := hall e.on (by rw [zH4, List.contains_iff_mem]; exact List.mem_map.2 ⟨e, List.mem_filter.2 ⟨by simpa using he, hb⟩, rfl⟩)
            simpa using this
      rw [List.length_cons, List.range'_succ, List.filter_cons, List.map_cons, readyN, ← hih]
      simp only [hx, hT, Option.map_some, Option.getD_some, hA]
      cases (!tb m i && subN (opS ops x).nd m) <;> rfl
  have := key ops.toList 0 (fun k hk => by rw [Nat.zero_add]; simp at hk ⊢)
  unfold Region.ready sumS
  rw [← this, List.range_eq_range', Array.length_toList]
theorem zHh {i m : Nat} (h : memN i (readyN (sumS ops) 0 m) = true) : i < ops.size := by
  have key : ∀ (s : List OpS) (b : Nat), memN i (readyN s b m) = true → i < b + s.length := by
    intro s
    induction s with
    | nil => intro b h; simp [readyN, memN] at h
    | cons x s ih =>
      intro b h
      simp only [readyN] at h
      cases hc : (!tb m b && subN x.nd m) with
      | false => rw [hc] at h; have := ih (b + 1) h; simp only [List.length_cons]; omega
      | true =>
        rw [hc] at h
        simp only [cond_true, memN, Bool.or_eq_true, Nat.beq_eq] at h
        rcases h with h | h
        · simp only [List.length_cons]; omega
        · have := ih (b + 1) h; simp only [List.length_cons]; omega
  have := key _ _ h
  simpa [sumS] using this
theorem rep_set {l : Array Bool} {m i : Nat} (h : Rep ops l m) (hi : i < ops.size) : Rep ops (l.setIfInBounds i true) (orB m i) := by
  refine ⟨by simpa using h.1, fun j => ?_⟩
  rw [tb_orB, ← h.2 j]
  by_cases e : i = j
  · subst e
    have : i < l.size := by rw [h.1]; exact hi
    simp [this]
  · simp [e, Array.getElem?_setIfInBounds_ne e]
theorem apart_rep (x y : Oper) : apartN (opS ops x) (opS ops y) = x.apart ops y := by
  unfold apartN Oper.apart opS
  dsimp only
  congr 1
  · cases x.dst with
    | none => rfl
    | some d => dsimp only; rw [zH4]
  · cases y.dst with
    | none => rfl
    | some d => dsimp only; rw [zH4]
theorem free_rep {l : Array Bool} {m i : Nat} (h : Rep ops l m) (hf : (match (sumS ops)[i]? with | some x => freeN x i m (sumS ops) 0 | none => false) = true) : Region.free .any ops l i = true := by
  unfold Region.free
  have hsum : (sumS ops)[i]? = (ops[i]?).map (opS ops) := by simp [sumS]
  rw [hsum] at hf
  cases hoi : ops[i]? with
  | none => rw [hoi] at hf; cases hf
  | some oi =>
    rw [hoi] at hf
    dsimp only [Option.map_some] at hf ⊢
    rw [List.all_eq_true]
    intro j hj
    rw [List.mem_range] at hj
    have key : ∀ (s : List Oper) (b : Nat), freeN (opS ops oi) i m (s.map (opS ops)) b = true → ∀ k (hk : k < s.length), (Nat.beq (b + k) i || tb m (b + k) || tb (opS ops s[k]).nd i || apartN (opS ops oi) (opS ops s[k])) = true := by
      intro s
      induction s with
      | nil => intro b _ k hk; simp at hk
      | cons x s ih =>
        intro b hb k hk
        simp only [List.map_cons, freeN] at hb
        rw [Bool.and_eq_true] at hb
        match k with
        | 0 => simpa using hb.1
        | k + 1 =>
          have := ih (b + 1) hb.2 k (by simpa using hk)
          rw [show b + (k + 1) = b + 1 + k by omega]
          simpa using this
    have hk := key ops.toList 0 hf j (by simpa using hj)
    rw [Nat.zero_add] at hk
    have hoj : ops[j]? = some ops[j] := by simp [hj]
    rw [hoj]
    dsimp only
    have hT : l.getD j true = tb m j := by
      rw [← h.2 j]
      have : j < l.size := by rw [h.1]; exact hj
      simp [this]
    rw [hT, ← apart_rep]
    simp only [Bool.or_eq_true, Nat.beq_eq] at hk ⊢
    rcases hk with ((hk | hk) | hk) | hk
    · left; left; simpa using hk
    · left; right; exact hk
    · right; left
      rw [Array.any_eq_true']
      unfold opS at hk
      dsimp only at hk
      rw [zH4, List.contains_iff_mem] at hk
      obtain ⟨e, he, hei⟩ := List.mem_map.1 hk
      obtain ⟨he1, he2⟩ := List.mem_filter.1 he
      exact ⟨e, by simpa using he1, by simp [he2, hei]⟩
    · right; right
      simpa using hk
theorem close_rep (i : Nat) : ∀ (k : Nat) {l : Array Bool} {m : Nat}, Rep ops l m → Rep ops (closeB ops i k l) (closeN (sumS ops) i k m)
  | 0, _,_, h => h
  | k + 1, l, m, h => by
    unfold closeB closeN
    refine close_rep i k ?_
    rw [zHg h]
    have key : ∀ (xs : List Nat) (l : Array Bool) (m : Nat), (∀ x ∈ xs, x < ops.size) → Rep ops l m → Rep ops (xs.foldl (fun l j => bif Nat.beq j i then l else l.setIfInBounds j true) l) (xs.foldl (fun m j => bif Nat.beq j i then m else orB m j) m) := by
      intro xs
      induction xs with
      | nil => intro l m _ h; exact h
      | cons x xs ih =>
        intro l m hx h
        rw [List.foldl_cons, List.foldl_cons]
        refine ih _ _ (fun y hy => hx y (.tail _ hy)) ?_
        cases Nat.beq x i
        · exact rep_set h (hx x (.head _))
        · exact h
    exact key _ _ _ (fun x hx => zHh (by rw [zIe, List.contains_iff_mem]; exact hx)) h
theorem draw_rep {late : List Nat} : ∀ (ord : List (Nat × Nat)) {l : Array Bool} {m : Nat}, Rep ops l m → drawN (sumS ops) ops.size late ord m = true → drawB ops late ord l = true
  | [], l, m, h, hd => by
    simp only [drawN] at hd
    simp only [drawB, zHg h]
    cases hr : readyN (sumS ops) 0 m with
    | nil => rfl
    | cons _ _ => rw [hr] at hd; cases hd
  | (i, t) :: rest, l, m, h, hd => by
    simp only [drawN, Bool.and_eq_true] at hd
    obtain ⟨h1, h2⟩ := hd
    simp only [drawB, Bool.and_eq_true]
    have hlt : i < ops.size := by
      match t, h1 with
      | 0, h1 => simp only [Bool.and_eq_true] at h1; exact zHh h1.1.1
      | 1, h1 => simp only [Bool.and_eq_true] at h1; exact zHh h1.1.1.1
      | 2, h1 => simp only [Bool.and_eq_true] at h1; exact zHh (m := m) (by rw [zI5 h1.1]; simp [memN])
      | t + 3, h1 => simp only [Bool.and_eq_true] at h1; exact zHh (m := m) (by rw [zI5 h1.1]; simp [memN])
    refine ⟨?_, draw_rep rest (rep_set h hlt) h2⟩
    rw [zHg h]
    match t, h1 with
    | 0, h1 =>
      simp only [Bool.and_eq_true, zIe] at h1 ⊢
      exact ⟨⟨h1.1.1, free_rep h h1.1.2⟩, h1.2⟩
    | 1, h1 =>
      simp only [Bool.and_eq_true, zIe] at h1 ⊢
      obtain ⟨⟨⟨a1, a2⟩, a3⟩, ⟨⟨⟨a4, a5⟩, a6⟩, a7⟩⟩ := h1
      have hc := close_rep i ops.size h
      refine ⟨⟨⟨a1, free_rep h a2⟩, a3⟩, ⟨⟨⟨?_, ?_⟩, ?_⟩, ?_⟩⟩
      · rw [zHg hc]; exact a4
      · rw [← a5]
        unfold badB
        congr 2
        funext q; exact hc.2 q
      · rw [hc.2]; exact a6
      · rw [List.all_eq_true]
        intro j _
        have := (sub_iff _ _).1 a7 j
        rw [h.2, hc.2]
        cases ht : tb m j with
        | false => rfl
        | true => rw [this ht]; rfl
    | 2, h1 =>
      simp only [Bool.and_eq_true, zIe] at h1 ⊢
      exact ⟨by rw [zI5 h1.1]; simp, h1.2⟩
    | t + 3, h1 =>
      simp only [Bool.and_eq_true, zIe] at h1 ⊢
      exact ⟨by rw [zI5 h1.1]; simp, h1.2⟩
theorem zBk {late : List Nat} {ord : List (Nat × Nat)} (h : drawOKN ops late ord = true) : drawOK ops late ord = true := by
  unfold drawOKN at h
  unfold drawOK
  simp only [Bool.and_eq_true] at h ⊢
  exact ⟨h.1, draw_rep ord ⟨by simp, fun j => by
    have : tb 0 j = false := by rw [tb_eq]; exact Nat.zero_testBit j
    rw [this]
    by_cases hj : j < ops.size
    · simp [hj]
    · simp [hj]⟩ h.2⟩
end Go.Rt
/- The walking engine, part 17: a number of sixteen bits as an int. No conditions. -/
namespace Go.Rt
open Go.RowKit
variable {P : Program} {n : Nat} {ρ : Nat → Value} {ds : List Deferred} {w : World} {d : Option Tmp} {ty : TypeId} {p : String} {e : Array Edge} {g : Option (Nat × Bool)}
theorem y_u16int {s t : TypeId} {x : Operand} {a : Int} (hs : (P.underlying s).isSome = true) (ht : P.underlying t = some (.int .i64)) (ho : okO n x = true) (hx : ev ρ x = .int .u16 a) (h0 : 0 ≤ a) (h1 : a ≤ 65535) :
    Yd P (A n ρ ds) ⟨d, .convert s t x, ty, p, e, g⟩ w (.int .i64 a) := by
  obtain ⟨q, hq⟩ := Option.isSome_iff_exists.1 hs
  have hw : IntKind.i64.wrap a = a := zFk (by omega) (by omega)
  simp [Yd, execOp, zCk ho, hx, Sem.run_bind, convert, run_underlying hq, run_underlying ht, Result.andThen, Conv.intToInt, hw]
end Go.Rt
/- The walking engine, part 18: maps as lists of keys and values; ranges over maps. No conditions. -/
set_option linter.unusedSectionVars false
namespace Go.Rt
open Go.RowKit
section
variable {α : Type} [DecidableEq α]
def ents (kv : α → Value) (l : List (α × Value × Nat)) : List MapEntry := l.map fun q => { key := kv q.1, val := q.2.1, born := q.2.2 }
def idxA (a : α) : List (α × Value × Nat) → Nat → Option (Nat × Value)
  | [], _ => none
  | q :: l, i => if q.1 = a then some (i, q.2.1) else idxA a l (i + 1)
def getA (a : α) : List (α × Value × Nat) → Option Value
  | [] => none
  | q :: l => if q.1 = a then some q.2.1 else getA a l
def putA (a : α) (v : Value) (ck : Nat) : List (α × Value × Nat) → List (α × Value × Nat)
  | [] => [(a, v, ck)]
  | q :: l => if q.1 = a then (a, v, q.2.2) :: l else q :: putA a v ck l
structure KeyG (P : Program) (t : TypeId) (kv : α → Value) (ok : α → Prop) : Prop where
  chk : ∀ (em : Bool) (a : α) (w : World), ok a → (Instr.checkKey em 10000 t (kv a)).run P w = .ok () w
  find : ∀ (a : α) (l : List (α × Value × Nat)) (w : World), ok a → (∀ q ∈ l, ok q.1) → (Instr.findKey t (kv a) (ents kv l)).run P w = .ok (idxA a l 0) w
  stay : ∀ a : α, ok a → Instr.sameBits 10000 (kv a) (kv a) = true
theorem idxA_get {a : α} : ∀ (l : List (α × Value × Nat)) (i : Nat), (idxA a l i).map (·.2) = getA a l
  | [], _ => rfl
  | q :: l, i => by
    by_cases h : q.1 = a
    · simp [idxA, getA, h]
    · simp [idxA, getA, h, idxA_get l]
theorem zHr {a : α} : ∀ (l : List (α × Value × Nat)) (i : Nat), idxA a l (i + 1) = (idxA a l i).map fun p => (p.1 + 1, p.2)
  | [], _ => rfl
  | q :: l, i => by
    by_cases h : q.1 = a
    · simp [idxA, h]
    · simp [idxA, h, zHr l]
theorem putA_none {a : α} {v : Value} {ck : Nat} : ∀ {l : List (α × Value × Nat)}, idxA a l 0 = none → putA a v ck l = l ++ [(a, v, ck)]
  | [], _ => rfl
  | q :: l, h => by
    by_cases e : q.1 = a
    · simp [idxA, e] at h
    · simp only [idxA, if_neg e] at h
      rw [zHr] at h
      simp only [putA, if_neg e, List.cons_append]
      rw [putA_none (by simpa using h)]
theorem putA_some {kv : α → Value} {a : α} {v : Value} {ck : Nat} : ∀ {l : List (α × Value × Nat)} {i : Nat} {u : Value}, idxA a l 0 = some (i, u) → ents kv (putA a v ck l) = (ents kv l).modify i (fun e => { e with key := kv a, val := v })
  | [], _,_, h => by simp [idxA] at h
  | q :: l, i, u, h => by
    by_cases e : q.1 = a
    · simp only [idxA, if_pos e] at h
      injection h with h; injection h with h1 h2
      subst h1
      simp [putA, e, ents]
    · simp only [idxA, if_neg e] at h
      rw [zHr] at h
      cases hq : idxA a l 0 with
      | none => rw [hq] at h; cases h
      | some p =>
        rw [hq] at h
        injection h with h; injection h with h1 h2
        subst h1
        have ih := putA_some (kv := kv) (v := v) (ck := ck) (show idxA a l 0 = some (p.1, p.2) from hq)
        have e1 : ents kv (putA a v ck (q :: l)) = { key := kv q.1, val := q.2.1, born := q.2.2 } :: ents kv (putA a v ck l) := by simp [putA, e, ents]
        rw [e1, ih]
        show _ = (_ :: ents kv l).modify (p.1 + 1) _
        simp
theorem idxA_at {kv : α → Value} {a : α} : ∀ {l : List (α × Value × Nat)} {i : Nat} {u : Value}, idxA a l 0 = some (i, u) → ((ents kv l)[i]?).map (·.key) = some (kv a)
  | [], _,_, h => by simp [idxA] at h
  | q :: l, i, u, h => by
    by_cases e : q.1 = a
    · simp only [idxA, if_pos e] at h
      injection h with h; injection h with h1 h2
      subst h1
      simp [ents, e]
    · simp only [idxA, if_neg e] at h
      rw [zHr] at h
      cases hq : idxA a l 0 with
      | none => rw [hq] at h; cases h
      | some p =>
        rw [hq] at h
        injection h with h; injection h with h1 h2
        subst h1
        have ih := idxA_at (kv := kv) (show idxA a l 0 = some (p.1, p.2) from hq)
        show ((_ :: ents kv l)[p.1 + 1]?).map _ = _
        simpa using ih
theorem zGn {a : α} {v : Value} {ck : Nat} {q : α × Value × Nat} : ∀ {l : List (α × Value × Nat)}, q ∈ putA a v ck l → (q.1 = a ∧ q.2.1 = v) ∨ q ∈ l
  | [], h => by simp [putA] at h; subst h; exact .inl ⟨rfl, rfl⟩
  | x :: l, h => by
    by_cases e : x.1 = a
    · simp only [putA, if_pos e] at h
      cases h with
      | head => exact .inl ⟨rfl, rfl⟩
      | tail _ h => exact .inr (.tail _ h)
    · simp only [putA, if_neg e] at h
      cases h with
      | head => exact .inr (.head _)
      | tail _ h =>
        rcases zGn h with h | h
        · exact .inl h
        · exact .inr (.tail _ h)
structure MOk (l : List (α × Value × Nat)) (ck : Nat) : Prop where
  born : ∀ q ∈ l, q.2.2 < ck
  bnd : (l.map (·.2.2)).Nodup
  key : (l.map (·.1)).Nodup
theorem mok_nil : MOk ([] : List (α × Value × Nat)) 0 := ⟨by simp, by simp, by simp⟩
theorem borns_putA {a : α} {v : Value} {ck : Nat} : ∀ {l : List (α × Value × Nat)}, (idxA a l 0 ≠ none ∧ (putA a v ck l).map (·.2.2) = l.map (·.2.2) ∧ (putA a v ck l).map (·.1) = l.map (·.1)) ∨ (idxA a l 0 = none ∧ (putA a v ck l).map (·.2.2) = l.map (·.2.2) ++ [ck] ∧ (putA a v ck l).map (·.1) = l.map (·.1) ++ [a] ∧ a ∉ l.map (·.1))
  | [] => .inr ⟨rfl, rfl, rfl, by simp⟩
  | x :: l => by
    by_cases e : x.1 = a
    · left; simp [idxA, putA, e]
    · have hx : idxA a (x :: l) 0 = (idxA a l 0).map fun p => (p.1 + 1, p.2) := by simp only [idxA, if_neg e]; exact zHr l 0
      rcases borns_putA (a := a) (v := v) (ck := ck) (l := l) with ⟨h1, h2, h3⟩ | ⟨h1, h2, h3, h4⟩
      · left
        refine ⟨by rw [hx]; intro h; simp at h; exact h1 h, by simp [putA, e, h2], by simp [putA, e, h3]⟩
      · right
        refine ⟨by rw [hx, h1]; rfl, by simp [putA, e, h2], by simp [putA, e, h3], ?_⟩
        rw [List.map_cons, List.mem_cons, not_or]
        exact ⟨fun h => e h.symm, h4⟩
theorem MOk.put {l : List (α × Value × Nat)} {ck : Nat} (h : MOk l ck) (a : α) (v : Value) : MOk (putA a v ck l) (if idxA a l 0 = none then ck + 1 else ck) := by
  have hb : ∀ z ∈ l.map (·.2.2), z < ck := by intro z hz; obtain ⟨q, hq, rfl⟩ := List.mem_map.1 hz; exact h.born q hq
  rcases borns_putA (a := a) (v := v) (ck := ck) (l := l) with ⟨h1, h2, h3⟩ | ⟨h1, h2, h3, h4⟩
  · rw [if_neg h1]
    exact ⟨fun q hq => hb _ (by rw [← h2]; exact List.mem_map_of_mem hq), by rw [h2]; exact h.bnd, by rw [h3]; exact h.key⟩
  · rw [if_pos h1]
    refine ⟨fun q hq => ?_, ?_, ?_⟩
    · have : q.2.2 ∈ (putA a v ck l).map (·.2.2) := List.mem_map_of_mem (f := fun q : α × Value × Nat => q.2.2) hq
      rw [h2, List.mem_append, List.mem_singleton] at this
      rcases this with h5 | h5
      · have := hb _ h5; omega
      · omega
    · rw [h2, List.nodup_append]
      refine ⟨h.bnd, by simp, fun x hx y hy => ?_⟩
      rw [List.mem_singleton] at hy
      subst hy
      have := hb _ hx; omega
    · rw [h3, List.nodup_append]
      refine ⟨h.key, by simp, fun x hx y hy e => ?_⟩
      rw [List.mem_singleton] at hy
      subst hy e
      exact h4 hx
end
section
variable {r : Option Nat} {P : Program} {ops : Array Oper} {Q : Exit → Act → World → Prop} {rest : List Oper} {n : Nat} {ρ : Nat → Value} {ds : List Deferred} {w w0 : World} {L : List (Nat × Obj)}
  {d : Option Tmp} {ty : TypeId} {p : String} {e : Array Edge} {g : Option (Nat × Bool)} {α : Type} [DecidableEq α] {kv : α → Value} {ok : α → Prop}
theorem G_lookS {mt kt el : TypeId} {x y : Operand} {a : α} {l : List (α × Value × Nat)} {m i ck : Nat} {v : Value} (hU : P.underlying mt = some (.map kt el)) (hK : KeyG P kt kv ok) (hok : ok a) (hall : ∀ q ∈ l, ok q.1)
    (hst : St w0 w L) (ho : okO n x = true) (ho1 : okO n y = true) (hx : ev ρ x = .map (some m)) (hy : ev ρ y = kv a) (hi : L[i]? = some (m, .map (ents kv l).toArray ck)) (hf : getA a l = some v) (both : Bool) :
    Yd P (A n ρ ds) ⟨d, .lookup mt x y both, ty, p, e, g⟩ w (if both then .tuple #[v, .bool true] else v) := by
  have hc := hK.chk (ents kv l).toArray.isEmpty a w hok
  have hg := hK.find a l w hok hall
  have hv := idxA_get (a := a) l 0
  rw [hf] at hv
  cases hq : idxA a l 0 with
  | none => rw [hq] at hv; cases hv
  | some q =>
    rw [hq] at hg hv
    obtain ⟨j, u⟩ := q
    have hu : u = v := by simpa using hv
    subst hu
    unfold Yd
    have : (Instr.lookup mt (.map (some m)) (kv a) both).run P w = .ok (if both then .tuple #[u, .bool true] else u) w := by
      simp only [Instr.lookup, Sem.run_bind, run_underlying hU, Result.andThen_ok, hst.obj hi, Sem.run_pure, hc, hg]
    simp only [execOp, zCk ho, zCk ho1, hx, hy, Sem.run_bind, this]
    rfl
theorem G_lookN {mt kt el : TypeId} {x y : Operand} {a : α} {l : List (α × Value × Nat)} {m i ck : Nat} {z : Value} (hU : P.underlying mt = some (.map kt el)) (hK : KeyG P kt kv ok) (hok : ok a) (hall : ∀ q ∈ l, ok q.1)
    (hz : ∀ w, (zeroValue el).run P w = .ok z w) (hst : St w0 w L) (ho : okO n x = true) (ho1 : okO n y = true) (hx : ev ρ x = .map (some m)) (hy : ev ρ y = kv a) (hi : L[i]? = some (m, .map (ents kv l).toArray ck)) (hf : getA a l = none) (both : Bool) :
    Yd P (A n ρ ds) ⟨d, .lookup mt x y both, ty, p, e, g⟩ w (if both then .tuple #[z, .bool false] else z) := by
  have hc := hK.chk (ents kv l).toArray.isEmpty a w hok
  have hg := hK.find a l w hok hall
  have hv := idxA_get (a := a) l 0
  rw [hf] at hv
  cases hq : idxA a l 0 with
  | some q => rw [hq] at hv; cases hv
  | none =>
    rw [hq] at hg
    unfold Yd
    have : (Instr.lookup mt (.map (some m)) (kv a) both).run P w = .ok (if both then .tuple #[z, .bool false] else z) w := by
      simp only [Instr.lookup, Sem.run_bind, run_underlying hU, Result.andThen_ok, hst.obj hi, Sem.run_pure, hc, hg, hz]
    simp only [execOp, zCk ho, zCk ho1, hx, hy, Sem.run_bind, this]
    rfl
theorem G_look2S {mt kt el : TypeId} {x y : Operand} {a : α} {l : List (α × Value × Nat)} {m i ck : Nat} {v : Value} (hU : P.underlying mt = some (.map kt el)) (hK : KeyG P kt kv ok) (hok : ok a) (hall : ∀ q ∈ l, ok q.1)
    (hst : St w0 w L) (ho : okO n x = true) (ho1 : okO n y = true) (hx : ev ρ x = .map (some m)) (hy : ev ρ y = kv a) (hi : L[i]? = some (m, .map (ents kv l).toArray ck)) (hf : getA a l = some v) :
    Yd P (A n ρ ds) ⟨d, .lookup mt x y true, ty, p, e, g⟩ w (.tuple #[v, .bool true]) := G_lookS hU hK hok hall hst ho ho1 hx hy hi hf true
theorem G_look2N {mt kt el : TypeId} {x y : Operand} {a : α} {l : List (α × Value × Nat)} {m i ck : Nat} {z : Value} (hU : P.underlying mt = some (.map kt el)) (hK : KeyG P kt kv ok) (hok : ok a) (hall : ∀ q ∈ l, ok q.1)
    (hz : ∀ w, (zeroValue el).run P w = .ok z w) (hst : St w0 w L) (ho : okO n x = true) (ho1 : okO n y = true) (hx : ev ρ x = .map (some m)) (hy : ev ρ y = kv a) (hi : L[i]? = some (m, .map (ents kv l).toArray ck)) (hf : getA a l = none) :
    Yd P (A n ρ ds) ⟨d, .lookup mt x y true, ty, p, e, g⟩ w (.tuple #[z, .bool false]) := G_lookN hU hK hok hall hz hst ho ho1 hx hy hi hf true
theorem G_put {mt kt el : TypeId} {x y z : Operand} {a : α} {v : Value} {l : List (α × Value × Nat)} {m i ck : Nat} (hw : Want ops (A n ρ ds) ⟨none, .mapUpdate mt x y z, ty, p, e, g⟩) (hU : P.underlying mt = some (.map kt el)) (hK : KeyG P kt kv ok) (hok : ok a) (hall : ∀ q ∈ l, ok q.1)
    (ho : okO n x = true) (ho1 : okO n y = true) (ho2 : okO n z = true) (hx : ev ρ x = .map (some m)) (hy : ev ρ y = kv a) (hz : ev ρ z = v) (hst : St w0 w L) (hi : L[i]? = some (m, .map (ents kv l).toArray ck))
    (hk2 : ∀ w', St w0 w' (L.set i (m, .map (ents kv (putA a v ck l)).toArray (if idxA a l 0 = none then ck + 1 else ck))) → WL r P ops Q rest (A n ρ ds) w') :
    WL r P ops Q (⟨none, .mapUpdate mt x y z, ty, p, e, g⟩ :: rest) (A n ρ ds) w := by
  refine w_unit hw (w' := w.putObj m (.map (ents kv (putA a v ck l)).toArray (if idxA a l 0 = none then ck + 1 else ck))) ?_ rfl (hk2 _ (hst.putObj hi _))
  have hc := hK.chk false a w hok
  have hg := hK.find a l w hok hall
  have hs : ∀ o, (setObj m o).run P w = .ok () (w.putObj m o) := by intro o; simp [setObj, Sem.run, hst.get hi, World.putObj]
  have : (Instr.mapUpdate mt (.map (some m)) (kv a) v).run P w = .ok () (w.putObj m (.map (ents kv (putA a v ck l)).toArray (if idxA a l 0 = none then ck + 1 else ck))) := by
    simp only [Instr.mapUpdate, Sem.run_bind, run_underlying hU, Result.andThen_ok, hst.obj hi, Sem.run_pure, hc, hg]
    cases hq : idxA a l 0 with
    | none =>
      simp only [hs, if_true]
      rw [putA_none hq]
      simp [ents]
    | some q =>
      obtain ⟨j, u⟩ := q
      have h1 := putA_some (kv := kv) (v := v) (ck := ck) hq
      have h2 := idxA_at (kv := kv) hq
      have h3 : (((ents kv l).toArray[j]?).map (·.key)).getD (kv a) = kv a := by rw [List.getElem?_toArray, h2]; rfl
      simp only [h3, Instr.keyThatStays, hK.stay a hok, if_true, Sem.run_bind, Sem.run_pure, Result.andThen_ok, hs]
      rw [h1, if_neg (by simp)]
      congr 3
      apply Array.toList_inj.1
      simp
  simp only [execOp, zCk ho, zCk ho1, zCk ho2, hx, hy, hz, Sem.run_bind, this]
  rfl
end
theorem zIh {P : Program} {t : TypeId} {k : Nat} (hK : KeyTy P t k) : KeyG P t (fun l : List Int => ia l) (fun l => l.length = k) where
  chk := fun em a w h => hK.chk em a w h
  find := fun a l w h hall => by
    obtain ⟨u, hu, hn, h0⟩ := hK.desc
    have key : ∀ (l : List (List Int × Value × Nat)) (i : Nat), (∀ q ∈ l, q.1.length = k) → (Instr.findAsking t (ia a) (ents (fun l : List Int => ia l) l) i).run P w = .ok (idxA a l i) w := by
      intro l
      induction l with
      | nil => intro i _; simp [Instr.findAsking, ents, idxA]
      | cons q l ih =>
        intro i hq
        have h1 := hK.eq a q.1 w h (hq q (.head _))
        show (Instr.findAsking t (ia a) (_ :: ents _ l) i).run P w = _
        by_cases e : q.1 = a
        · rw [decide_eq_true e.symm] at h1
          simp only [Instr.findAsking, Sem.run_bind, h1, Result.andThen_ok, idxA, if_pos e]
          rfl
        · rw [decide_eq_false (fun z => e z.symm)] at h1
          simp only [Instr.findAsking, Sem.run_bind, h1, Result.andThen_ok, idxA, if_neg e]
          exact ih (i + 1) fun x hx => hq x (.tail _ hx)
    cases l with
    | nil => exact h0 a w
    | cons q l =>
      have h1 := hn a { key := ia q.1, val := q.2.1, born := q.2.2 } (ents (fun l : List Int => ia l) l)
      have h2 := key (q :: l) 0 hall
      have h3 : ents (fun l : List Int => ia l) (q :: l) = { key := ia q.1, val := q.2.1, born := q.2.2 } :: ents (fun l : List Int => ia l) l := rfl
      rw [h3] at h2 ⊢
      simp only [Instr.findKey, Sem.run_bind, run_underlying hu, Result.andThen_ok, h1]
      exact h2
  stay := fun a _ => by
    show Instr.sameBits (9999 + 1) (.agg (iv a).toArray) (.agg (iv a).toArray) = true
    have : ∀ l : List Int, ((iv l).zip (iv l)).all (fun x => Instr.sameBits 9999 x.1 x.2) = true := by
      intro l
      induction l with
      | nil => rfl
      | cons z l ih => simp only [iv, List.map_cons, List.zip_cons_cons, List.all_cons]; rw [show Instr.sameBits 9999 (.int .i64 z) (.int .i64 z) = true by simp [Instr.sameBits]]; exact ih
    simp [Instr.sameBits]
    simpa using this a
end Go.Rt
/- The walking engine, part 19: structs of two ints and a bool compared; slices of bools that are made. No conditions. -/
namespace Go.Rt
open Go.RowKit
variable {r : Option Nat} {P : Program} {ops : Array Oper} {Q : Exit → Act → World → Prop} {rest : List Oper} {n : Nat} {ρ : Nat → Value} {ds : List Deferred} {w w0 : World} {L : List (Nat × Obj)}
  {d : Option Tmp} {ty : TypeId} {p : String} {e : Array Edge} {g : Option (Nat × Bool)}
end Go.Rt
