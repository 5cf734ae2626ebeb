/- Own texts of this claim, joined. No conditions. -/
import Derived.Test.YtpbchcophgpchaaGreatRows
import Derived.Laws.RangeAny
import Derived.Laws.Bits64b
import Derived.Test.YtpbchcophgpchaaGreatHTopGradeda
set_option linter.unusedVariables false
set_option linter.unusedSimpArgs false
set_option maxRecDepth 20000
namespace Go.Proofs
open Go.Proofs.Tryz
open Go.Rt
attribute [local irreducible] WL WC Con Yd At Ats Sl Agree DW

theorem zBu : Tryz.prog.follows .mixedOrders = true := by kernel_rfl
theorem c12 {w0 w : World} {F : List (Nat × Obj)} (n lo hi : Int) (hs : St w0 w F) : Con Tryz.prog 12 [.int .i64 n, .int .i64 lo, .int .i64 hi] w fun v w' => v = .bool (decide (lo ≤ n ∧ n ≤ hi)) ∧ St w0 w' F := by
  refine zAw (n := 15) func12 rfl rfl (Nat.le_of_ble_eq_true rfl) ?_
  refine zAg (fun K2 hK1 => ?_)
  refine zAb (w_p (zAc (v := _) rfl rfl) rfl ?_)
  refine zAf (zAd (hK1 _ _ ?_))
  refine zAg (fun K4 hK3 => ?_)
  refine zAb (w_p (zAe (v := .int _ _) rfl rfl) rfl ?_)
  refine w_p (zAe (v := .int _ _) rfl rfl) rfl ?_
  refine w_p (y_geq rfl rfl rfl rfl) rfl ?_
  refine w_p (zAe (v := .bool _) rfl rfl) rfl ?_
  refine zBi (fun h5 => ?_) (fun h5 => ?_)
  ·
   try simp only [zS] at h5
   refine w_y rfl rfl rfl (zAe (v := .int _ _) rfl rfl) rfl ?_
   refine w_y rfl rfl rfl (zAe (v := .int _ _) rfl rfl) rfl ?_
   refine w_y rfl rfl rfl (y_leq rfl rfl rfl rfl) rfl ?_
   refine w_p (zA0 (v := .bool _) rfl rfl rfl rfl) rfl ?_
   refine w_p (zAc (v := .bool _) rfl rfl) rfl ?_
   refine zAf (zAd (hK3 _ _ ?_))
   refine zA2 (zA3 (l := [.tmp 6]) (vs := [_]) rfl ⟨⟨rfl, (rfl : _ = Value.bool _)⟩, trivial⟩ ?_)
   exact ⟨congrArg Value.bool (by rw [Bool.eq_iff_iff]; simp [*] <;> omega), hs⟩
  try simp only [zS] at h5
  refine zAi rfl rfl rfl ?_
  refine zAi rfl rfl rfl ?_
  refine zAi rfl rfl rfl ?_
  refine w_p (zBb (v := _) rfl rfl rfl rfl) rfl ?_
  refine w_p (zAc (v := .bool _) rfl rfl) rfl ?_
  refine zAf (zAd (hK3 _ _ ?_))
  refine zA2 (zA3 (l := [.tmp 6]) (vs := [_]) rfl ⟨⟨rfl, (rfl : _ = Value.bool _)⟩, trivial⟩ ?_)
  exact ⟨congrArg Value.bool (by rw [Bool.eq_iff_iff]; simp [*] <;> omega), hs⟩

theorem c18 {w0 w : World} {F : List (Nat × Obj)} (a b lo hi : Int) (hs : St w0 w F) : Con Tryz.prog 18 [.agg #[.int .i64 a, .int .i64 b], .int .i64 lo, .int .i64 hi] w fun v w' => v = .int .i64 (ends a b lo hi) ∧ St w0 w' F := by
  refine zAw (n := 26) func18 rfl rfl (Nat.le_of_ble_eq_true rfl) ?_
  refine zAg (fun K2 hK1 => ?_)
  refine zAb (zB3 (v := .agg #[.int _ _, .int _ _]) (cs := [_, _]) zAa rfl rfl rfl hs (fun b3 w4 hs5 => ?_))
  refine w_p (zAc (v := _) rfl rfl) rfl ?_
  refine zAf (zAd (hK1 _ _ ?_))
  refine zAg (fun K7 hK6 => ?_)
  refine zAg (fun K9 hK8 => ?_)
  refine zAb (w_p (zAh (o := 0) (i := 0) underlying28 rfl sizeOf3 rfl rfl rfl) rfl ?_)
  refine w_p (zAk isAgg3 hs5 rfl rfl (zAj (i := 0) (vs := [_]) rfl rfl)) rfl ?_
  refine w_p (zAe (v := .int _ _) rfl rfl) rfl ?_
  refine w_p (zAe (v := .int _ _) rfl rfl) rfl ?_
  refine zAt zAa call12 rfl rfl rfl rfl (c12 _ _ _ hs5) ?_
  rintro _ w11 ⟨rfl, hs12⟩
  refine w_p (zDc rfl rfl) rfl ?_
  refine w_p (zAe (v := .bool _) rfl rfl) rfl ?_
  refine zBi (fun h13 => ?_) (fun h13 => ?_)
  ·
   try simp only [zS] at h13
   refine zAi rfl rfl rfl ?_
   refine zAi rfl rfl rfl ?_
   refine zAi rfl rfl rfl ?_
   refine zAi rfl rfl rfl ?_
   refine zAi rfl rfl rfl ?_
   refine zAi rfl rfl rfl ?_
   refine w_p (zA0 (v := _) rfl rfl rfl rfl) rfl ?_
   refine zAf (zAd (hK8 _ _ ?_))
   refine zCg rfl rfl ?_
   refine zAg (fun K15 hK14 => ?_)
   refine zAb (w_p (zAc (v := _) rfl rfl) rfl ?_)
   refine zAf (zAd (hK14 _ _ ?_))
   refine zA2 (zAm (zA3 (l := [.tmp 6]) (vs := [_]) rfl ⟨⟨rfl, (rfl : _ = Value.int _ _)⟩, trivial⟩ ?_))
   exact ⟨congrArg (Value.int .i64) (by simp only [ends, out, Bool.or_eq_true, decide_eq_true_eq]; (repeat' split) <;> omega), hs12.tail⟩
  try simp only [zS] at h13
  refine w_y rfl rfl rfl (zAh (o := 1) (i := 1) underlying28 rfl sizeOf3 rfl rfl rfl) rfl ?_
  refine w_y rfl rfl rfl (zAk isAgg3 hs12 rfl rfl (zAj (i := 0) (vs := [_]) rfl rfl)) rfl ?_
  refine w_y rfl rfl rfl (zAe (v := .int _ _) rfl rfl) rfl ?_
  refine w_y rfl rfl rfl (zAe (v := .int _ _) rfl rfl) rfl ?_
  refine zAt (zAn rfl rfl rfl) call12 rfl rfl rfl rfl (c12 _ _ _ hs12) ?_
  rintro _ w17 ⟨rfl, hs18⟩
  refine w_y rfl rfl rfl (zDc rfl rfl) rfl ?_
  refine w_p (zBb (v := .bool _) rfl rfl rfl rfl) rfl ?_
  refine zAf (zAd (hK8 _ _ ?_))
  refine zAz rfl rfl (fun h19 => ?_) (fun h19 => ?_)
  ·
   try simp only [zS] at h19
   refine zAg (fun K21 hK20 => ?_)
   refine zAb (w_p (zAc (v := _) rfl rfl) rfl ?_)
   refine zAf (zAd (hK20 _ _ ?_))
   refine zA2 (zAm (zA3 (l := [.tmp 6]) (vs := [_]) rfl ⟨⟨rfl, (rfl : _ = Value.int _ _)⟩, trivial⟩ ?_))
   exact ⟨congrArg (Value.int .i64) (by simp only [ends, out, Bool.or_eq_true, decide_eq_true_eq]; (repeat' split) <;> omega), hs18.tail⟩
  try simp only [zS] at h19
  refine zAx (zAd (hK6 _ _ ?_))
  refine zAg (fun K23 hK22 => ?_)
  refine zAg (fun K25 hK24 => ?_)
  refine zAb (w_p (zAh (o := 1) (i := 1) underlying28 rfl sizeOf3 rfl rfl rfl) rfl ?_)
  refine w_p (zAk isAgg3 hs18 rfl rfl (zAj (i := 0) (vs := [_]) rfl rfl)) rfl ?_
  refine w_p (zAh (o := 0) (i := 0) underlying28 rfl sizeOf3 rfl rfl rfl) rfl ?_
  refine w_p (zAk isAgg3 hs18 rfl rfl (zAj (i := 0) (vs := [_]) rfl rfl)) rfl ?_
  refine w_p (zBt rfl rfl rfl rfl) rfl ?_
  refine zAf (zAd (hK24 _ _ ?_))
  refine zAz rfl rfl (fun h26 => ?_) (fun h26 => ?_)
  ·
   try simp only [zS] at h26
   refine zAg (fun K28 hK27 => ?_)
   refine zAb (w_p (zAc (v := _) rfl rfl) rfl ?_)
   refine zAf (zAd (hK27 _ _ ?_))
   refine zA2 (zAm (zA3 (l := [.tmp 6]) (vs := [_]) rfl ⟨⟨rfl, (rfl : _ = Value.int _ _)⟩, trivial⟩ ?_))
   exact ⟨congrArg (Value.int .i64) (by simp only [ends, out, Bool.or_eq_true, decide_eq_true_eq]; (repeat' split) <;> omega), hs18.tail⟩
  try simp only [zS] at h26
  refine zAx (zAd (hK22 _ _ ?_))
  refine zAg (fun K30 hK29 => ?_)
  refine zAb (w_p (zAc (v := _) rfl rfl) rfl ?_)
  refine zAf (zAd (hK29 _ _ ?_))
  refine zA2 (zA3 (l := [.tmp 6]) (vs := [_]) rfl ⟨⟨rfl, (rfl : _ = Value.int _ _)⟩, trivial⟩ ?_)
  exact ⟨congrArg (Value.int .i64) (by simp only [ends, out, Bool.or_eq_true, decide_eq_true_eq]; (repeat' split) <;> omega), hs18.tail⟩

theorem less_at (a b : List Int) (i : Nat) (h : a.take i = b.take i) (ha : i ≤ a.length) (hb : i ≤ b.length) : less a b = less (a.drop i) (b.drop i) := by
  induction i generalizing a b with
  | zero => rfl
  | succ i ih =>
    cases a with
    | nil => simp at ha
    | cons x a =>
      cases b with
      | nil => simp at hb
      | cons y b =>
        simp only [List.take_succ_cons, List.cons.injEq] at h
        obtain ⟨rfl, h⟩ := h
        simp only [less, if_true, List.drop_succ_cons]
        exact ih a b h (by simpa using ha) (by simpa using hb)
theorem take_snoc_eq {a b : List Int} {i : Nat} (h : a.take i = b.take i) (ha : i < a.length) (hb : i < b.length) (e : a[i] = b[i]) : a.take (i + 1) = b.take (i + 1) := by
  rw [List.take_succ_eq_append_getElem ha, List.take_succ_eq_append_getElem hb, h, e]
theorem zCz {a b : List Int} {i : Nat} (h : a.take i = b.take i) (ha : i ≤ a.length) (hb : i = b.length) : less a b = false := by
  rw [less_at a b i h ha (by omega), hb, List.drop_length]
  cases a.drop b.length <;> rfl
theorem zCd {a b : List Int} {i : Nat} (h : a.take i = b.take i) (ha : i = a.length) (hb : i < b.length) : less a b = true := by
  rw [less_at a b i h (by omega) (by omega), ha, List.drop_length]
  have : b.drop a.length = b[a.length] :: b.drop (a.length + 1) := List.drop_eq_getElem_cons (by omega)
  rw [this]; rfl
theorem zDf {a b : List Int} {i : Nat} (h : a.take i = b.take i) (ha : i < a.length) (hb : i < b.length) (hne : a[i] ≠ b[i]) : less a b = decide (a[i] < b[i]) := by
  rw [less_at a b i h (by omega) (by omega), List.drop_eq_getElem_cons ha, List.drop_eq_getElem_cons hb]
  simp only [less]
  rw [if_neg hne]
theorem zC1 {w0 : World} {F : List (Nat × Obj)} {a : Option Addr} {l : List Int} {i : Nat} (h : Sl w0 F a 1 (l.map fun x => [Value.int .i64 x])) (hi : i < l.length) :
    ∃ b off, a = some ⟨b, off, none⟩ ∧ Ats w0 F b (off + i * 1) [.int .i64 l[i]] := by
  obtain ⟨b, off, ha, _, hat⟩ := h.at (i := i) (row := [.int .i64 l[i]]) (by simp [hi])
  exact ⟨b, off, ha, hat⟩
theorem c70 {w0 w : World} {F : List (Nat × Obj)} (aa ab : Option Addr) (a b : List Int) (ca cb : Nat) (hla : a.length ≤ 9223372036854775807) (ha : Sl w0 F aa 1 (a.map fun x => [Value.int .i64 x])) (hb : Sl w0 F ab 1 (b.map fun x => [Value.int .i64 x])) (hs : St w0 w F) :
  Con Tryz.prog 70 [.slice aa a.length ca, .slice ab b.length cb] w fun v w' => v = .bool (less a b) ∧ St w0 w' F := by
  refine zAw (n := 48) func70 rfl rfl (Nat.le_of_ble_eq_true rfl) ?_
  refine zAg (fun K2 hK1 => ?_)
  refine zAb (w_p (zAc (v := _) rfl rfl) rfl ?_)
  refine zAf (zAd (hK1 _ _ ?_))
  refine zAg (fun K4 hK3 => ?_)
  refine zAb (w_p (zAc (v := _) rfl rfl) rfl ?_)
  refine zAf (zAd (hK3 _ _ ?_))
  refine zAg (fun K6 hK5 => ?_)
  refine zAy ?_
  refine zBp [5, 6, 7, 8, 9, 10, 11, 12, 13, 14, 15, 16, 17, 18, 19, 20, 21, 22, 23, 24, 25, 26, 27, 28] [5] (fun k vs w => ∃ i : Nat, vs = [.int .i64 i] ∧ i ≤ a.length ∧ i ≤ b.length ∧ k = a.length - i ∧ a.take i = b.take i ∧ St w0 w F) (a.length) ?_ ?_
  ·
   exact ⟨0, rfl, by omega, by omega, by omega, rfl, hs⟩
  intro k vs μ w9 hI K8 hN7
  obtain ⟨i, rfl, hia, hib, rfl, hpre, hs⟩ := hI
  refine zAg (fun K11 hK10 => ?_)
  refine zAg (fun K13 hK12 => ?_)
  refine zB7 [] [(0, 0), (1, 0), (2, 0), (3, 0), (4, 0), (5, 0), (6, 0), (7, 0), (8, 0), (9, 0), (10, 0), (11, 0), (12, 0), (13, 0), (14, 1), (15, 0), (16, 0), (17, 0), (18, 1), (19, 0), (20, 0)] zBu (by kernel_rfl) hs (fun w14 hs15 => ?_)
  refine zAp rfl zAa rfl (fun _ => (zAe (v := .int _ _) rfl rfl)) ?_
  refine zAp rfl zAa rfl (fun _ => (zAe (v := .slice _ _ _) rfl rfl)) ?_
  refine zAp rfl zAa rfl (fun _ => (zBd underlying43 rfl rfl)) ?_
  refine zAp rfl zAa rfl (fun _ => (zBt rfl rfl rfl rfl)) ?_
  refine zAp rfl zAa rfl (fun _ => (zAe (v := .bool _) rfl rfl)) ?_
  refine zDk (fun h16 => ?_) (fun h16 => ?_)
  ·
   try simp only [zS] at h16
   refine zAp rfl (zAn rfl rfl rfl) rfl (fun _ => (zAe (v := .int _ _) rfl rfl)) ?_
   refine zAp rfl (zAn rfl rfl rfl) rfl (fun _ => (zAe (v := .slice _ _ _) rfl rfl)) ?_
   refine zAp rfl (zAn rfl rfl rfl) rfl (fun _ => (zBd underlying43 rfl rfl)) ?_
   refine zAp rfl (zAn rfl rfl rfl) rfl (fun _ => (zBt rfl rfl rfl rfl)) ?_
   refine zAp rfl zAa rfl (fun _ => (zA0 (v := .bool _) rfl rfl rfl rfl)) ?_
   refine zAp rfl zAa rfl (fun _ => (zAe (v := .bool _) rfl rfl)) ?_
   refine zDk (fun h17 => ?_) (fun h17 => ?_)
   ·
    try simp only [zS] at h17
    refine zAp rfl (zAn rfl rfl rfl) rfl (fun _ => (zAe (v := .slice _ _ _) rfl rfl)) ?_
    refine zAp rfl (zAn rfl rfl rfl) rfl (fun _ => (zAe (v := .int _ _) rfl rfl)) ?_
    have hia2 : i < a.length := by omega
    have hib2 : i < b.length := by omega
    obtain ⟨ba, oa, rfl, hxa⟩ := zC1 ha hia2
    obtain ⟨bb, ob, rfl, hxb⟩ := zC1 hb hib2
    refine zAp rfl (zAn rfl rfl rfl) rfl (fun _ => (zA7 underlying43 sizeOf3 rfl rfl rfl rfl (i := _) rfl (by omega))) ?_
    refine zBa rfl (zAn rfl rfl rfl) rfl hs15 (fun _ hq => (zAk isAgg3 hq rfl rfl hxa)) ?_
    refine zAp rfl (zAn rfl rfl rfl) rfl (fun _ => (zAe (v := .slice _ _ _) rfl rfl)) ?_
    refine zAp rfl (zAn rfl rfl rfl) rfl (fun _ => (zAe (v := .int _ _) rfl rfl)) ?_
    refine zAp rfl (zAn rfl rfl rfl) rfl (fun _ => (zA7 underlying43 sizeOf3 rfl rfl rfl rfl (i := _) rfl (by omega))) ?_
    refine zBa rfl (zAn rfl rfl rfl) rfl hs15 (fun _ hq => (zAk isAgg3 hq rfl rfl hxb)) ?_
    refine zAp rfl (zAn rfl rfl rfl) rfl (fun _ => (zBy rfl rfl rfl rfl)) ?_
    refine zAp rfl zAa rfl (fun _ => (zA0 (v := .bool _) rfl rfl rfl rfl)) ?_
    refine zB1 ?_
    refine zAd (hK12 _ _ ?_)
    refine zAz rfl rfl (fun h18 => ?_) (fun h18 => ?_)
    ·
     try simp only [zS] at h18
     refine zAx (zAd (hK10 _ _ ?_))
     refine zAy ?_
     refine zAb (w_p (zAe (v := .int _ _) rfl rfl) rfl ?_)
     refine w_p (zBf rfl rfl rfl rfl (by omega) (by omega)) rfl ?_
     refine w_p (zAc (v := .int _ _) rfl rfl) rfl ?_
     refine zAf (zAl (zAd (hN7 _ _ (Nx.intro (a.length - (i + 1)) (by omega) (by repeat (first | exact zAv | refine zAu rfl ?_ | refine zAs rfl ?_ _ | refine zAr rfl ?_)) ?_))))
     exact ⟨i + 1, rfl, by omega, by omega, rfl, take_snoc_eq hpre (by omega) (by omega) (by assumption), hs15⟩
    try simp only [zS] at h18
    refine zBl (zAo (zAo (zA4 (zAd (hK5 _ _ ?_)))))
    refine zAg (fun K20 hK19 => ?_)
    refine zAg (fun K22 hK21 => ?_)
    refine zAb (w_p (zAe (v := .int _ _) rfl rfl) rfl ?_)
    refine w_p (zAe (v := .slice _ _ _) rfl rfl) rfl ?_
    refine w_p (zBd underlying43 rfl rfl) rfl ?_
    refine w_p (zBy rfl rfl rfl rfl) rfl ?_
    refine zAf (zAd (hK21 _ _ ?_))
    refine zAz rfl rfl (fun h23 => ?_) (fun h23 => ?_)
    ·
     try simp only [zS] at h23
     refine zAg (fun K25 hK24 => ?_)
     refine zAb (w_p (zAc (v := _) rfl rfl) rfl ?_)
     refine zAf (zAd (hK24 _ _ ?_))
     refine zA2 (zAm (zA3 (l := [.tmp 4]) (vs := [_]) rfl ⟨⟨rfl, (rfl : _ = Value.bool _)⟩, trivial⟩ ?_))
     exact ⟨(by first | (rw [zCz hpre hia (by omega)]; rfl) | (rw [zCd hpre (by omega) (by omega)]; rfl) | (rw [zDf hpre (by omega) (by omega) (by first | assumption | omega)]; rfl)), hs15⟩
    try simp only [zS] at h23
    refine zAx (zAd (hK19 _ _ ?_))
    refine zAg (fun K27 hK26 => ?_)
    refine zB7 [] [(0, 0), (1, 0), (2, 0), (3, 0), (4, 0), (5, 0), (6, 0), (7, 0), (8, 1), (9, 0), (10, 0), (11, 0), (12, 1), (13, 0), (14, 0), (15, 0)] zBu (by kernel_rfl) hs15 (fun w28 hs29 => ?_)
    refine zAp rfl zAa rfl (fun _ => (zAe (v := .int _ _) rfl rfl)) ?_
    refine zAp rfl zAa rfl (fun _ => (zAe (v := .slice _ _ _) rfl rfl)) ?_
    refine zAp rfl zAa rfl (fun _ => (zBd underlying43 rfl rfl)) ?_
    refine zAp rfl zAa rfl (fun _ => (zBy rfl rfl rfl rfl)) ?_
    refine zAp rfl zAa rfl (fun _ => (zAe (v := .bool _) rfl rfl)) ?_
    refine zDk (fun h30 => ?_) (fun h30 => ?_)
    ·
     try simp only [zS] at h30
     refine zBg rfl rfl rfl rfl ?_
     refine zBg rfl rfl rfl rfl ?_
     refine zBg rfl rfl rfl rfl ?_
     refine zCj rfl rfl rfl rfl hs29 ?_
     refine zBg rfl rfl rfl rfl ?_
     refine zBg rfl rfl rfl rfl ?_
     refine zBg rfl rfl rfl rfl ?_
     refine zCj rfl rfl rfl rfl hs29 ?_
     refine zBg rfl rfl rfl rfl ?_
     refine zAp rfl zAa rfl (fun _ => (zA0 (v := _) rfl rfl rfl rfl)) ?_
     refine zAp rfl zAa rfl (fun _ => (zAc (v := .bool _) rfl rfl)) ?_
     refine zB1 ?_
     refine zAd (hK26 _ _ ?_)
     refine zA2 (zA3 (l := [.tmp 4]) (vs := [_]) rfl ⟨⟨rfl, (rfl : _ = Value.bool _)⟩, trivial⟩ ?_)
     exact ⟨(by first | (rw [zCz hpre hia (by omega)]; rfl) | (rw [zCd hpre (by omega) (by omega)]; rfl) | (rw [zDf hpre (by omega) (by omega) (by first | assumption | omega)]; rfl)), hs29⟩
    try simp only [zS] at h30
    refine zAp rfl (zAn rfl rfl rfl) rfl (fun _ => (zAe (v := .slice _ _ _) rfl rfl)) ?_
    refine zAp rfl (zAn rfl rfl rfl) rfl (fun _ => (zAe (v := .int _ _) rfl rfl)) ?_
    refine zAp rfl (zAn rfl rfl rfl) rfl (fun _ => (zA7 underlying43 sizeOf3 rfl rfl rfl rfl (i := _) rfl (by omega))) ?_
    refine zBa rfl (zAn rfl rfl rfl) rfl hs29 (fun _ hq => (zAk isAgg3 hq rfl rfl hxa)) ?_
    refine zAp rfl (zAn rfl rfl rfl) rfl (fun _ => (zAe (v := .slice _ _ _) rfl rfl)) ?_
    refine zAp rfl (zAn rfl rfl rfl) rfl (fun _ => (zAe (v := .int _ _) rfl rfl)) ?_
    refine zAp rfl (zAn rfl rfl rfl) rfl (fun _ => (zA7 underlying43 sizeOf3 rfl rfl rfl rfl (i := _) rfl (by omega))) ?_
    refine zBa rfl (zAn rfl rfl rfl) rfl hs29 (fun _ hq => (zAk isAgg3 hq rfl rfl hxb)) ?_
    refine zAp rfl (zAn rfl rfl rfl) rfl (fun _ => (zBt rfl rfl rfl rfl)) ?_
    refine zAp rfl zAa rfl (fun _ => (zBb (v := .bool _) rfl rfl rfl rfl)) ?_
    refine zAp rfl zAa rfl (fun _ => (zAc (v := .bool _) rfl rfl)) ?_
    refine zB1 ?_
    refine zAd (hK26 _ _ ?_)
    refine zA2 (zA3 (l := [.tmp 4]) (vs := [_]) rfl ⟨⟨rfl, (rfl : _ = Value.bool _)⟩, trivial⟩ ?_)
    exact ⟨(by first | (rw [zCz hpre hia (by omega)]; rfl) | (rw [zCd hpre (by omega) (by omega)]; rfl) | (rw [zDf hpre (by omega) (by omega) (by first | assumption | omega)]; rfl)), hs29⟩
   try simp only [zS] at h17
   refine zBg rfl rfl rfl rfl ?_
   refine zBg rfl rfl rfl rfl ?_
   refine zBg rfl rfl rfl rfl ?_
   refine zCj rfl rfl rfl rfl hs15 ?_
   refine zBg rfl rfl rfl rfl ?_
   refine zBg rfl rfl rfl rfl ?_
   refine zBg rfl rfl rfl rfl ?_
   refine zCj rfl rfl rfl rfl hs15 ?_
   refine zBg rfl rfl rfl rfl ?_
   refine zAp rfl zAa rfl (fun _ => (zBb (v := _) rfl rfl rfl rfl)) ?_
   refine zB1 ?_
   refine zAd (hK12 _ _ ?_)
   refine zB0 rfl rfl ?_
   refine zBl (zAo (zAo (zA4 (zAd (hK5 _ _ ?_)))))
   refine zAg (fun K32 hK31 => ?_)
   refine zAg (fun K34 hK33 => ?_)
   refine zAb (w_p (zAe (v := .int _ _) rfl rfl) rfl ?_)
   refine w_p (zAe (v := .slice _ _ _) rfl rfl) rfl ?_
   refine w_p (zBd underlying43 rfl rfl) rfl ?_
   refine w_p (zBy rfl rfl rfl rfl) rfl ?_
   refine zAf (zAd (hK33 _ _ ?_))
   refine zAz rfl rfl (fun h35 => ?_) (fun h35 => ?_)
   ·
    try simp only [zS] at h35
    refine zAg (fun K37 hK36 => ?_)
    refine zAb (w_p (zAc (v := _) rfl rfl) rfl ?_)
    refine zAf (zAd (hK36 _ _ ?_))
    refine zA2 (zAm (zA3 (l := [.tmp 4]) (vs := [_]) rfl ⟨⟨rfl, (rfl : _ = Value.bool _)⟩, trivial⟩ ?_))
    exact ⟨(by first | (rw [zCz hpre hia (by omega)]; rfl) | (rw [zCd hpre (by omega) (by omega)]; rfl) | (rw [zDf hpre (by omega) (by omega) (by first | assumption | omega)]; rfl)), hs15⟩
   try simp only [zS] at h35
   refine zAx (zAd (hK31 _ _ ?_))
   refine zAg (fun K39 hK38 => ?_)
   refine zB7 [] [(0, 0), (1, 0), (2, 0), (3, 0), (4, 0), (5, 0), (6, 0), (7, 0), (8, 1), (9, 0), (10, 0), (11, 0), (12, 1), (13, 0), (14, 0), (15, 0)] zBu (by kernel_rfl) hs15 (fun w40 hs41 => ?_)
   refine zAp rfl zAa rfl (fun _ => (zAe (v := .int _ _) rfl rfl)) ?_
   refine zAp rfl zAa rfl (fun _ => (zAe (v := .slice _ _ _) rfl rfl)) ?_
   refine zAp rfl zAa rfl (fun _ => (zBd underlying43 rfl rfl)) ?_
   refine zAp rfl zAa rfl (fun _ => (zBy rfl rfl rfl rfl)) ?_
   refine zAp rfl zAa rfl (fun _ => (zAe (v := .bool _) rfl rfl)) ?_
   refine zDk (fun h42 => ?_) (fun h42 => ?_)
   ·
    try simp only [zS] at h42
    refine zBg rfl rfl rfl rfl ?_
    refine zBg rfl rfl rfl rfl ?_
    refine zBg rfl rfl rfl rfl ?_
    refine zCj rfl rfl rfl rfl hs41 ?_
    refine zBg rfl rfl rfl rfl ?_
    refine zBg rfl rfl rfl rfl ?_
    refine zBg rfl rfl rfl rfl ?_
    refine zCj rfl rfl rfl rfl hs41 ?_
    refine zBg rfl rfl rfl rfl ?_
    refine zAp rfl zAa rfl (fun _ => (zA0 (v := _) rfl rfl rfl rfl)) ?_
    refine zAp rfl zAa rfl (fun _ => (zAc (v := .bool _) rfl rfl)) ?_
    refine zB1 ?_
    refine zAd (hK38 _ _ ?_)
    refine zA2 (zA3 (l := [.tmp 4]) (vs := [_]) rfl ⟨⟨rfl, (rfl : _ = Value.bool _)⟩, trivial⟩ ?_)
    exact ⟨(by first | (rw [zCz hpre hia (by omega)]; rfl) | (rw [zCd hpre (by omega) (by omega)]; rfl) | (rw [zDf hpre (by omega) (by omega) (by first | assumption | omega)]; rfl)), hs41⟩
   try simp only [zS] at h42
   refine zAp rfl (zAn rfl rfl rfl) rfl (fun _ => (zAe (v := .slice _ _ _) rfl rfl)) ?_
   refine zAp rfl (zAn rfl rfl rfl) rfl (fun _ => (zAe (v := .int _ _) rfl rfl)) ?_
   have hia2 : i < a.length := by omega
   have hib2 : i < b.length := by omega
   obtain ⟨ba, oa, rfl, hxa⟩ := zC1 ha hia2
   obtain ⟨bb, ob, rfl, hxb⟩ := zC1 hb hib2
   refine zAp rfl (zAn rfl rfl rfl) rfl (fun _ => (zA7 underlying43 sizeOf3 rfl rfl rfl rfl (i := _) rfl (by omega))) ?_
   refine zBa rfl (zAn rfl rfl rfl) rfl hs41 (fun _ hq => (zAk isAgg3 hq rfl rfl hxa)) ?_
   refine zAp rfl (zAn rfl rfl rfl) rfl (fun _ => (zAe (v := .slice _ _ _) rfl rfl)) ?_
   refine zAp rfl (zAn rfl rfl rfl) rfl (fun _ => (zAe (v := .int _ _) rfl rfl)) ?_
   refine zAp rfl (zAn rfl rfl rfl) rfl (fun _ => (zA7 underlying43 sizeOf3 rfl rfl rfl rfl (i := _) rfl (by omega))) ?_
   refine zBa rfl (zAn rfl rfl rfl) rfl hs41 (fun _ hq => (zAk isAgg3 hq rfl rfl hxb)) ?_
   refine zAp rfl (zAn rfl rfl rfl) rfl (fun _ => (zBt rfl rfl rfl rfl)) ?_
   refine zAp rfl zAa rfl (fun _ => (zBb (v := .bool _) rfl rfl rfl rfl)) ?_
   refine zAp rfl zAa rfl (fun _ => (zAc (v := .bool _) rfl rfl)) ?_
   refine zB1 ?_
   refine zAd (hK38 _ _ ?_)
   refine zA2 (zA3 (l := [.tmp 4]) (vs := [_]) rfl ⟨⟨rfl, (rfl : _ = Value.bool _)⟩, trivial⟩ ?_)
   exact ⟨(by first | (rw [zCz hpre hia (by omega)]; rfl) | (rw [zCd hpre (by omega) (by omega)]; rfl) | (rw [zDf hpre (by omega) (by omega) (by first | assumption | omega)]; rfl)), hs41⟩
  try simp only [zS] at h16
  refine zBg rfl rfl rfl rfl ?_
  refine zBg rfl rfl rfl rfl ?_
  refine zBg rfl rfl rfl rfl ?_
  refine zBg rfl rfl rfl rfl ?_
  refine zAp rfl zAa rfl (fun _ => (zBb (v := _) rfl rfl rfl rfl)) ?_
  refine zAp rfl zAa rfl (fun _ => (zAe (v := .bool _) rfl rfl)) ?_
  refine zBg rfl rfl rfl rfl ?_
  refine zBg rfl rfl rfl rfl ?_
  refine zBg rfl rfl rfl rfl ?_
  refine zCj rfl rfl rfl rfl hs15 ?_
  refine zBg rfl rfl rfl rfl ?_
  refine zBg rfl rfl rfl rfl ?_
  refine zBg rfl rfl rfl rfl ?_
  refine zCj rfl rfl rfl rfl hs15 ?_
  refine zBg rfl rfl rfl rfl ?_
  refine zAp rfl zAa rfl (fun _ => (zBb (v := _) rfl rfl rfl rfl)) ?_
  refine zB1 ?_
  refine zAd (hK12 _ _ ?_)
  refine zB0 rfl rfl ?_
  refine zBl (zAo (zAo (zA4 (zAd (hK5 _ _ ?_)))))
  refine zAg (fun K44 hK43 => ?_)
  refine zAg (fun K46 hK45 => ?_)
  refine zAb (w_p (zAe (v := .int _ _) rfl rfl) rfl ?_)
  refine w_p (zAe (v := .slice _ _ _) rfl rfl) rfl ?_
  refine w_p (zBd underlying43 rfl rfl) rfl ?_
  refine w_p (zBy rfl rfl rfl rfl) rfl ?_
  refine zAf (zAd (hK45 _ _ ?_))
  refine zAz rfl rfl (fun h47 => ?_) (fun h47 => ?_)
  ·
   try simp only [zS] at h47
   refine zAg (fun K49 hK48 => ?_)
   refine zAb (w_p (zAc (v := _) rfl rfl) rfl ?_)
   refine zAf (zAd (hK48 _ _ ?_))
   refine zA2 (zAm (zA3 (l := [.tmp 4]) (vs := [_]) rfl ⟨⟨rfl, (rfl : _ = Value.bool _)⟩, trivial⟩ ?_))
   exact ⟨(by first | (rw [zCz hpre hia (by omega)]; rfl) | (rw [zCd hpre (by omega) (by omega)]; rfl) | (rw [zDf hpre (by omega) (by omega) (by first | assumption | omega)]; rfl)), hs15⟩
  try simp only [zS] at h47
  refine zAx (zAd (hK43 _ _ ?_))
  refine zAg (fun K51 hK50 => ?_)
  refine zB7 [] [(0, 0), (1, 0), (2, 0), (3, 0), (4, 0), (5, 0), (6, 0), (7, 0), (8, 1), (9, 0), (10, 0), (11, 0), (12, 1), (13, 0), (14, 0), (15, 0)] zBu (by kernel_rfl) hs15 (fun w52 hs53 => ?_)
  refine zAp rfl zAa rfl (fun _ => (zAe (v := .int _ _) rfl rfl)) ?_
  refine zAp rfl zAa rfl (fun _ => (zAe (v := .slice _ _ _) rfl rfl)) ?_
  refine zAp rfl zAa rfl (fun _ => (zBd underlying43 rfl rfl)) ?_
  refine zAp rfl zAa rfl (fun _ => (zBy rfl rfl rfl rfl)) ?_
  refine zAp rfl zAa rfl (fun _ => (zAe (v := .bool _) rfl rfl)) ?_
  refine zDk (fun h54 => ?_) (fun h54 => ?_)
  ·
   try simp only [zS] at h54
   refine zBg rfl rfl rfl rfl ?_
   refine zBg rfl rfl rfl rfl ?_
   refine zBg rfl rfl rfl rfl ?_
   refine zCj rfl rfl rfl rfl hs53 ?_
   refine zBg rfl rfl rfl rfl ?_
   refine zBg rfl rfl rfl rfl ?_
   refine zBg rfl rfl rfl rfl ?_
   refine zCj rfl rfl rfl rfl hs53 ?_
   refine zBg rfl rfl rfl rfl ?_
   refine zAp rfl zAa rfl (fun _ => (zA0 (v := _) rfl rfl rfl rfl)) ?_
   refine zAp rfl zAa rfl (fun _ => (zAc (v := .bool _) rfl rfl)) ?_
   refine zB1 ?_
   refine zAd (hK50 _ _ ?_)
   refine zA2 (zA3 (l := [.tmp 4]) (vs := [_]) rfl ⟨⟨rfl, (rfl : _ = Value.bool _)⟩, trivial⟩ ?_)
   exact ⟨(by first | (rw [zCz hpre hia (by omega)]; rfl) | (rw [zCd hpre (by omega) (by omega)]; rfl) | (rw [zDf hpre (by omega) (by omega) (by first | assumption | omega)]; rfl)), hs53⟩
  try simp only [zS] at h54
  refine zAp rfl (zAn rfl rfl rfl) rfl (fun _ => (zAe (v := .slice _ _ _) rfl rfl)) ?_
  refine zAp rfl (zAn rfl rfl rfl) rfl (fun _ => (zAe (v := .int _ _) rfl rfl)) ?_
  have hia2 : i < a.length := by omega
  have hib2 : i < b.length := by omega
  obtain ⟨ba, oa, rfl, hxa⟩ := zC1 ha hia2
  obtain ⟨bb, ob, rfl, hxb⟩ := zC1 hb hib2
  refine zAp rfl (zAn rfl rfl rfl) rfl (fun _ => (zA7 underlying43 sizeOf3 rfl rfl rfl rfl (i := _) rfl (by omega))) ?_
  refine zBa rfl (zAn rfl rfl rfl) rfl hs53 (fun _ hq => (zAk isAgg3 hq rfl rfl hxa)) ?_
  refine zAp rfl (zAn rfl rfl rfl) rfl (fun _ => (zAe (v := .slice _ _ _) rfl rfl)) ?_
  refine zAp rfl (zAn rfl rfl rfl) rfl (fun _ => (zAe (v := .int _ _) rfl rfl)) ?_
  refine zAp rfl (zAn rfl rfl rfl) rfl (fun _ => (zA7 underlying43 sizeOf3 rfl rfl rfl rfl (i := _) rfl (by omega))) ?_
  refine zBa rfl (zAn rfl rfl rfl) rfl hs53 (fun _ hq => (zAk isAgg3 hq rfl rfl hxb)) ?_
  refine zAp rfl (zAn rfl rfl rfl) rfl (fun _ => (zBt rfl rfl rfl rfl)) ?_
  refine zAp rfl zAa rfl (fun _ => (zBb (v := .bool _) rfl rfl rfl rfl)) ?_
  refine zAp rfl zAa rfl (fun _ => (zAc (v := .bool _) rfl rfl)) ?_
  refine zB1 ?_
  refine zAd (hK50 _ _ ?_)
  refine zA2 (zA3 (l := [.tmp 4]) (vs := [_]) rfl ⟨⟨rfl, (rfl : _ = Value.bool _)⟩, trivial⟩ ?_)
  exact ⟨(by first | (rw [zCz hpre hia (by omega)]; rfl) | (rw [zCd hpre (by omega) (by omega)]; rfl) | (rw [zDf hpre (by omega) (by omega) (by first | assumption | omega)]; rfl)), hs53⟩

theorem c31 {w0 w : World} {F : List (Nat × Obj)} (aa ab : Option Addr) (a b : List Int) (ca cb : Nat) (hla : a.length ≤ 9223372036854775807) (ha : Sl w0 F aa 1 (a.map fun x => [Value.int .i64 x])) (hb : Sl w0 F ab 1 (b.map fun x => [Value.int .i64 x])) (hs : St w0 w F) :
  Con Tryz.prog 31 [.slice aa a.length ca, .slice ab b.length cb] w fun v w' => v = .bool (decide (a = b)) ∧ St w0 w' F := by
  refine zAw (n := 22) func31 rfl rfl (Nat.le_of_ble_eq_true rfl) ?_
  refine zAg (fun K2 hK1 => ?_)
  refine zAb (w_p (zAc (v := _) rfl rfl) rfl ?_)
  refine zAf (zAd (hK1 _ _ ?_))
  refine zAg (fun K4 hK3 => ?_)
  refine zAb (w_p (zAe (v := .slice _ _ _) rfl rfl) rfl ?_)
  refine w_p (zBd underlying43 rfl rfl) rfl ?_
  refine w_p (zAe (v := .slice _ _ _) rfl rfl) rfl ?_
  refine w_p (zBd underlying43 rfl rfl) rfl ?_
  refine w_p (zBy rfl rfl rfl rfl) rfl ?_
  refine w_p (zAe (v := .bool _) rfl rfl) rfl ?_
  refine zBi (fun h5 => ?_) (fun h5 => ?_)
  ·
   try simp only [zS] at h5
   refine w_y rfl rfl rfl (zAe (v := .slice _ _ _) rfl rfl) rfl ?_
   refine w_y rfl rfl rfl (zAe (v := .slice _ _ _) rfl rfl) rfl ?_
   refine zAt (zAn rfl rfl rfl) call70 rfl rfl rfl rfl (c70 _ _ _ _ _ _ (by omega) (by assumption) (by assumption) hs) ?_
   rintro _ w7 ⟨rfl, hs8⟩
   refine w_y rfl rfl rfl (zDc rfl rfl) rfl ?_
   refine w_p (zA0 (v := .bool _) rfl rfl rfl rfl) rfl ?_
   refine w_p (zAe (v := .bool _) rfl rfl) rfl ?_
   refine zBi (fun h9 => ?_) (fun h9 => ?_)
   ·
    try simp only [zS] at h9
    refine w_y rfl rfl rfl (zAe (v := .slice _ _ _) rfl rfl) rfl ?_
    refine w_y rfl rfl rfl (zAe (v := .slice _ _ _) rfl rfl) rfl ?_
    refine zAt (zAn rfl rfl rfl) call70 rfl rfl rfl rfl (c70 _ _ _ _ _ _ (by omega) (by assumption) (by assumption) hs8) ?_
    rintro _ w11 ⟨rfl, hs12⟩
    refine w_y rfl rfl rfl (zDc rfl rfl) rfl ?_
    refine w_p (zA0 (v := .bool _) rfl rfl rfl rfl) rfl ?_
    refine w_p (zAc (v := .bool _) rfl rfl) rfl ?_
    refine zAf (zAd (hK3 _ _ ?_))
    refine zA2 (zA3 (l := [.tmp 4]) (vs := [_]) rfl ⟨⟨rfl, (rfl : _ = Value.bool _)⟩, trivial⟩ ?_)
    exact ⟨congrArg Value.bool (by rw [← ints_eq, Bool.eq_iff_iff]; simp [*] <;> omega), hs12⟩
   try simp only [zS] at h9
   refine zAi rfl rfl rfl ?_
   refine zAi rfl rfl rfl ?_
   refine zAi rfl rfl rfl ?_
   refine zAi rfl rfl rfl ?_
   refine w_p (zBb (v := _) rfl rfl rfl rfl) rfl ?_
   refine w_p (zAc (v := .bool _) rfl rfl) rfl ?_
   refine zAf (zAd (hK3 _ _ ?_))
   refine zA2 (zA3 (l := [.tmp 4]) (vs := [_]) rfl ⟨⟨rfl, (rfl : _ = Value.bool _)⟩, trivial⟩ ?_)
   exact ⟨congrArg Value.bool (by rw [← ints_eq, Bool.eq_iff_iff]; simp [*] <;> omega), hs8⟩
  try simp only [zS] at h5
  refine zAi rfl rfl rfl ?_
  refine zAi rfl rfl rfl ?_
  refine zAi rfl rfl rfl ?_
  refine zAi rfl rfl rfl ?_
  refine w_p (zBb (v := _) rfl rfl rfl rfl) rfl ?_
  refine w_p (zAe (v := .bool _) rfl rfl) rfl ?_
  refine zAi rfl rfl rfl ?_
  refine zAi rfl rfl rfl ?_
  refine zAi rfl rfl rfl ?_
  refine zAi rfl rfl rfl ?_
  refine w_p (zBb (v := _) rfl rfl rfl rfl) rfl ?_
  refine w_p (zAc (v := .bool _) rfl rfl) rfl ?_
  refine zAf (zAd (hK3 _ _ ?_))
  refine zA2 (zA3 (l := [.tmp 4]) (vs := [_]) rfl ⟨⟨rfl, (rfl : _ = Value.bool _)⟩, trivial⟩ ?_)
  exact ⟨congrArg Value.bool (by rw [← ints_eq, Bool.eq_iff_iff]; simp [*] <;> omega), hs⟩

theorem sl_strs {w0 : World} {F : List (Nat × Obj)} {a : Option Addr} {l : List ByteArray} {i : Nat} (h : Sl w0 F a 1 (l.map fun x => [Value.string x])) (hi : i < l.length) :
    ∃ b off, a = some ⟨b, off, none⟩ ∧ Ats w0 F b (off + i * 1) [.string l[i]] := by
  obtain ⟨b, off, ha, _, hat⟩ := h.at (i := i) (row := [.string l[i]]) (by simp [hi])
  exact ⟨b, off, ha, hat⟩
theorem notmem_take {l : List ByteArray} {s : ByteArray} {i : Nat} (h : has (l.take i) s = false) (hi : i < l.length) (hne : ¬ l[i] = s) : has (l.take (i + 1)) s = false := by
  unfold has at *
  rw [List.take_succ_eq_append_getElem hi, List.any_append, h]; simp [hne]
theorem c55 {w0 w : World} {F : List (Nat × Obj)} (aa : Option Addr) (l : List ByteArray) (s : ByteArray) (ca : Nat) (hla : l.length ≤ 9223372036854775807) (ha : Sl w0 F aa 1 (l.map fun x => [Value.string x])) (hs : St w0 w F) :
  Con Tryz.prog 55 [.slice aa l.length ca, .string s] w fun v w' => (∃ z, v = .int .i64 z ∧ (0 ≤ z ↔ has l s = true)) ∧ St w0 w' F := by
  refine zAw (n := 25) func55 rfl rfl (Nat.le_of_ble_eq_true rfl) ?_
  refine zAg (fun K2 hK1 => ?_)
  refine zAb (w_p (zAc (v := _) rfl rfl) rfl ?_)
  refine zAf (zAd (hK1 _ _ ?_))
  refine zAg (fun K4 hK3 => ?_)
  refine zAb (w_p (zAc (v := _) rfl rfl) rfl ?_)
  refine zAf (zAd (hK3 _ _ ?_))
  refine zAg (fun K6 hK5 => ?_)
  refine zAy ?_
  refine zBp [5, 6, 7, 8, 9, 10, 11, 12, 13, 14, 15, 16, 17, 18, 19] [5] (fun k vs w => ∃ i : Nat, vs = [.int .i64 i] ∧ i ≤ l.length ∧ k = l.length - i ∧ has (l.take i) s = false ∧ St w0 w F) (l.length) ?_ ?_
  ·
   exact ⟨0, rfl, by omega, by omega, rfl, hs⟩
  intro k vs μ w9 hI K8 hN7
  obtain ⟨i, rfl, hia, rfl, hpre, hs⟩ := hI
  refine zAg (fun K11 hK10 => ?_)
  refine zAg (fun K13 hK12 => ?_)
  refine zAb (w_p (zAe (v := .int _ _) rfl rfl) rfl ?_)
  refine w_p (zAe (v := .slice _ _ _) rfl rfl) rfl ?_
  refine w_p (zBd underlying54 rfl rfl) rfl ?_
  refine w_p (zBt rfl rfl rfl rfl) rfl ?_
  refine w_p (zAe (v := .bool _) rfl rfl) rfl ?_
  refine zBi (fun h14 => ?_) (fun h14 => ?_)
  ·
   try simp only [zS] at h14
   refine w_y rfl rfl rfl (zAe (v := .slice _ _ _) rfl rfl) rfl ?_
   refine w_y rfl rfl rfl (zAe (v := .int _ _) rfl rfl) rfl ?_
   have hi2 : i < l.length := by omega
   obtain ⟨ba, oa, rfl, hxa⟩ := sl_strs ha hi2
   refine w_y rfl rfl rfl (zA7 underlying54 sizeOf9 rfl rfl rfl rfl (i := _) rfl (by omega)) rfl ?_
   refine w_y rfl rfl rfl (zAk isAgg9 hs rfl rfl hxa) rfl ?_
   refine w_y rfl rfl rfl (zAe (v := .string _) rfl rfl) rfl ?_
   refine w_y rfl rfl rfl (y_strNe rfl rfl rfl rfl) rfl ?_
   refine w_p (zA0 (v := .bool _) rfl rfl rfl rfl) rfl ?_
   refine zAf (zAd (hK12 _ _ ?_))
   refine zAz rfl rfl (fun h15 => ?_) (fun h15 => ?_)
   ·
    try simp only [zS] at h15
    refine zAx (zAd (hK10 _ _ ?_))
    refine zAy ?_
    refine zAb (w_p (zAe (v := .int _ _) rfl rfl) rfl ?_)
    refine w_p (zBf rfl rfl rfl rfl (by omega) (by omega)) rfl ?_
    refine w_p (zAc (v := .int _ _) rfl rfl) rfl ?_
    refine zAf (zAl (zAd (hN7 _ _ (Nx.intro (l.length - (i + 1)) (by omega) (by repeat (first | exact zAv | refine zAu rfl ?_ | refine zAs rfl ?_ _ | refine zAr rfl ?_)) ?_))))
    exact ⟨i + 1, rfl, by omega, rfl, notmem_take hpre (by omega) (by assumption), hs⟩
   try simp only [zS] at h15
   refine zBl (zAo (zAo (zA4 (zAd (hK5 _ _ ?_)))))
   refine zAg (fun K17 hK16 => ?_)
   refine zAg (fun K19 hK18 => ?_)
   refine zAb (w_p (zAe (v := .int _ _) rfl rfl) rfl ?_)
   refine w_p (zAe (v := .slice _ _ _) rfl rfl) rfl ?_
   refine w_p (zBd underlying54 rfl rfl) rfl ?_
   refine w_p (zBy rfl rfl rfl rfl) rfl ?_
   refine zAf (zAd (hK18 _ _ ?_))
   refine zAz rfl rfl (fun h20 => ?_) (fun h20 => ?_)
   ·
    try simp only [zS] at h20
    refine zAg (fun K22 hK21 => ?_)
    refine zAb (w_p (zAc (v := _) rfl rfl) rfl ?_)
    refine zAf (zAd (hK21 _ _ ?_))
    refine zA2 (zAm (zA3 (l := [.tmp 4]) (vs := [_]) rfl ⟨⟨rfl, (rfl : _ = Value.int _ _)⟩, trivial⟩ ?_))
    first
      | exact ⟨⟨-1, rfl, by have hil : i = l.length := (by omega); subst hil; rw [List.take_length] at hpre; simp [hpre]⟩, hs⟩
      | exact ⟨⟨(i : Int), rfl, ⟨fun _ => (by have hi3 : i < l.length := (by omega); have he : l[i] = s := (by assumption); exact List.any_eq_true.2 ⟨_, List.getElem_mem hi3, by simp [he]⟩), fun _ => by omega⟩⟩, hs⟩
      | (exfalso; omega)
   try simp only [zS] at h20
   refine zAx (zAd (hK16 _ _ ?_))
   refine zAg (fun K24 hK23 => ?_)
   refine zAb (w_p (zAe (v := .int _ _) rfl rfl) rfl ?_)
   refine w_p (zAc (v := .int _ _) rfl rfl) rfl ?_
   refine zAf (zAd (hK23 _ _ ?_))
   refine zA2 (zA3 (l := [.tmp 4]) (vs := [_]) rfl ⟨⟨rfl, (rfl : _ = Value.int _ _)⟩, trivial⟩ ?_)
   first
     | exact ⟨⟨-1, rfl, by have hil : i = l.length := (by omega); subst hil; rw [List.take_length] at hpre; simp [hpre]⟩, hs⟩
     | exact ⟨⟨(i : Int), rfl, ⟨fun _ => (by have hi3 : i < l.length := (by omega); have he : l[i] = s := (by assumption); exact List.any_eq_true.2 ⟨_, List.getElem_mem hi3, by simp [he]⟩), fun _ => by omega⟩⟩, hs⟩
     | (exfalso; omega)
  try simp only [zS] at h14
  refine zAi rfl rfl rfl ?_
  refine zAi rfl rfl rfl ?_
  refine zAi rfl rfl rfl ?_
  refine zAi rfl rfl rfl ?_
  refine zAi rfl rfl rfl ?_
  refine zAi rfl rfl rfl ?_
  refine w_p (zBb (v := _) rfl rfl rfl rfl) rfl ?_
  refine zAf (zAd (hK12 _ _ ?_))
  refine zB0 rfl rfl ?_
  refine zBl (zAo (zAo (zA4 (zAd (hK5 _ _ ?_)))))
  refine zAg (fun K26 hK25 => ?_)
  refine zAg (fun K28 hK27 => ?_)
  refine zAb (w_p (zAe (v := .int _ _) rfl rfl) rfl ?_)
  refine w_p (zAe (v := .slice _ _ _) rfl rfl) rfl ?_
  refine w_p (zBd underlying54 rfl rfl) rfl ?_
  refine w_p (zBy rfl rfl rfl rfl) rfl ?_
  refine zAf (zAd (hK27 _ _ ?_))
  refine zAz rfl rfl (fun h29 => ?_) (fun h29 => ?_)
  ·
   try simp only [zS] at h29
   refine zAg (fun K31 hK30 => ?_)
   refine zAb (w_p (zAc (v := _) rfl rfl) rfl ?_)
   refine zAf (zAd (hK30 _ _ ?_))
   refine zA2 (zAm (zA3 (l := [.tmp 4]) (vs := [_]) rfl ⟨⟨rfl, (rfl : _ = Value.int _ _)⟩, trivial⟩ ?_))
   first
     | exact ⟨⟨-1, rfl, by have hil : i = l.length := (by omega); subst hil; rw [List.take_length] at hpre; simp [hpre]⟩, hs⟩
     | exact ⟨⟨(i : Int), rfl, ⟨fun _ => (by have hi3 : i < l.length := (by omega); have he : l[i] = s := (by assumption); exact List.any_eq_true.2 ⟨_, List.getElem_mem hi3, by simp [he]⟩), fun _ => by omega⟩⟩, hs⟩
     | (exfalso; omega)
  try simp only [zS] at h29
  refine zAx (zAd (hK25 _ _ ?_))
  refine zAg (fun K33 hK32 => ?_)
  refine zAb (w_p (zAe (v := .int _ _) rfl rfl) rfl ?_)
  refine w_p (zAc (v := .int _ _) rfl rfl) rfl ?_
  refine zAf (zAd (hK32 _ _ ?_))
  refine zA2 (zA3 (l := [.tmp 4]) (vs := [_]) rfl ⟨⟨rfl, (rfl : _ = Value.int _ _)⟩, trivial⟩ ?_)
  first
    | exact ⟨⟨-1, rfl, by have hil : i = l.length := (by omega); subst hil; rw [List.take_length] at hpre; simp [hpre]⟩, hs⟩
    | exact ⟨⟨(i : Int), rfl, ⟨fun _ => (by have hi3 : i < l.length := (by omega); have he : l[i] = s := (by assumption); exact List.any_eq_true.2 ⟨_, List.getElem_mem hi3, by simp [he]⟩), fun _ => by omega⟩⟩, hs⟩
    | (exfalso; omega)

theorem nmBytes_snoc (l : List UInt8) (c : UInt8) : ∀ f, nmBytes f (l ++ [c]) = (nmBytes f l && nmByte (f && l.isEmpty) c) := by
  induction l with
  | nil => intro f; simp [nmBytes]
  | cons x l ih => intro f; simp only [List.cons_append, nmBytes, ih]; simp [Bool.and_assoc]
theorem name_step (s : ByteArray) (i : Nat) (h : i < s.size) : nmBytes true (s.data.toList.take (i + 1)) = (nmBytes true (s.data.toList.take i) && nmByte (decide (i = 0)) s[i]) := by
  rw [List.take_succ_eq_append_getElem (by simpa using h), nmBytes_snoc]
  have e : (true && (s.data.toList.take i).isEmpty) = decide (i = 0) := by
    rw [Bool.eq_iff_iff]
    cases i with
    | zero => simp
    | succ i =>
      have : s.data.toList ≠ [] := by intro e; simp at e; have h2 : s.size = 0 := by rw [ByteArray.size, e]; rfl
                                      omega
      simp [this]
  rw [e]; rfl
theorem bp (x y : Bool) (k : IntKind) (a b : Int) (h1 : x = y) (h2 : a = b) : [Value.bool x, Value.int k a] = [Value.bool y, Value.int k b] := by rw [h1, h2]
theorem zDg (s : ByteArray) (i : Nat) (h : i < s.size) (x : Bool)
    (hx : x = ((decide (1 ≤ s.size) && decide (s.size ≤ 16) && nmBytes true (s.data.toList.take i)) && nmByte (decide (i = 0)) s[i])) : x = (decide (1 ≤ s.size) && decide (s.size ≤ 16) && nmBytes true (s.data.toList.take (i + 1))) := by
  rw [hx, name_step s i h, Bool.and_assoc]
theorem c56 {w0 w : World} {F : List (Nat × Obj)} (s : ByteArray) (hls : s.size ≤ 9223372036854775807) (hs : St w0 w F) :
  Con Tryz.prog 56 [.string s] w fun v w' => v = .bool (nmOk s) ∧ St w0 w' F := by
  refine zAw (n := 42) func56 rfl rfl (Nat.le_of_ble_eq_true rfl) ?_
  refine zAg (fun K2 hK1 => ?_)
  refine zAb (w_p (zAc (v := _) rfl rfl) rfl ?_)
  refine zAf (zAd (hK1 _ _ ?_))
  refine zAg (fun K4 hK3 => ?_)
  refine zAb (w_p (zAe (v := .string _) rfl rfl) rfl ?_)
  refine w_p (y_lenStr underlying9 rfl rfl) rfl ?_
  refine zAt zAa call12 rfl rfl rfl rfl (c12 _ _ _ hs) ?_
  rintro _ w6 ⟨rfl, hs7⟩
  refine w_p (zAc (v := .bool _) rfl rfl) rfl ?_
  refine zAf (zAd (hK3 _ _ ?_))
  refine zAg (fun K9 hK8 => ?_)
  refine zAg (fun K11 hK10 => ?_)
  refine zAb (w_p (zAc (v := _) rfl rfl) rfl ?_)
  refine zAf (zAd (hK10 _ _ ?_))
  refine zAy ?_
  refine zBp [3, 4, 5, 9, 10, 11, 12, 13, 14, 15, 16, 17, 18, 19, 20, 21, 22, 23, 24, 25, 26, 27, 28, 29, 30, 31, 32, 33, 34, 35, 36, 37, 38, 39, 40] [3, 4] (fun k vs w => ∃ i : Nat, vs = [.bool (decide (1 ≤ s.size) && decide (s.size ≤ 16) && nmBytes true (s.data.toList.take i)), .int .i64 i] ∧ i ≤ s.size ∧ k = s.size - i ∧ St w0 w F) (s.size) ?_ ?_
  ·
   exact ⟨0, bp _ _ _ _ _ (by rw [Bool.eq_iff_iff]; simp [out, nmBytes] <;> omega) rfl, by omega, by omega, hs7⟩
  intro k vs μ w14 hI K13 hN12
  obtain ⟨i, rfl, hia, rfl, hs⟩ := hI
  generalize hfine : (decide (1 ≤ s.size) && decide (s.size ≤ 16) && nmBytes true (s.data.toList.take i)) = fine
  refine zAg (fun K16 hK15 => ?_)
  refine zAg (fun K18 hK17 => ?_)
  refine zAb (w_p (zAe (v := .int _ _) rfl rfl) rfl ?_)
  refine w_p (zAe (v := .string _) rfl rfl) rfl ?_
  refine w_p (y_lenStr underlying9 rfl rfl) rfl ?_
  refine w_p (zBt rfl rfl rfl rfl) rfl ?_
  refine zAf (zAd (hK17 _ _ ?_))
  refine zAz rfl rfl (fun h19 => ?_) (fun h19 => ?_)
  ·
   try simp only [zS] at h19
   refine zAx (zAd (hK15 _ _ ?_))
   refine zAg (fun K21 hK20 => ?_)
   refine zAy ?_
   refine zAg (fun K23 hK22 => ?_)
   have hi2 : i < s.size := by omega
   have hc0 : (0:Int) ≤ (s[i].toNat : Int) := by omega
   have hc1 : (s[i].toNat : Int) ≤ 255 := by have := s[i].toNat_lt; omega
   refine zAb (w_p (zAe (v := .int _ _) rfl rfl) rfl ?_)
   refine w_p (y_gtr rfl rfl rfl rfl) rfl ?_
   refine w_p (zAe (v := .bool _) rfl rfl) rfl ?_
   refine zBi (fun h24 => ?_) (fun h24 => ?_)
   ·
    try simp only [zS] at h24
    refine w_y rfl rfl rfl (zAe (v := .string _) rfl rfl) rfl ?_
    refine w_y rfl rfl rfl (zAe (v := .int _ _) rfl rfl) rfl ?_
    refine w_y rfl rfl rfl (y_strIdx underlying9 rfl rfl rfl rfl (i := _) rfl (by omega)) rfl ?_
    refine w_y rfl rfl rfl (zBy rfl rfl rfl rfl) rfl ?_
    refine w_y rfl rfl rfl (zAe (v := .bool _) rfl rfl) rfl ?_
    refine zBi (fun h25 => ?_) (fun h25 => ?_)
    ·
     try simp only [zS] at h25
     refine zAi rfl rfl rfl ?_
     refine zAi rfl rfl rfl ?_
     refine zAi rfl rfl rfl ?_
     refine zAi rfl rfl rfl ?_
     refine zAi rfl rfl rfl ?_
     refine w_y rfl rfl rfl (zA0 (v := _) rfl rfl rfl rfl) rfl ?_
     refine w_p (zA0 (v := .bool _) rfl rfl rfl rfl) rfl ?_
     refine w_p (zAc (v := .bool _) rfl rfl) rfl ?_
     refine zAf (zAd (hK22 _ _ ?_))
     refine zAb (w_p (zAe (v := .bool _) rfl rfl) rfl ?_)
     refine w_p (zAe (v := .bool _) rfl rfl) rfl ?_
     refine zBi (fun h26 => ?_) (fun h26 => ?_)
     ·
      try simp only [zS] at h26
      refine w_y rfl rfl rfl (zAe (v := .string _) rfl rfl) rfl ?_
      refine w_y rfl rfl rfl (zAe (v := .int _ _) rfl rfl) rfl ?_
      refine w_y rfl rfl rfl (y_strIdx underlying9 rfl rfl rfl rfl (i := _) rfl (by omega)) rfl ?_
      refine w_y rfl rfl rfl (y_u8int (by rw [underlying5]; rfl) underlying3 rfl rfl (by omega) (by omega)) rfl ?_
      refine zAt (zAn rfl rfl rfl) call12 rfl rfl rfl rfl (c12 _ _ _ hs) ?_
      rintro _ w28 ⟨rfl, hs29⟩
      refine w_y rfl rfl rfl (zAe (v := .bool _) rfl rfl) rfl ?_
      refine zBi (fun h30 => ?_) (fun h30 => ?_)
      ·
       try simp only [zS] at h30
       refine zAi rfl rfl rfl ?_
       refine w_y rfl rfl rfl (zA0 (v := _) rfl rfl rfl rfl) rfl ?_
       refine w_p (zA0 (v := .bool _) rfl rfl rfl rfl) rfl ?_
       refine w_p (zAc (v := .bool _) rfl rfl) rfl ?_
       refine zAf (zAl (zAd (hK20 _ _ ?_)))
       refine zAb (w_p (zAe (v := .int _ _) rfl rfl) rfl ?_)
       refine w_p (zBf rfl rfl rfl rfl (by omega) (by omega)) rfl ?_
       refine w_p (zAc (v := .int _ _) rfl rfl) rfl ?_
       refine zAf (zAd (hN12 _ _ (Nx.intro (s.size - (i + 1)) (by omega) (by repeat (first | exact zAv | refine zAu rfl ?_ | refine zAs rfl ?_ _ | refine zAr rfl ?_)) ?_)))
       exact ⟨i + 1, bp _ _ _ _ _ (zDg s i (by omega) _ (by rw [hfine, Bool.eq_iff_iff]; simp only [*]; simp [nmByte, out] <;> omega)) rfl, by omega, rfl, hs29⟩
      try simp only [zS] at h30
      refine w_y rfl rfl rfl (zAe (v := .bool _) rfl rfl) rfl ?_
      refine w_y rfl rfl rfl (zBb (v := .bool _) rfl rfl rfl rfl) rfl ?_
      refine w_p (zA0 (v := .bool _) rfl rfl rfl rfl) rfl ?_
      refine w_p (zAc (v := .bool _) rfl rfl) rfl ?_
      refine zAf (zAl (zAd (hK20 _ _ ?_)))
      refine zAb (w_p (zAe (v := .int _ _) rfl rfl) rfl ?_)
      refine w_p (zBf rfl rfl rfl rfl (by omega) (by omega)) rfl ?_
      refine w_p (zAc (v := .int _ _) rfl rfl) rfl ?_
      refine zAf (zAd (hN12 _ _ (Nx.intro (s.size - (i + 1)) (by omega) (by repeat (first | exact zAv | refine zAu rfl ?_ | refine zAs rfl ?_ _ | refine zAr rfl ?_)) ?_)))
      exact ⟨i + 1, bp _ _ _ _ _ (zDg s i (by omega) _ (by rw [hfine, Bool.eq_iff_iff]; simp only [*]; simp [nmByte, out] <;> omega)) rfl, by omega, rfl, hs29⟩
     try simp only [zS] at h26
     refine zAi rfl rfl rfl ?_
     refine zAi rfl rfl rfl ?_
     refine zAi rfl rfl rfl ?_
     refine zAi rfl rfl rfl ?_
     refine zAi rfl rfl rfl ?_
     refine zAi rfl rfl rfl ?_
     refine zBc rfl rfl rfl ?_
     refine zAi rfl rfl rfl ?_
     refine w_p (zBb (v := _) rfl rfl rfl rfl) rfl ?_
     refine w_p (zAc (v := .bool _) rfl rfl) rfl ?_
     refine zAf (zAl (zAd (hK20 _ _ ?_)))
     refine zAb (w_p (zAe (v := .int _ _) rfl rfl) rfl ?_)
     refine w_p (zBf rfl rfl rfl rfl (by omega) (by omega)) rfl ?_
     refine w_p (zAc (v := .int _ _) rfl rfl) rfl ?_
     refine zAf (zAd (hN12 _ _ (Nx.intro (s.size - (i + 1)) (by omega) (by repeat (first | exact zAv | refine zAu rfl ?_ | refine zAs rfl ?_ _ | refine zAr rfl ?_)) ?_)))
     exact ⟨i + 1, bp _ _ _ _ _ (zDg s i (by omega) _ (by rw [hfine, Bool.eq_iff_iff]; simp only [*]; simp [nmByte, out] <;> omega)) rfl, by omega, rfl, hs⟩
    try simp only [zS] at h25
    refine w_y rfl rfl rfl (zAe (v := .string _) rfl rfl) rfl ?_
    refine w_y rfl rfl rfl (zAe (v := .int _ _) rfl rfl) rfl ?_
    refine w_y rfl rfl rfl (y_strIdx underlying9 rfl rfl rfl rfl (i := _) rfl (by omega)) rfl ?_
    refine w_y rfl rfl rfl (y_u8int (by rw [underlying5]; rfl) underlying3 rfl rfl (by omega) (by omega)) rfl ?_
    refine zAt (zAn rfl rfl rfl) call12 rfl rfl rfl rfl (c12 _ _ _ hs) ?_
    rintro _ w32 ⟨rfl, hs33⟩
    refine w_y rfl rfl rfl (zBb (v := .bool _) rfl rfl rfl rfl) rfl ?_
    refine w_p (zA0 (v := .bool _) rfl rfl rfl rfl) rfl ?_
    refine w_p (zAc (v := .bool _) rfl rfl) rfl ?_
    refine zAf (zAd (hK22 _ _ ?_))
    refine zAb (w_p (zAe (v := .bool _) rfl rfl) rfl ?_)
    refine w_p (zAe (v := .bool _) rfl rfl) rfl ?_
    refine zBi (fun h34 => ?_) (fun h34 => ?_)
    ·
     try simp only [zS] at h34
     refine w_y rfl rfl rfl (zAe (v := .string _) rfl rfl) rfl ?_
     refine w_y rfl rfl rfl (zAe (v := .int _ _) rfl rfl) rfl ?_
     refine w_y rfl rfl rfl (y_strIdx underlying9 rfl rfl rfl rfl (i := _) rfl (by omega)) rfl ?_
     refine w_y rfl rfl rfl (y_u8int (by rw [underlying5]; rfl) underlying3 rfl rfl (by omega) (by omega)) rfl ?_
     refine zAt (zAn rfl rfl rfl) call12 rfl rfl rfl rfl (c12 _ _ _ hs33) ?_
     rintro _ w36 ⟨rfl, hs37⟩
     refine w_y rfl rfl rfl (zAe (v := .bool _) rfl rfl) rfl ?_
     refine zBi (fun h38 => ?_) (fun h38 => ?_)
     ·
      try simp only [zS] at h38
      refine zAi rfl rfl rfl ?_
      refine w_y rfl rfl rfl (zA0 (v := _) rfl rfl rfl rfl) rfl ?_
      refine w_p (zA0 (v := .bool _) rfl rfl rfl rfl) rfl ?_
      refine w_p (zAc (v := .bool _) rfl rfl) rfl ?_
      refine zAf (zAl (zAd (hK20 _ _ ?_)))
      refine zAb (w_p (zAe (v := .int _ _) rfl rfl) rfl ?_)
      refine w_p (zBf rfl rfl rfl rfl (by omega) (by omega)) rfl ?_
      refine w_p (zAc (v := .int _ _) rfl rfl) rfl ?_
      refine zAf (zAd (hN12 _ _ (Nx.intro (s.size - (i + 1)) (by omega) (by repeat (first | exact zAv | refine zAu rfl ?_ | refine zAs rfl ?_ _ | refine zAr rfl ?_)) ?_)))
      exact ⟨i + 1, bp _ _ _ _ _ (zDg s i (by omega) _ (by rw [hfine, Bool.eq_iff_iff]; simp only [*]; simp [nmByte, out] <;> omega)) rfl, by omega, rfl, hs37⟩
     try simp only [zS] at h38
     refine w_y rfl rfl rfl (zAe (v := .bool _) rfl rfl) rfl ?_
     refine w_y rfl rfl rfl (zBb (v := .bool _) rfl rfl rfl rfl) rfl ?_
     refine w_p (zA0 (v := .bool _) rfl rfl rfl rfl) rfl ?_
     refine w_p (zAc (v := .bool _) rfl rfl) rfl ?_
     refine zAf (zAl (zAd (hK20 _ _ ?_)))
     refine zAb (w_p (zAe (v := .int _ _) rfl rfl) rfl ?_)
     refine w_p (zBf rfl rfl rfl rfl (by omega) (by omega)) rfl ?_
     refine w_p (zAc (v := .int _ _) rfl rfl) rfl ?_
     refine zAf (zAd (hN12 _ _ (Nx.intro (s.size - (i + 1)) (by omega) (by repeat (first | exact zAv | refine zAu rfl ?_ | refine zAs rfl ?_ _ | refine zAr rfl ?_)) ?_)))
     exact ⟨i + 1, bp _ _ _ _ _ (zDg s i (by omega) _ (by rw [hfine, Bool.eq_iff_iff]; simp only [*]; simp [nmByte, out] <;> omega)) rfl, by omega, rfl, hs37⟩
    try simp only [zS] at h34
    refine zAi rfl rfl rfl ?_
    refine zAi rfl rfl rfl ?_
    refine zAi rfl rfl rfl ?_
    refine zAi rfl rfl rfl ?_
    refine zAi rfl rfl rfl ?_
    refine zAi rfl rfl rfl ?_
    refine zBc rfl rfl rfl ?_
    refine zAi rfl rfl rfl ?_
    refine w_p (zBb (v := _) rfl rfl rfl rfl) rfl ?_
    refine w_p (zAc (v := .bool _) rfl rfl) rfl ?_
    refine zAf (zAl (zAd (hK20 _ _ ?_)))
    refine zAb (w_p (zAe (v := .int _ _) rfl rfl) rfl ?_)
    refine w_p (zBf rfl rfl rfl rfl (by omega) (by omega)) rfl ?_
    refine w_p (zAc (v := .int _ _) rfl rfl) rfl ?_
    refine zAf (zAd (hN12 _ _ (Nx.intro (s.size - (i + 1)) (by omega) (by repeat (first | exact zAv | refine zAu rfl ?_ | refine zAs rfl ?_ _ | refine zAr rfl ?_)) ?_)))
    exact ⟨i + 1, bp _ _ _ _ _ (zDg s i (by omega) _ (by rw [hfine, Bool.eq_iff_iff]; simp only [*]; simp [nmByte, out] <;> omega)) rfl, by omega, rfl, hs33⟩
   try simp only [zS] at h24
   refine zAi rfl rfl rfl ?_
   refine zAi rfl rfl rfl ?_
   refine zAi rfl rfl rfl ?_
   refine zAi rfl rfl rfl ?_
   refine zAi rfl rfl rfl ?_
   refine zBc rfl rfl rfl ?_
   refine zBc rfl rfl rfl ?_
   refine zBc rfl rfl rfl ?_
   refine zBc rfl rfl rfl ?_
   refine zBc rfl rfl rfl ?_
   refine zAi rfl rfl rfl ?_
   refine w_p (zBb (v := _) rfl rfl rfl rfl) rfl ?_
   refine w_p (zAc (v := .bool _) rfl rfl) rfl ?_
   refine zAf (zAd (hK22 _ _ ?_))
   refine zAb (w_p (zAe (v := .bool _) rfl rfl) rfl ?_)
   refine w_p (zAe (v := .bool _) rfl rfl) rfl ?_
   refine zBi (fun h39 => ?_) (fun h39 => ?_)
   ·
    try simp only [zS] at h39
    refine w_y rfl rfl rfl (zAe (v := .string _) rfl rfl) rfl ?_
    refine w_y rfl rfl rfl (zAe (v := .int _ _) rfl rfl) rfl ?_
    refine w_y rfl rfl rfl (y_strIdx underlying9 rfl rfl rfl rfl (i := _) rfl (by omega)) rfl ?_
    refine w_y rfl rfl rfl (y_u8int (by rw [underlying5]; rfl) underlying3 rfl rfl (by omega) (by omega)) rfl ?_
    refine zAt (zAn rfl rfl rfl) call12 rfl rfl rfl rfl (c12 _ _ _ hs) ?_
    rintro _ w41 ⟨rfl, hs42⟩
    refine w_y rfl rfl rfl (zAe (v := .bool _) rfl rfl) rfl ?_
    refine zBi (fun h43 => ?_) (fun h43 => ?_)
    ·
     try simp only [zS] at h43
     refine zAi rfl rfl rfl ?_
     refine w_y rfl rfl rfl (zA0 (v := _) rfl rfl rfl rfl) rfl ?_
     refine w_p (zA0 (v := .bool _) rfl rfl rfl rfl) rfl ?_
     refine w_p (zAc (v := .bool _) rfl rfl) rfl ?_
     refine zAf (zAl (zAd (hK20 _ _ ?_)))
     refine zAb (w_p (zAe (v := .int _ _) rfl rfl) rfl ?_)
     refine w_p (zBf rfl rfl rfl rfl (by omega) (by omega)) rfl ?_
     refine w_p (zAc (v := .int _ _) rfl rfl) rfl ?_
     refine zAf (zAd (hN12 _ _ (Nx.intro (s.size - (i + 1)) (by omega) (by repeat (first | exact zAv | refine zAu rfl ?_ | refine zAs rfl ?_ _ | refine zAr rfl ?_)) ?_)))
     exact ⟨i + 1, bp _ _ _ _ _ (zDg s i (by omega) _ (by rw [hfine, Bool.eq_iff_iff]; simp only [*]; simp [nmByte, out] <;> omega)) rfl, by omega, rfl, hs42⟩
    try simp only [zS] at h43
    refine w_y rfl rfl rfl (zAe (v := .bool _) rfl rfl) rfl ?_
    refine w_y rfl rfl rfl (zBb (v := .bool _) rfl rfl rfl rfl) rfl ?_
    refine w_p (zA0 (v := .bool _) rfl rfl rfl rfl) rfl ?_
    refine w_p (zAc (v := .bool _) rfl rfl) rfl ?_
    refine zAf (zAl (zAd (hK20 _ _ ?_)))
    refine zAb (w_p (zAe (v := .int _ _) rfl rfl) rfl ?_)
    refine w_p (zBf rfl rfl rfl rfl (by omega) (by omega)) rfl ?_
    refine w_p (zAc (v := .int _ _) rfl rfl) rfl ?_
    refine zAf (zAd (hN12 _ _ (Nx.intro (s.size - (i + 1)) (by omega) (by repeat (first | exact zAv | refine zAu rfl ?_ | refine zAs rfl ?_ _ | refine zAr rfl ?_)) ?_)))
    exact ⟨i + 1, bp _ _ _ _ _ (zDg s i (by omega) _ (by rw [hfine, Bool.eq_iff_iff]; simp only [*]; simp [nmByte, out] <;> omega)) rfl, by omega, rfl, hs42⟩
   try simp only [zS] at h39
   refine zAi rfl rfl rfl ?_
   refine zAi rfl rfl rfl ?_
   refine zAi rfl rfl rfl ?_
   refine zAi rfl rfl rfl ?_
   refine zAi rfl rfl rfl ?_
   refine zAi rfl rfl rfl ?_
   refine zBc rfl rfl rfl ?_
   refine zAi rfl rfl rfl ?_
   refine w_p (zBb (v := _) rfl rfl rfl rfl) rfl ?_
   refine w_p (zAc (v := .bool _) rfl rfl) rfl ?_
   refine zAf (zAl (zAd (hK20 _ _ ?_)))
   refine zAb (w_p (zAe (v := .int _ _) rfl rfl) rfl ?_)
   refine w_p (zBf rfl rfl rfl rfl (by omega) (by omega)) rfl ?_
   refine w_p (zAc (v := .int _ _) rfl rfl) rfl ?_
   refine zAf (zAd (hN12 _ _ (Nx.intro (s.size - (i + 1)) (by omega) (by repeat (first | exact zAv | refine zAu rfl ?_ | refine zAs rfl ?_ _ | refine zAr rfl ?_)) ?_)))
   exact ⟨i + 1, bp _ _ _ _ _ (zDg s i (by omega) _ (by rw [hfine, Bool.eq_iff_iff]; simp only [*]; simp [nmByte, out] <;> omega)) rfl, by omega, rfl, hs⟩
  try simp only [zS] at h19
  refine zBl (zAo (zAo (zA4 (zAd (hK8 _ _ ?_)))))
  refine zAg (fun K45 hK44 => ?_)
  refine zAb (w_p (zAe (v := .bool _) rfl rfl) rfl ?_)
  refine w_p (zAc (v := .bool _) rfl rfl) rfl ?_
  refine zAf (zAd (hK44 _ _ ?_))
  refine zA2 (zA3 (l := [.tmp 2]) (vs := [_]) rfl ⟨⟨rfl, (rfl : _ = Value.bool _)⟩, trivial⟩ ?_)
  exact ⟨congrArg Value.bool (by have hil : i = s.size := (by omega); subst hil; rw [← hfine]; unfold nmOk; rw [List.take_of_length_le (by simp)]), hs⟩

theorem c14 {w0 w : World} {F : List (Nat × Obj)} (s : ByteArray) (aa : Option Addr) (l : List ByteArray) (ca : Nat) (hls : s.size ≤ 9223372036854775807) (hla : l.length ≤ 9223372036854775807) (ha : Sl w0 F aa 1 (l.map fun x => [Value.string x])) (hs : St w0 w F) :
  Con Tryz.prog 14 [.string s, .slice aa l.length ca] w fun v w' => v = .int .i64 (if nmOk s = false then 6 else if has l s then 5 else 0) ∧ St w0 w' F := by
  refine zAw (n := 14) func14 rfl rfl (Nat.le_of_ble_eq_true rfl) ?_
  refine zAg (fun K2 hK1 => ?_)
  refine zAb (w_p (zAc (v := _) rfl rfl) rfl ?_)
  refine zAf (zAd (hK1 _ _ ?_))
  refine zAg (fun K4 hK3 => ?_)
  refine zAb (w_p (zAc (v := _) rfl rfl) rfl ?_)
  refine zAf (zAd (hK3 _ _ ?_))
  refine zAg (fun K6 hK5 => ?_)
  refine zAg (fun K8 hK7 => ?_)
  refine zAb (w_p (zAe (v := .slice _ _ _) rfl rfl) rfl ?_)
  refine w_p (zAe (v := .string _) rfl rfl) rfl ?_
  refine zAt zAa call55 rfl rfl rfl rfl (c55 _ _ _ _ (by omega) (by assumption) hs) ?_
  rintro _ w10 ⟨⟨z, rfl, hz⟩, hs11⟩
  refine w_p (y_geq rfl rfl rfl rfl) rfl ?_
  refine zAf (zAd (hK7 _ _ ?_))
  refine zAz rfl rfl (fun h12 => ?_) (fun h12 => ?_)
  ·
   try simp only [zS] at h12
   refine zAb (w_p (zAc (v := _) rfl rfl) rfl ?_)
   refine zAf (zAd (hK5 _ _ ?_))
   refine zAg (fun K14 hK13 => ?_)
   refine zAg (fun K16 hK15 => ?_)
   refine zAb (w_p (zAe (v := .string _) rfl rfl) rfl ?_)
   refine zAt zAa call56 rfl rfl rfl rfl (c56 _ (by omega) hs11) ?_
   rintro _ w18 ⟨rfl, hs19⟩
   refine w_p (zDc rfl rfl) rfl ?_
   refine zAf (zAd (hK15 _ _ ?_))
   refine zAz rfl rfl (fun h20 => ?_) (fun h20 => ?_)
   ·
    try simp only [zS] at h20
    refine zAb (w_p (zAc (v := _) rfl rfl) rfl ?_)
    refine zAf (zAd (hK13 _ _ ?_))
    refine zAg (fun K22 hK21 => ?_)
    refine zAb (w_p (zAe (v := .int _ _) rfl rfl) rfl ?_)
    refine w_p (zAc (v := .int _ _) rfl rfl) rfl ?_
    refine zAf (zAd (hK21 _ _ ?_))
    refine zA2 (zA3 (l := [.tmp 4]) (vs := [_]) rfl ⟨⟨rfl, (rfl : _ = Value.int _ _)⟩, trivial⟩ ?_)
    exact ⟨congrArg (Value.int .i64) (by have hz2 : has l s = decide (0 ≤ z) := (by rw [Bool.eq_iff_iff]; simp [hz]); rw [hz2]; clear hz hz2; simp [*] <;> (repeat' split) <;> omega), hs19⟩
   try simp only [zS] at h20
   refine zAx (zAd (hK13 _ _ ?_))
   refine zAg (fun K24 hK23 => ?_)
   refine zAb (w_p (zAe (v := .int _ _) rfl rfl) rfl ?_)
   refine w_p (zAc (v := .int _ _) rfl rfl) rfl ?_
   refine zAf (zAd (hK23 _ _ ?_))
   refine zA2 (zA3 (l := [.tmp 4]) (vs := [_]) rfl ⟨⟨rfl, (rfl : _ = Value.int _ _)⟩, trivial⟩ ?_)
   exact ⟨congrArg (Value.int .i64) (by have hz2 : has l s = decide (0 ≤ z) := (by rw [Bool.eq_iff_iff]; simp [hz]); rw [hz2]; clear hz hz2; simp [*] <;> (repeat' split) <;> omega), hs19⟩
  try simp only [zS] at h12
  refine zAx (zAd (hK5 _ _ ?_))
  refine zAg (fun K26 hK25 => ?_)
  refine zAg (fun K28 hK27 => ?_)
  refine zAb (w_p (zAe (v := .string _) rfl rfl) rfl ?_)
  refine zAt zAa call56 rfl rfl rfl rfl (c56 _ (by omega) hs11) ?_
  rintro _ w30 ⟨rfl, hs31⟩
  refine w_p (zDc rfl rfl) rfl ?_
  refine zAf (zAd (hK27 _ _ ?_))
  refine zAz rfl rfl (fun h32 => ?_) (fun h32 => ?_)
  ·
   try simp only [zS] at h32
   refine zAb (w_p (zAc (v := _) rfl rfl) rfl ?_)
   refine zAf (zAd (hK25 _ _ ?_))
   refine zAg (fun K34 hK33 => ?_)
   refine zAb (w_p (zAe (v := .int _ _) rfl rfl) rfl ?_)
   refine w_p (zAc (v := .int _ _) rfl rfl) rfl ?_
   refine zAf (zAd (hK33 _ _ ?_))
   refine zA2 (zA3 (l := [.tmp 4]) (vs := [_]) rfl ⟨⟨rfl, (rfl : _ = Value.int _ _)⟩, trivial⟩ ?_)
   exact ⟨congrArg (Value.int .i64) (by have hz2 : has l s = decide (0 ≤ z) := (by rw [Bool.eq_iff_iff]; simp [hz]); rw [hz2]; clear hz hz2; simp [*] <;> (repeat' split) <;> omega), hs31⟩
  try simp only [zS] at h32
  refine zAx (zAd (hK25 _ _ ?_))
  refine zAg (fun K36 hK35 => ?_)
  refine zAb (w_p (zAe (v := .int _ _) rfl rfl) rfl ?_)
  refine w_p (zAc (v := .int _ _) rfl rfl) rfl ?_
  refine zAf (zAd (hK35 _ _ ?_))
  refine zA2 (zA3 (l := [.tmp 4]) (vs := [_]) rfl ⟨⟨rfl, (rfl : _ = Value.int _ _)⟩, trivial⟩ ?_)
  exact ⟨congrArg (Value.int .i64) (by have hz2 : has l s = decide (0 ≤ z) := (by rw [Bool.eq_iff_iff]; simp [hz]); rw [hz2]; clear hz hz2; simp [*] <;> (repeat' split) <;> omega), hs31⟩

theorem any_take {l : List Int} {p : Int → Bool} {i : Nat} (h : (l.take i).any p = false) (hi : i < l.length) (hp : p l[i] = false) : (l.take (i + 1)).any p = false := by
  rw [List.take_succ_eq_append_getElem hi, List.any_append, h]; simp [hp]
theorem c109 {w0 w : World} {F : List (Nat × Obj)} (aa : Option Addr) (l : List Int) (ca : Nat) (hla : l.length ≤ 9223372036854775807) (ha : Sl w0 F aa 1 (l.map fun x => [Value.int .i64 x])) {fk : FuncId} (hC : CF Tryz.prog fk) (first captured : Array Value) (p : Int → Bool)
    (hp : ∀ x ∈ l, ∀ w, St w0 w F → Con Tryz.prog fk (first.toList ++ ([.int .i64 x] ++ captured.toList)) w fun v w' => v = .bool (p x) ∧ St w0 w' F) (hs : St w0 w F) :
  Con Tryz.prog 109 [.slice aa l.length ca, .func (.func fk) first captured] w fun v w' => (∃ z, v = .int .i64 z ∧ decide (0 ≤ z) = l.any p) ∧ St w0 w' F := by
  refine zAw (n := 19) func109 rfl rfl (Nat.le_of_ble_eq_true rfl) ?_
  refine zAg (fun K2 hK1 => ?_)
  refine zAb (w_p (zAc (v := _) rfl rfl) rfl ?_)
  refine zAf (zAd (hK1 _ _ ?_))
  refine zAg (fun K4 hK3 => ?_)
  refine zAg (fun K6 hK5 => ?_)
  refine zAb (w_p (zAe (v := .slice _ _ _) rfl rfl) rfl ?_)
  refine w_p (zBd underlying43 rfl rfl) rfl ?_
  refine w_p (zAe (v := _) rfl rfl) rfl ?_
  refine zAf (zAd (hK5 _ _ ?_))
  refine zAy ?_
  refine zBp [4, 5, 8, 9, 10, 11, 12, 13, 14, 15, 16, 17, 18] [8] (fun k vs w => ∃ i : Nat, vs = [.int .i64 i] ∧ i ≤ l.length ∧ k = l.length - i ∧ (l.take i).any p = false ∧ St w0 w F) (l.length) ?_ ?_
  ·
   exact ⟨0, rfl, by omega, by omega, by simp, hs⟩
  intro k vs μ w9 hI K8 hN7
  obtain ⟨i, rfl, hia, rfl, hpre, hs⟩ := hI
  refine zAg (fun K11 hK10 => ?_)
  refine zAb (w_p (zBt rfl rfl rfl rfl) rfl ?_)
  refine zAf (zAd (hK10 _ _ ?_))
  refine zAg (fun K13 hK12 => ?_)
  refine zAz rfl rfl (fun h14 => ?_) (fun h14 => ?_)
  ·
   try simp only [zS] at h14
   refine zAx (zAd (hK12 _ _ ?_))
   refine zAg (fun K16 hK15 => ?_)
   refine zAy ?_
   refine zAg (fun K18 hK17 => ?_)
   refine zAb (w_p (zAe (v := .int _ _) rfl rfl) rfl ?_)
   refine w_p (zAc (v := .int _ _) rfl rfl) rfl ?_
   refine zAf (zAd (hK17 _ _ ?_))
   refine zAg (fun K20 hK19 => ?_)
   have hi2 : i < l.length := by omega
   obtain ⟨ba, oa, rfl, hxa⟩ := zC1 ha hi2
   refine zAb (w_p (zAe (v := .func _ _ _) rfl rfl) rfl ?_)
   refine w_p (zAe (v := .slice _ _ _) rfl rfl) rfl ?_
   refine w_p (zAe (v := .int _ _) rfl rfl) rfl ?_
   refine w_p (zA7 underlying43 sizeOf3 rfl rfl rfl rfl (i := _) rfl (by omega)) rfl ?_
   refine w_p (zAk isAgg3 hs rfl rfl hxa) rfl ?_
   refine zAt zAa hC rfl rfl rfl rfl (hp _ (List.getElem_mem hi2) _ hs) ?_
   rintro _ w22 ⟨rfl, hs23⟩
   refine zAf (zAd (hK19 _ _ ?_))
   refine zAz rfl rfl (fun h24 => ?_) (fun h24 => ?_)
   ·
    try simp only [zS] at h24
    refine zAg (fun K26 hK25 => ?_)
    refine zAb (w_p (zAe (v := .int _ _) rfl rfl) rfl ?_)
    refine w_p (zAc (v := .int _ _) rfl rfl) rfl ?_
    refine zAf (zAd (hK25 _ _ ?_))
    refine zA2 (zA1 (zAm (zAm (zA1 (zAm (zA3 (l := [.tmp 4]) (vs := [_]) rfl ⟨⟨rfl, (rfl : _ = Value.int _ _)⟩, trivial⟩ ?_))))))
    first
      | exact ⟨⟨-1, rfl, by have hil : i = l.length := (by omega); subst hil; rw [List.take_length] at hpre; rw [hpre]; rfl⟩, hs23⟩
      | exact ⟨⟨(i : Int), rfl, by rw [Bool.eq_iff_iff]; simp only [decide_eq_true_eq, List.any_eq_true]; exact ⟨fun _ => ⟨_, List.getElem_mem hi2, by assumption⟩, fun _ => by omega⟩⟩, hs23⟩
   try simp only [zS] at h24
   refine zAx (zAl (zAd (hK15 _ _ ?_)))
   refine zAb (w_p (zBf rfl rfl rfl rfl (by omega) (by omega)) rfl ?_)
   refine w_p (zAe (v := .int _ _) rfl rfl) rfl ?_
   refine zAf (zAd (hN7 _ _ (Nx.intro (l.length - (i + 1)) (by omega) (by repeat (first | exact zAv | refine zAu rfl ?_ | refine zAs rfl ?_ _ | refine zAr rfl ?_)) ?_)))
   exact ⟨i + 1, rfl, by omega, rfl, any_take hpre (by omega) (by assumption), hs23⟩
  try simp only [zS] at h14
  refine zBl (zAo (zAo (zA4 (zAd (hK3 _ _ ?_)))))
  refine zAg (fun K28 hK27 => ?_)
  refine zAb (w_p (zAc (v := _) rfl rfl) rfl ?_)
  refine zAf (zAd (hK27 _ _ ?_))
  refine zA2 (zA3 (l := [.tmp 4]) (vs := [_]) rfl ⟨⟨rfl, (rfl : _ = Value.int _ _)⟩, trivial⟩ ?_)
  first
    | exact ⟨⟨-1, rfl, by have hil : i = l.length := (by omega); subst hil; rw [List.take_length] at hpre; rw [hpre]; rfl⟩, hs⟩
    | exact ⟨⟨(i : Int), rfl, by rw [Bool.eq_iff_iff]; simp only [decide_eq_true_eq, List.any_eq_true]; exact ⟨fun _ => ⟨_, List.getElem_mem hi2, by assumption⟩, fun _ => by omega⟩⟩, hs⟩

theorem c89 {w0 w : World} {F : List (Nat × Obj)} (aa : Option Addr) (l : List Int) (ca : Nat) (hla : l.length ≤ 9223372036854775807) (ha : Sl w0 F aa 1 (l.map fun x => [Value.int .i64 x])) {fk : FuncId} (hC : CF Tryz.prog fk) (first captured : Array Value) (p : Int → Bool)
    (hp : ∀ x ∈ l, ∀ w, St w0 w F → Con Tryz.prog fk (first.toList ++ ([.int .i64 x] ++ captured.toList)) w fun v w' => v = .bool (p x) ∧ St w0 w' F) (hs : St w0 w F) :
  Con Tryz.prog 89 [.slice aa l.length ca, .func (.func fk) first captured] w fun v w' => v = .bool (l.any p) ∧ St w0 w' F := by
  refine zAw (n := 9) func89 rfl rfl (Nat.le_of_ble_eq_true rfl) ?_
  refine zAg (fun K2 hK1 => ?_)
  refine zAb (w_p (zAc (v := _) rfl rfl) rfl ?_)
  refine zAf (zAd (hK1 _ _ ?_))
  refine zAg (fun K4 hK3 => ?_)
  refine zAb (w_p (zAe (v := .slice _ _ _) rfl rfl) rfl ?_)
  refine w_p (zAe (v := .func _ _ _) rfl rfl) rfl ?_
  refine zAt zAa call109 rfl rfl rfl rfl (c109 _ _ _ hla ha hC _ _ p hp hs) ?_
  rintro _ w6 ⟨⟨z, rfl, hz⟩, hs7⟩
  refine w_p (y_geq rfl rfl rfl rfl) rfl ?_
  refine w_p (zAc (v := .bool _) rfl rfl) rfl ?_
  refine zAf (zAd (hK3 _ _ ?_))
  refine zA2 (zA3 (l := [.tmp 4]) (vs := [_]) rfl ⟨⟨rfl, (rfl : _ = Value.bool _)⟩, trivial⟩ ?_)
  exact ⟨congrArg Value.bool hz, hs7⟩

theorem c90 {w0 w : World} {F : List (Nat × Obj)} (n lo hi : Int) (b1 b2 : Nat) (h1 : Ats w0 F b1 0 [.int .i64 lo]) (h2 : Ats w0 F b2 0 [.int .i64 hi]) (hs : St w0 w F) :
  Con Tryz.prog 90 [.int .i64 n, .pointer (some ⟨b1, 0, none⟩), .pointer (some ⟨b2, 0, none⟩)] w fun v w' => v = .bool (out lo hi n) ∧ St w0 w' F := by
  refine zAw (n := 13) func90 rfl rfl (Nat.le_of_ble_eq_true rfl) ?_
  refine zAg (fun K2 hK1 => ?_)
  refine zAb (w_p (zAc (v := _) rfl rfl) rfl ?_)
  refine zAf (zAd (hK1 _ _ ?_))
  refine zAg (fun K4 hK3 => ?_)
  refine zAb (w_p (zAe (v := .int _ _) rfl rfl) rfl ?_)
  refine w_p (zAk isAgg3 hs rfl rfl h1) rfl ?_
  refine w_p (zBt rfl rfl rfl rfl) rfl ?_
  refine w_p (zAe (v := .bool _) rfl rfl) rfl ?_
  refine zBi (fun h5 => ?_) (fun h5 => ?_)
  ·
   try simp only [zS] at h5
   refine zAi rfl rfl rfl ?_
   refine zAi rfl rfl rfl ?_
   refine zAi rfl rfl rfl ?_
   refine w_p (zA0 (v := _) rfl rfl rfl rfl) rfl ?_
   refine w_p (zAc (v := .bool _) rfl rfl) rfl ?_
   refine zAf (zAd (hK3 _ _ ?_))
   refine zA2 (zA3 (l := [.tmp 4]) (vs := [_]) rfl ⟨⟨rfl, (rfl : _ = Value.bool _)⟩, trivial⟩ ?_)
   exact ⟨congrArg Value.bool (by rw [Bool.eq_iff_iff]; simp [out, *] <;> omega), hs⟩
  try simp only [zS] at h5
  refine w_y rfl rfl rfl (zAe (v := .int _ _) rfl rfl) rfl ?_
  refine w_y rfl rfl rfl (zAk isAgg3 hs rfl rfl h2) rfl ?_
  refine w_y rfl rfl rfl (y_gtr rfl rfl rfl rfl) rfl ?_
  refine w_p (zBb (v := .bool _) rfl rfl rfl rfl) rfl ?_
  refine w_p (zAc (v := .bool _) rfl rfl) rfl ?_
  refine zAf (zAd (hK3 _ _ ?_))
  refine zA2 (zA3 (l := [.tmp 4]) (vs := [_]) rfl ⟨⟨rfl, (rfl : _ = Value.bool _)⟩, trivial⟩ ?_)
  exact ⟨congrArg Value.bool (by rw [Bool.eq_iff_iff]; simp [out, *] <;> omega), hs⟩

theorem c62 {w0 w : World} {F : List (Nat × Obj)} (lo hi : Int) (aa : Option Addr) (l : List Int) (ca : Nat) (hla : l.length ≤ 9223372036854775807) (ha : Sl w0 F aa 1 (l.map fun x => [Value.int .i64 x])) (hs : St w0 w F) :
  Con Tryz.prog 62 [.int .i64 lo, .int .i64 hi, .slice aa l.length ca] w fun v w' => v = .bool (l.any (out lo hi)) ∧ St w0 w' F := by
  refine zAw (n := 10) func62 rfl rfl (Nat.le_of_ble_eq_true rfl) ?_
  refine zAg (fun K2 hK1 => ?_)
  refine zAb (zB3 (v := .int _ _) (cs := [_]) zAa rfl rfl rfl hs (fun b3 w4 hs5 => ?_))
  refine zB3 (v := .int _ _) (cs := [_]) zAa rfl rfl rfl hs5 (fun b6 w7 hs8 => ?_)
  refine w_p (zAc (v := _) rfl rfl) rfl ?_
  refine zAf (zAd (hK1 _ _ ?_))
  refine zAg (fun K10 hK9 => ?_)
  refine zAb (w_p (zAe (v := .slice _ _ _) rfl rfl) rfl ?_)
  refine w_p (zB9 (fv := []) (cv := [_, _]) rfl rfl rfl rfl) rfl ?_
  refine zAt zAa call89 rfl rfl rfl rfl (c89 _ _ _ hla ha.cons.cons call90 _ _ (out lo hi) (fun x _ w hs => c90 _ _ _ _ _ (zAj (i := 1) (vs := [_]) rfl rfl) (zAj (i := 0) (vs := [_]) rfl rfl) hs) hs8) ?_
  rintro _ w12 ⟨rfl, hs13⟩
  refine w_p (zAc (v := .bool _) rfl rfl) rfl ?_
  refine zAf (zAd (hK9 _ _ ?_))
  refine zA2 (zA3 (l := [.tmp 6]) (vs := [_]) rfl ⟨⟨rfl, (rfl : _ = Value.bool _)⟩, trivial⟩ ?_)
  exact ⟨rfl, hs13.tail.tail⟩

theorem c98 {w0 w : World} {F : List (Nat × Obj)} (n lo hi : Int) (b1 b2 : Nat) (h1 : Ats w0 F b1 0 [.int .i64 lo]) (h2 : Ats w0 F b2 0 [.int .i64 hi]) (hs : St w0 w F) :
  Con Tryz.prog 98 [.int .i64 n, .pointer (some ⟨b1, 0, none⟩), .pointer (some ⟨b2, 0, none⟩)] w fun v w' => v = .bool (out lo hi n) ∧ St w0 w' F := by
  refine zAw (n := 13) func98 rfl rfl (Nat.le_of_ble_eq_true rfl) ?_
  refine zAg (fun K2 hK1 => ?_)
  refine zAb (w_p (zAc (v := _) rfl rfl) rfl ?_)
  refine zAf (zAd (hK1 _ _ ?_))
  refine zAg (fun K4 hK3 => ?_)
  refine zAb (w_p (zAe (v := .int _ _) rfl rfl) rfl ?_)
  refine w_p (zAk isAgg3 hs rfl rfl h1) rfl ?_
  refine w_p (zBt rfl rfl rfl rfl) rfl ?_
  refine w_p (zAe (v := .bool _) rfl rfl) rfl ?_
  refine zBi (fun h5 => ?_) (fun h5 => ?_)
  ·
   try simp only [zS] at h5
   refine zAi rfl rfl rfl ?_
   refine zAi rfl rfl rfl ?_
   refine zAi rfl rfl rfl ?_
   refine w_p (zA0 (v := _) rfl rfl rfl rfl) rfl ?_
   refine w_p (zAc (v := .bool _) rfl rfl) rfl ?_
   refine zAf (zAd (hK3 _ _ ?_))
   refine zA2 (zA3 (l := [.tmp 4]) (vs := [_]) rfl ⟨⟨rfl, (rfl : _ = Value.bool _)⟩, trivial⟩ ?_)
   exact ⟨congrArg Value.bool (by rw [Bool.eq_iff_iff]; simp [out, *] <;> omega), hs⟩
  try simp only [zS] at h5
  refine w_y rfl rfl rfl (zAe (v := .int _ _) rfl rfl) rfl ?_
  refine w_y rfl rfl rfl (zAk isAgg3 hs rfl rfl h2) rfl ?_
  refine w_y rfl rfl rfl (y_gtr rfl rfl rfl rfl) rfl ?_
  refine w_p (zBb (v := .bool _) rfl rfl rfl rfl) rfl ?_
  refine w_p (zAc (v := .bool _) rfl rfl) rfl ?_
  refine zAf (zAd (hK3 _ _ ?_))
  refine zA2 (zA3 (l := [.tmp 4]) (vs := [_]) rfl ⟨⟨rfl, (rfl : _ = Value.bool _)⟩, trivial⟩ ?_)
  exact ⟨congrArg Value.bool (by rw [Bool.eq_iff_iff]; simp [out, *] <;> omega), hs⟩

theorem c73 {w0 w : World} {F : List (Nat × Obj)} (lo hi : Int) (aa : Option Addr) (l : List Int) (ca : Nat) (hla : l.length ≤ 9223372036854775807) (ha : Sl w0 F aa 1 (l.map fun x => [Value.int .i64 x])) (hs : St w0 w F) :
  Con Tryz.prog 73 [.int .i64 lo, .int .i64 hi, .slice aa l.length ca] w fun v w' => v = .bool (l.any (out lo hi)) ∧ St w0 w' F := by
  refine zAw (n := 10) func73 rfl rfl (Nat.le_of_ble_eq_true rfl) ?_
  refine zAg (fun K2 hK1 => ?_)
  refine zAb (zB3 (v := .int _ _) (cs := [_]) zAa rfl rfl rfl hs (fun b3 w4 hs5 => ?_))
  refine zB3 (v := .int _ _) (cs := [_]) zAa rfl rfl rfl hs5 (fun b6 w7 hs8 => ?_)
  refine w_p (zAc (v := _) rfl rfl) rfl ?_
  refine zAf (zAd (hK1 _ _ ?_))
  refine zAg (fun K10 hK9 => ?_)
  refine zAb (w_p (zAe (v := .slice _ _ _) rfl rfl) rfl ?_)
  refine w_p (zB9 (fv := []) (cv := [_, _]) rfl rfl rfl rfl) rfl ?_
  refine zAt zAa call89 rfl rfl rfl rfl (c89 _ _ _ hla ha.cons.cons call98 _ _ (out lo hi) (fun x _ w hs => c98 _ _ _ _ _ (zAj (i := 1) (vs := [_]) rfl rfl) (zAj (i := 0) (vs := [_]) rfl rfl) hs) hs8) ?_
  rintro _ w12 ⟨rfl, hs13⟩
  refine w_p (zAc (v := .bool _) rfl rfl) rfl ?_
  refine zAf (zAd (hK9 _ _ ?_))
  refine zA2 (zA3 (l := [.tmp 6]) (vs := [_]) rfl ⟨⟨rfl, (rfl : _ = Value.bool _)⟩, trivial⟩ ?_)
  exact ⟨rfl, hs13.tail.tail⟩

end Go.Proofs
set_option maxRecDepth 20000
namespace Go.Proofs
open Go.Proofs.Tryz
open Go.Rt
attribute [local irreducible] WL WC Con Yd At Ats Sl Agree DW
theorem Try_B_fb0 (x0 : Int) (w : World) : (Instr.buildSlice 43 1 [(0, .int .i64 x0)].toArray).run Tryz.prog w = .ok (.slice (some ⟨w.heap.size, 0, none⟩) 1 1) (w.alloc (Go.Rt.blk 3 [.int .i64 x0])) := by kernel_rfl
theorem nmBytes_take (l : List UInt8) : ∀ (f : Bool) (i : Nat), nmBytes f l = true → nmBytes f (l.take i) = true := by
  induction l with
  | nil => intro f i h; simpa using h
  | cons x l ih =>
    intro f i h
    cases i with
    | zero => rfl
    | succ i =>
      simp only [nmBytes, Bool.and_eq_true] at h
      simp only [List.take_succ_cons, nmBytes, Bool.and_eq_true]
      exact ⟨h.1, ih _ i h.2⟩
theorem name_bad (s : ByteArray) (i : Nat) (h : i < s.size) (hb : nmByte (decide (i = 0)) s[i] = false) : false = nmOk s := by
  symm
  unfold nmOk
  cases hn : nmBytes true s.data.toList with
  | false => simp
  | true =>
    have := nmBytes_take _ true (i + 1) hn
    rw [name_step s i h, hb] at this
    simp at this
theorem dec (s : ByteArray) (i : Nat) (h : i < s.size) : (s[i].toNat < 128 ∧ (Utf8.decode s i).1 = s[i].toNat ∧ (Utf8.decode s i).2 = 1) ∨ (128 ≤ s[i].toNat ∧ 128 ≤ (Utf8.decode s i).1 ∧ 1 ≤ (Utf8.decode s i).2) := by
  rcases Nat.lt_or_ge s[i].toNat 128 with hlt | hge
  · left; rw [decode_ascii s i h hlt]; exact ⟨hlt, rfl, rfl⟩
  · right; exact ⟨hge, decode_high s i h hge⟩
theorem c32 {w0 w : World} {F : List (Nat × Obj)} (s : ByteArray) (hls : s.size ≤ 9223372036854775807) (hs : St w0 w F) :
  Con Tryz.prog 32 [.string s] w fun v w' => v = .bool (nmOk s) ∧ St w0 w' F := by
  refine zAw (n := 41) func32 rfl rfl (Nat.le_of_ble_eq_true rfl) ?_
  refine zAg (fun K2 hK1 => ?_)
  refine zAb (w_p (zAc (v := _) rfl rfl) rfl ?_)
  refine zAf (zAd (hK1 _ _ ?_))
  refine zAg (fun K4 hK3 => ?_)
  refine zAg (fun K6 hK5 => ?_)
  refine zAb (w_p (zAe (v := .string _) rfl rfl) rfl ?_)
  refine w_rangeStr zAa underlying9 rfl rfl hs (fun b7 w8 hs9 => ?_)
  refine zAf (zAd (hK5 _ _ ?_))
  refine zAy ?_
  refine zBp [2, 3, 4, 5, 8, 9, 10, 11, 12, 13, 14, 15, 16, 17, 18, 19, 20, 21, 22, 23, 24, 25, 26, 27, 28, 29, 30, 31, 32, 33, 34, 35] [] (fun k vs w => ∃ i : Nat, vs = [] ∧ i ≤ s.size ∧ k = s.size - i ∧ nmBytes true (s.data.toList.take i) = true ∧ St w0 w ((b7, .stringIter s i) :: F)) (s.size) ?_ ?_
  ·
   exact ⟨0, rfl, by omega, by omega, rfl, hs9⟩
  intro k vs μ w12 hI K11 hN10
  obtain ⟨i, rfl, hia, rfl, hpre, hs⟩ := hI
  refine zAg (fun K14 hK13 => ?_)
  refine zAb (w_nextStr (i := 0) zAa rfl rfl hs rfl (fun hp15 w16 hs17 => ?_) (fun hp15 => ?_))
  ·
   refine w_p (zAq (v := .bool _) rfl rfl rfl) rfl ?_
   refine zAf (zAd (hK13 _ _ ?_))
   refine zAg (fun K19 hK18 => ?_)
   refine zCg rfl rfl ?_
   refine zAx (zAd (hK18 _ _ ?_))
   refine zAy ?_
   refine zAg (fun K21 hK20 => ?_)
   refine zAb ?_
   have hi2 : i < s.size := by omega
   have hd := dec s i hi2
   have hb2 := s[i].toNat_lt
   refine w_p (zAq (v := .int _ _) rfl rfl rfl) rfl ?_
   refine w_p (zAq (v := .int _ _) rfl rfl rfl) rfl ?_
   refine w_p (zAc (v := .int _ _) rfl rfl) rfl ?_
   refine w_p (zAc (v := .int _ _) rfl rfl) rfl ?_
   refine zAf (zAd (hK20 _ _ ?_))
   refine zAg (fun K23 hK22 => ?_)
   refine zAb (w_p (zAe (v := .int _ _) rfl rfl) rfl ?_)
   refine w_p (y_geq rfl rfl rfl rfl) rfl ?_
   refine w_p (zAe (v := .bool _) rfl rfl) rfl ?_
   refine zBi (fun h24 => ?_) (fun h24 => ?_)
   ·
    try simp only [zS] at h24
    refine w_y rfl rfl rfl (zAe (v := .int _ _) rfl rfl) rfl ?_
    refine w_y rfl rfl rfl (y_leq rfl rfl rfl rfl) rfl ?_
    refine w_p (zA0 (v := .bool _) rfl rfl rfl rfl) rfl ?_
    refine w_p (zAc (v := .bool _) rfl rfl) rfl ?_
    refine zAf (zAd (hK22 _ _ ?_))
    refine zAg (fun K26 hK25 => ?_)
    refine zAb (w_p (zAe (v := .bool _) rfl rfl) rfl ?_)
    refine w_p (zDc rfl rfl) rfl ?_
    refine w_p (zAe (v := .bool _) rfl rfl) rfl ?_
    refine zBi (fun h27 => ?_) (fun h27 => ?_)
    ·
     try simp only [zS] at h27
     refine w_y rfl rfl rfl (zAe (v := .int _ _) rfl rfl) rfl ?_
     refine w_y rfl rfl rfl (zBy rfl rfl rfl rfl) rfl ?_
     refine w_y rfl rfl rfl (zAe (v := .bool _) rfl rfl) rfl ?_
     refine zBi (fun h28 => ?_) (fun h28 => ?_)
     ·
      try simp only [zS] at h28
      refine zAi rfl rfl rfl ?_
      refine zAi rfl rfl rfl ?_
      refine zAi rfl rfl rfl ?_
      refine zBc rfl rfl rfl ?_
      refine zBc rfl rfl rfl ?_
      refine zBc rfl rfl rfl ?_
      refine zBc rfl rfl rfl ?_
      refine zBc rfl rfl rfl ?_
      refine zBc rfl rfl rfl ?_
      refine zAi rfl rfl rfl ?_
      refine w_y rfl rfl rfl (zA0 (v := _) rfl rfl rfl rfl) rfl ?_
      refine w_p (zA0 (v := .bool _) rfl rfl rfl rfl) rfl ?_
      refine zAf (zAd (hK25 _ _ ?_))
      refine zCg rfl rfl ?_
      refine zAg (fun K30 hK29 => ?_)
      refine zAb (w_p (zAc (v := _) rfl rfl) rfl ?_)
      refine zAf (zAd (hK29 _ _ ?_))
      refine zA2 (zA1 (zAm (zA1 (zAm (zA3 (l := [.tmp 2]) (vs := [_]) rfl ⟨⟨rfl, (rfl : _ = Value.bool _)⟩, trivial⟩ ?_)))))
      first
        | exact ⟨congrArg Value.bool (name_bad s i hi2 (by simp [nmByte]; omega)), hs17.tail⟩
        | exact ⟨congrArg Value.bool (by have hil : i = s.size := (by omega); subst hil; rw [List.take_of_length_le (by simp)] at hpre; unfold nmOk; rw [hpre, Bool.eq_iff_iff]; simp [out] <;> omega), hs17.tail.tail⟩
     try simp only [zS] at h28
     refine w_y rfl rfl rfl (zAe (v := .int _ _) rfl rfl) rfl ?_
     refine w_y rfl rfl rfl (zCc rfl rfl rfl rfl) rfl ?_
     refine w_y rfl rfl rfl (zAe (v := .bool _) rfl rfl) rfl ?_
     refine zBi (fun h31 => ?_) (fun h31 => ?_)
     ·
      try simp only [zS] at h31
      refine w_y rfl rfl rfl (zAe (v := .int _ _) rfl rfl) rfl ?_
      refine w_y rfl rfl rfl (zBt rfl rfl rfl rfl) rfl ?_
      refine w_y rfl rfl rfl (zAe (v := .bool _) rfl rfl) rfl ?_
      refine zBi (fun h32 => ?_) (fun h32 => ?_)
      ·
       try simp only [zS] at h32
       refine zAi rfl rfl rfl ?_
       refine zAi rfl rfl rfl ?_
       refine w_y rfl rfl rfl (zA0 (v := _) rfl rfl rfl rfl) rfl ?_
       refine w_y rfl rfl rfl (zA0 (v := .bool _) rfl rfl rfl rfl) rfl ?_
       refine w_y rfl rfl rfl (zBb (v := .bool _) rfl rfl rfl rfl) rfl ?_
       refine w_p (zA0 (v := .bool _) rfl rfl rfl rfl) rfl ?_
       refine zAf (zAd (hK25 _ _ ?_))
       refine zCg rfl rfl ?_
       refine zAg (fun K34 hK33 => ?_)
       refine zAb (w_p (zAc (v := _) rfl rfl) rfl ?_)
       refine zAf (zAd (hK33 _ _ ?_))
       refine zA2 (zA1 (zAm (zA1 (zAm (zA3 (l := [.tmp 2]) (vs := [_]) rfl ⟨⟨rfl, (rfl : _ = Value.bool _)⟩, trivial⟩ ?_)))))
       first
         | exact ⟨congrArg Value.bool (name_bad s i hi2 (by simp [nmByte]; omega)), hs17.tail⟩
         | exact ⟨congrArg Value.bool (by have hil : i = s.size := (by omega); subst hil; rw [List.take_of_length_le (by simp)] at hpre; unfold nmOk; rw [hpre, Bool.eq_iff_iff]; simp [out] <;> omega), hs17.tail.tail⟩
      try simp only [zS] at h32
      refine w_y rfl rfl rfl (zAe (v := .int _ _) rfl rfl) rfl ?_
      refine w_y rfl rfl rfl (y_gtr rfl rfl rfl rfl) rfl ?_
      refine w_y rfl rfl rfl (zBb (v := .bool _) rfl rfl rfl rfl) rfl ?_
      refine w_y rfl rfl rfl (zA0 (v := .bool _) rfl rfl rfl rfl) rfl ?_
      refine w_y rfl rfl rfl (zBb (v := .bool _) rfl rfl rfl rfl) rfl ?_
      refine w_p (zA0 (v := .bool _) rfl rfl rfl rfl) rfl ?_
      refine zAf (zAd (hK25 _ _ ?_))
      refine zAz rfl rfl (fun h35 => ?_) (fun h35 => ?_)
      ·
       try simp only [zS] at h35
       refine zAg (fun K37 hK36 => ?_)
       refine zAb (w_p (zAc (v := _) rfl rfl) rfl ?_)
       refine zAf (zAd (hK36 _ _ ?_))
       refine zA2 (zA1 (zAm (zA1 (zAm (zA3 (l := [.tmp 2]) (vs := [_]) rfl ⟨⟨rfl, (rfl : _ = Value.bool _)⟩, trivial⟩ ?_)))))
       first
         | exact ⟨congrArg Value.bool (name_bad s i hi2 (by simp [nmByte]; omega)), hs17.tail⟩
         | exact ⟨congrArg Value.bool (by have hil : i = s.size := (by omega); subst hil; rw [List.take_of_length_le (by simp)] at hpre; unfold nmOk; rw [hpre, Bool.eq_iff_iff]; simp [out] <;> omega), hs17.tail.tail⟩
      try simp only [zS] at h35
      refine zAx (zAl (zAd (hN10 _ _ (Nx.intro (s.size - (i + (Utf8.decode s i).2)) ((by omega)) (by repeat (first | exact zAv | refine zAu rfl ?_ | refine zAs rfl ?_ _ | refine zAr rfl ?_)) ?_))))
      have hd1 : s[i].toNat < 128 ∧ (Utf8.decode s i).1 = s[i].toNat ∧ (Utf8.decode s i).2 = 1 := (by rcases hd with h | h; exact h; (exfalso; first | omega | (simp only [Bool.or_eq_true, Bool.and_eq_true, decide_eq_true_eq, Bool.not_eq_true', decide_eq_false_iff_not] at *; omega)))
      have hn1 : nmByte (decide (i = 0)) s[i] = true := (by simp [nmByte]; omega)
      refine ⟨i + 1, rfl, by omega, by rw [hd1.2.2], ?_, by rw [← hd1.2.2]; exact hs17⟩
      rw [name_step s i hi2, hpre, hn1]; rfl
     try simp only [zS] at h31
     refine zAi rfl rfl rfl ?_
     refine zAi rfl rfl rfl ?_
     refine zAi rfl rfl rfl ?_
     refine zBc rfl rfl rfl ?_
     refine zBc rfl rfl rfl ?_
     refine zAi rfl rfl rfl ?_
     refine w_y rfl rfl rfl (zBb (v := _) rfl rfl rfl rfl) rfl ?_
     refine w_y rfl rfl rfl (zBb (v := .bool _) rfl rfl rfl rfl) rfl ?_
     refine w_p (zA0 (v := .bool _) rfl rfl rfl rfl) rfl ?_
     refine zAf (zAd (hK25 _ _ ?_))
     refine zB0 rfl rfl ?_
     refine zAx (zAl (zAd (hN10 _ _ (Nx.intro (s.size - (i + (Utf8.decode s i).2)) ((by omega)) (by repeat (first | exact zAv | refine zAu rfl ?_ | refine zAs rfl ?_ _ | refine zAr rfl ?_)) ?_))))
     have hd1 : s[i].toNat < 128 ∧ (Utf8.decode s i).1 = s[i].toNat ∧ (Utf8.decode s i).2 = 1 := (by rcases hd with h | h; exact h; (exfalso; first | omega | (simp only [Bool.or_eq_true, Bool.and_eq_true, decide_eq_true_eq, Bool.not_eq_true', decide_eq_false_iff_not] at *; omega)))
     have hn1 : nmByte (decide (i = 0)) s[i] = true := (by simp [nmByte]; omega)
     refine ⟨i + 1, rfl, by omega, by rw [hd1.2.2], ?_, by rw [← hd1.2.2]; exact hs17⟩
     rw [name_step s i hi2, hpre, hn1]; rfl
    try simp only [zS] at h27
    refine zAi rfl rfl rfl ?_
    refine zAi rfl rfl rfl ?_
    refine zAi rfl rfl rfl ?_
    refine zBc rfl rfl rfl ?_
    refine zBc rfl rfl rfl ?_
    refine zBc rfl rfl rfl ?_
    refine zBc rfl rfl rfl ?_
    refine zBc rfl rfl rfl ?_
    refine zBc rfl rfl rfl ?_
    refine zBc rfl rfl rfl ?_
    refine zBc rfl rfl rfl ?_
    refine zBc rfl rfl rfl ?_
    refine zBc rfl rfl rfl ?_
    refine zAi rfl rfl rfl ?_
    refine w_p (zBb (v := _) rfl rfl rfl rfl) rfl ?_
    refine zAf (zAd (hK25 _ _ ?_))
    refine zB0 rfl rfl ?_
    refine zAx (zAl (zAd (hN10 _ _ (Nx.intro (s.size - (i + (Utf8.decode s i).2)) ((by omega)) (by repeat (first | exact zAv | refine zAu rfl ?_ | refine zAs rfl ?_ _ | refine zAr rfl ?_)) ?_))))
    have hd1 : s[i].toNat < 128 ∧ (Utf8.decode s i).1 = s[i].toNat ∧ (Utf8.decode s i).2 = 1 := (by rcases hd with h | h; exact h; (exfalso; first | omega | (simp only [Bool.or_eq_true, Bool.and_eq_true, decide_eq_true_eq, Bool.not_eq_true', decide_eq_false_iff_not] at *; omega)))
    have hn1 : nmByte (decide (i = 0)) s[i] = true := (by simp [nmByte]; omega)
    refine ⟨i + 1, rfl, by omega, by rw [hd1.2.2], ?_, by rw [← hd1.2.2]; exact hs17⟩
    rw [name_step s i hi2, hpre, hn1]; rfl
   try simp only [zS] at h24
   refine zAi rfl rfl rfl ?_
   refine zAi rfl rfl rfl ?_
   refine w_p (zBb (v := _) rfl rfl rfl rfl) rfl ?_
   refine w_p (zAc (v := .bool _) rfl rfl) rfl ?_
   refine zAf (zAd (hK22 _ _ ?_))
   refine zAg (fun K39 hK38 => ?_)
   refine zAb (w_p (zAe (v := .bool _) rfl rfl) rfl ?_)
   refine w_p (zDc rfl rfl) rfl ?_
   refine w_p (zAe (v := .bool _) rfl rfl) rfl ?_
   refine w_y rfl rfl rfl (zAe (v := .int _ _) rfl rfl) rfl ?_
   refine w_y rfl rfl rfl (zBy rfl rfl rfl rfl) rfl ?_
   refine w_y rfl rfl rfl (zAe (v := .bool _) rfl rfl) rfl ?_
   refine zBi (fun h40 => ?_) (fun h40 => ?_)
   ·
    try simp only [zS] at h40
    refine zAi rfl rfl rfl ?_
    refine zAi rfl rfl rfl ?_
    refine zAi rfl rfl rfl ?_
    refine zBc rfl rfl rfl ?_
    refine zBc rfl rfl rfl ?_
    refine zBc rfl rfl rfl ?_
    refine zBc rfl rfl rfl ?_
    refine zBc rfl rfl rfl ?_
    refine zBc rfl rfl rfl ?_
    refine zAi rfl rfl rfl ?_
    refine w_y rfl rfl rfl (zA0 (v := _) rfl rfl rfl rfl) rfl ?_
    refine w_p (zA0 (v := .bool _) rfl rfl rfl rfl) rfl ?_
    refine zAf (zAd (hK38 _ _ ?_))
    refine zCg rfl rfl ?_
    refine zAg (fun K42 hK41 => ?_)
    refine zAb (w_p (zAc (v := _) rfl rfl) rfl ?_)
    refine zAf (zAd (hK41 _ _ ?_))
    refine zA2 (zA1 (zAm (zA1 (zAm (zA3 (l := [.tmp 2]) (vs := [_]) rfl ⟨⟨rfl, (rfl : _ = Value.bool _)⟩, trivial⟩ ?_)))))
    first
      | exact ⟨congrArg Value.bool (name_bad s i hi2 (by simp [nmByte]; omega)), hs17.tail⟩
      | exact ⟨congrArg Value.bool (by have hil : i = s.size := (by omega); subst hil; rw [List.take_of_length_le (by simp)] at hpre; unfold nmOk; rw [hpre, Bool.eq_iff_iff]; simp [out] <;> omega), hs17.tail.tail⟩
   try simp only [zS] at h40
   refine w_y rfl rfl rfl (zAe (v := .int _ _) rfl rfl) rfl ?_
   refine w_y rfl rfl rfl (zCc rfl rfl rfl rfl) rfl ?_
   refine w_y rfl rfl rfl (zAe (v := .bool _) rfl rfl) rfl ?_
   refine zBi (fun h43 => ?_) (fun h43 => ?_)
   ·
    try simp only [zS] at h43
    refine w_y rfl rfl rfl (zAe (v := .int _ _) rfl rfl) rfl ?_
    refine w_y rfl rfl rfl (zBt rfl rfl rfl rfl) rfl ?_
    refine w_y rfl rfl rfl (zAe (v := .bool _) rfl rfl) rfl ?_
    refine zBi (fun h44 => ?_) (fun h44 => ?_)
    ·
     try simp only [zS] at h44
     refine zAi rfl rfl rfl ?_
     refine zAi rfl rfl rfl ?_
     refine w_y rfl rfl rfl (zA0 (v := _) rfl rfl rfl rfl) rfl ?_
     refine w_y rfl rfl rfl (zA0 (v := .bool _) rfl rfl rfl rfl) rfl ?_
     refine w_y rfl rfl rfl (zBb (v := .bool _) rfl rfl rfl rfl) rfl ?_
     refine w_p (zA0 (v := .bool _) rfl rfl rfl rfl) rfl ?_
     refine zAf (zAd (hK38 _ _ ?_))
     refine zCg rfl rfl ?_
     refine zAg (fun K46 hK45 => ?_)
     refine zAb (w_p (zAc (v := _) rfl rfl) rfl ?_)
     refine zAf (zAd (hK45 _ _ ?_))
     refine zA2 (zA1 (zAm (zA1 (zAm (zA3 (l := [.tmp 2]) (vs := [_]) rfl ⟨⟨rfl, (rfl : _ = Value.bool _)⟩, trivial⟩ ?_)))))
     first
       | exact ⟨congrArg Value.bool (name_bad s i hi2 (by simp [nmByte]; omega)), hs17.tail⟩
       | exact ⟨congrArg Value.bool (by have hil : i = s.size := (by omega); subst hil; rw [List.take_of_length_le (by simp)] at hpre; unfold nmOk; rw [hpre, Bool.eq_iff_iff]; simp [out] <;> omega), hs17.tail.tail⟩
    try simp only [zS] at h44
    refine w_y rfl rfl rfl (zAe (v := .int _ _) rfl rfl) rfl ?_
    refine w_y rfl rfl rfl (y_gtr rfl rfl rfl rfl) rfl ?_
    refine w_y rfl rfl rfl (zBb (v := .bool _) rfl rfl rfl rfl) rfl ?_
    refine w_y rfl rfl rfl (zA0 (v := .bool _) rfl rfl rfl rfl) rfl ?_
    refine w_y rfl rfl rfl (zBb (v := .bool _) rfl rfl rfl rfl) rfl ?_
    refine w_p (zA0 (v := .bool _) rfl rfl rfl rfl) rfl ?_
    refine zAf (zAd (hK38 _ _ ?_))
    refine zAz rfl rfl (fun h47 => ?_) (fun h47 => ?_)
    ·
     try simp only [zS] at h47
     refine zAg (fun K49 hK48 => ?_)
     refine zAb (w_p (zAc (v := _) rfl rfl) rfl ?_)
     refine zAf (zAd (hK48 _ _ ?_))
     refine zA2 (zA1 (zAm (zA1 (zAm (zA3 (l := [.tmp 2]) (vs := [_]) rfl ⟨⟨rfl, (rfl : _ = Value.bool _)⟩, trivial⟩ ?_)))))
     first
       | exact ⟨congrArg Value.bool (name_bad s i hi2 (by simp [nmByte]; omega)), hs17.tail⟩
       | exact ⟨congrArg Value.bool (by have hil : i = s.size := (by omega); subst hil; rw [List.take_of_length_le (by simp)] at hpre; unfold nmOk; rw [hpre, Bool.eq_iff_iff]; simp [out] <;> omega), hs17.tail.tail⟩
    try simp only [zS] at h47
    refine zAx (zAl (zAd (hN10 _ _ (Nx.intro (s.size - (i + (Utf8.decode s i).2)) ((by omega)) (by repeat (first | exact zAv | refine zAu rfl ?_ | refine zAs rfl ?_ _ | refine zAr rfl ?_)) ?_))))
    have hd1 : s[i].toNat < 128 ∧ (Utf8.decode s i).1 = s[i].toNat ∧ (Utf8.decode s i).2 = 1 := (by rcases hd with h | h; exact h; (exfalso; first | omega | (simp only [Bool.or_eq_true, Bool.and_eq_true, decide_eq_true_eq, Bool.not_eq_true', decide_eq_false_iff_not] at *; omega)))
    have hn1 : nmByte (decide (i = 0)) s[i] = true := (by simp [nmByte]; omega)
    refine ⟨i + 1, rfl, by omega, by rw [hd1.2.2], ?_, by rw [← hd1.2.2]; exact hs17⟩
    rw [name_step s i hi2, hpre, hn1]; rfl
   try simp only [zS] at h43
   refine zAi rfl rfl rfl ?_
   refine zAi rfl rfl rfl ?_
   refine zAi rfl rfl rfl ?_
   refine zBc rfl rfl rfl ?_
   refine zBc rfl rfl rfl ?_
   refine zAi rfl rfl rfl ?_
   refine w_y rfl rfl rfl (zBb (v := _) rfl rfl rfl rfl) rfl ?_
   refine w_y rfl rfl rfl (zBb (v := .bool _) rfl rfl rfl rfl) rfl ?_
   refine w_p (zA0 (v := .bool _) rfl rfl rfl rfl) rfl ?_
   refine zAf (zAd (hK38 _ _ ?_))
   refine zB0 rfl rfl ?_
   refine zAx (zAl (zAd (hN10 _ _ (Nx.intro (s.size - (i + (Utf8.decode s i).2)) ((by omega)) (by repeat (first | exact zAv | refine zAu rfl ?_ | refine zAs rfl ?_ _ | refine zAr rfl ?_)) ?_))))
   have hd1 : s[i].toNat < 128 ∧ (Utf8.decode s i).1 = s[i].toNat ∧ (Utf8.decode s i).2 = 1 := (by rcases hd with h | h; exact h; (exfalso; first | omega | (simp only [Bool.or_eq_true, Bool.and_eq_true, decide_eq_true_eq, Bool.not_eq_true', decide_eq_false_iff_not] at *; omega)))
   have hn1 : nmByte (decide (i = 0)) s[i] = true := (by simp [nmByte]; omega)
   refine ⟨i + 1, rfl, by omega, by rw [hd1.2.2], ?_, by rw [← hd1.2.2]; exact hs17⟩
   rw [name_step s i hi2, hpre, hn1]; rfl
  refine w_p (zAq (v := .bool _) rfl rfl rfl) rfl ?_
  refine zAf (zAd (hK13 _ _ ?_))
  refine zAg (fun K51 hK50 => ?_)
  refine zB0 rfl rfl ?_
  refine zBl (zAo (zAo (zA4 (zAd (hK3 _ _ ?_)))))
  refine zAg (fun K53 hK52 => ?_)
  refine zAb (w_p (zAe (v := .string _) rfl rfl) rfl ?_)
  refine w_p (y_lenStr underlying9 rfl rfl) rfl ?_
  refine zBh (ps := [(0, _)]) (pv := [(0, .int _ _)]) (cs := [_]) zAa rfl rfl (fun w => Try_B_fb0 _ w) hs (fun b54 w55 hs56 => ?_)
  refine zAt zAa call62 rfl rfl rfl rfl (c62 _ _ _ [_] _ (by simp) (zBr (i := 0) (rows := [[_]]) rfl (by simp) rfl) hs56) ?_
  rintro _ w58 ⟨rfl, hs59⟩
  refine w_p (zDc rfl rfl) rfl ?_
  refine w_p (zAc (v := .bool _) rfl rfl) rfl ?_
  refine zAf (zAd (hK52 _ _ ?_))
  refine zA2 (zA3 (l := [.tmp 2]) (vs := [_]) rfl ⟨⟨rfl, (rfl : _ = Value.bool _)⟩, trivial⟩ ?_)
  first
    | exact ⟨congrArg Value.bool (name_bad s i hi2 (by simp [nmByte]; omega)), hs59.tail⟩
    | exact ⟨congrArg Value.bool (by have hil : i = s.size := (by omega); subst hil; rw [List.take_of_length_le (by simp)] at hpre; unfold nmOk; rw [hpre, Bool.eq_iff_iff]; simp [out] <;> omega), hs59.tail.tail⟩

end Go.Proofs
/- Plain words of the hand layer: lots, their errors, their ways. No conditions. -/
namespace Go.Rt.Ha
structure Grade where
  name : ByteArray
  hands : Int
  scars : Int
structure Bunch where
  lo : Int
  hi : Int
  slo : Int
  shi : Int
structure Count where
  bits : Int
  hands : Int
structure Lot where
  grades : List Grade
  bunches : List Bunch
  counts : List Count
def Grade.cells (g : Grade) : List Value := [.string g.name, .int .i64 g.hands, .int .i64 g.scars]
def Bunch.cells (b : Bunch) : List Value := [.int .i64 b.lo, .int .i64 b.hi, .int .i64 b.slo, .int .i64 b.shi]
def Count.cells (c : Count) : List Value := [.int .i64 c.bits, .int .i64 c.hands]
/-- Where a lot's lists lie. -/
structure At3 where
  ag : Option Addr
  cg : Nat
  ab : Option Addr
  cb : Nat
  ac : Option Addr
  cc : Nat
def Lot.cells (l : Lot) (p : At3) : List Value := [.slice p.ag l.grades.length p.cg, .slice p.ab l.bunches.length p.cb, .slice p.ac l.counts.length p.cc]
def grows (l : List Grade) : List (List Value) := l.map Grade.cells
def brows (l : List Bunch) : List (List Value) := l.map Bunch.cells
def crows (l : List Count) : List (List Value) := l.map Count.cells
/-- The first thing with an error, and what it is. -/
def firstE {α : Type} (err : List α → α → Int) : List α → Int → List α → Int × Int
  | _, _, [] => (0, 0)
  | b, i, x :: l => if err b x = 0 then firstE err (b ++ [x]) (i + 1) l else (i, err b x)
theorem zDj {α : Type} {err : List α → α → Int} {l : List α} {i : Nat} (hi : i < l.length) (h : err (l.take i) l[i] = 0) : firstE err (l.take i) i (l.drop i) = firstE err (l.take (i + 1)) (i + 1 : Nat) (l.drop (i + 1)) := by
  rw [List.drop_eq_getElem_cons hi]
  simp only [firstE, h, if_true]
  rw [List.take_succ_eq_append_getElem hi]; rfl
theorem zA8 {α : Type} {err : List α → α → Int} {l : List α} {i : Nat} (hi : i < l.length) (h : err (l.take i) l[i] ≠ 0) : firstE err (l.take i) i (l.drop i) = ((i : Int), err (l.take i) l[i]) := by
  rw [List.drop_eq_getElem_cons hi]
  simp only [firstE, if_neg h]
theorem zCe {α : Type} {err : List α → α → Int} {l : List α} {i : Nat} (hi : l.length ≤ i) (b : List α) : firstE err b i (l.drop i) = (0, 0) := by
  rw [List.drop_of_length_le hi]; rfl
/-- The error of a name behind others. -/
def nameE (before : List ByteArray) (s : ByteArray) : Int := if nmOk s then (if has before s then 5 else 0) else 6
/-- Whether a grade is not below the one ahead of it. -/
def notBelow (before : List Grade) (g : Grade) : Bool := match before.getLast? with | none => false | some q => decide (q.hands ≤ g.hands) || decide (g.scars < q.scars)
def gradeE (before : List Grade) (g : Grade) : Int := if nameE (before.map (·.name)) g.name ≠ 0 then nameE (before.map (·.name)) g.name else if out 1 12 g.hands || out 0 9 g.scars then 7 else if notBelow before g then 2 else 0
def bunchE (_before : List Bunch) (b : Bunch) : Int := if out 1 12 b.lo || out 1 12 b.hi || (out 0 9 b.slo || out 0 9 b.shi) then 7 else if out 0 3 (b.hi - b.lo) || decide (b.shi < b.slo) then 2 else 0
def countE (n : Nat) (_before : List Count) (c : Count) : Int := if out 1 (2 ^ n - 1) c.bits then 4 else if out 0 72 c.hands then 7 else 0
def failE {α : Type} (err : List α → α → Int) (lo most : Int) (l : List α) : Int × Int := if out lo most l.length then (0, 3) else firstE err [] 0 l
def check (l : Lot) : Int × Int × Int :=
  if (failE gradeE 1 4 l.grades).2 ≠ 0 then (1, failE gradeE 1 4 l.grades) else if (failE bunchE 0 6 l.bunches).2 ≠ 0 then (2, failE bunchE 0 6 l.bunches) else if (failE (countE l.bunches.length) 0 4 l.counts).2 ≠ 0 then (3, failE (countE l.bunches.length) 0 4 l.counts) else (0, 0, 0)
/-! ### Ways -/
/-- The numbers from one to another. -/
def upto (lo : Int) : Nat → List Int
  | 0 => []
  | n + 1 => lo :: upto (lo + 1) n
def spanL (lo hi : Int) : List Int := upto lo (hi + 1 - lo).toNat
/-- All numbers of hands that bunches can have. -/
def felt : List Bunch → List (List Int)
  | [] => [[]]
  | b :: l => (spanL b.lo b.hi).flatMap fun n => (felt l).map (n :: ·)
theorem felt_snoc (l : List Bunch) (b : Bunch) : felt (l ++ [b]) = (felt l).flatMap fun h => (spanL b.lo b.hi).map fun n => h ++ [n] := by
  induction l with
  | nil => simp [felt, List.flatMap]; induction spanL b.lo b.hi with
    | nil => rfl
    | cons a l ih => simp [ih]
  | cons a l ih => simp only [List.cons_append, felt, ih, List.flatMap_assoc, List.map_flatMap, List.flatMap_map, List.map_map]; rfl
def bit (b j : Nat) : Nat := (b >>> j) &&& 1
/-- How many hands the bunches of a count have. -/
def counted (bits : Nat) : Nat → List Int → Int
  | _, [] => 0
  | i, h :: l => (if bit bits i = 1 then h else 0) + counted bits (i + 1) l
/-- Whether all counts, but some, are so. -/
def soFrom (but : Nat) (h : List Int) : Nat → List Count → Bool
  | _, [] => true
  | i, c :: l => (decide (bit but i = 1) || decide (counted c.bits.toNat 0 h = c.hands)) && soFrom but h (i + 1) l
def ways (l : Lot) (but : Nat) : List (List Int) := (felt l.bunches).filter fun h => soFrom but h 0 l.counts
/-! ### Grades -/
/-- The grade of so many hands and scars; -1: refused. -/
def ofG : List Grade → Int → Int → Int → Int
  | [], _, _, _ => -1
  | g :: l, i, h, s => if g.hands ≤ h ∧ s ≤ g.scars then i else ofG l (i + 1) h s
def orG (gs : List Grade) (h : Int) : List Int → Nat
  | [] => 0
  | s :: l => 1 <<< (ofG gs 0 h s + 1).toNat ||| orG gs h l
def gradesB (l : Lot) (b : Bunch) (h : Int) : Nat := orG l.grades h (spanL b.slo b.shi)
end Go.Rt.Ha
/- Plain words of the hand layer: what the program's functions return. No conditions. -/
namespace Go.Rt.Ha
def idxE (n : Int) (below : Nat) : Int := if out 0 (below - 1) n then 4 else 0
/-- The error of a lot, another one, or that there is no way. -/
def enterE (l : Lot) (e : Int) : Int := if (check l).2.2 ≠ 0 then (check l).2.2 else if e ≠ 0 then e else if ways l 0 = [] then 8 else 0
def at_ (h : List Int) (b : Nat) : Int := h.getD b 0
def joinS (b : Nat) (s : Int × Int) (h : List Int) : Int × Int := (min s.1 (at_ h b), max s.2 (at_ h b))
def spanW (b : Nat) (ws : List (List Int)) : Int × Int := ws.foldl (joinS b) (12, 0)
/-- The grades that a bunch can be of, as bits, refused first. -/
def bunchOf (l : Lot) (b : Nat) : Bunch := l.bunches.getD b ⟨0, 0, 0, 0⟩
def setW (l : Lot) (b : Nat) (ws : List (List Int)) : Nat := ws.foldl (fun s h => s ||| gradesB l (bunchOf l b) (at_ h b)) 0
def handsP (l : Lot) (b : Int) : (Int × Int) × Int := if enterE l (idxE b l.bunches.length) ≠ 0 then ((0, 0), enterE l (idxE b l.bunches.length)) else (spanW b.toNat (ways l 0), 0)
/-- Those below n that are in a set, as a list. -/
def listL (b : Nat) : Nat → List Int
  | 0 => []
  | n + 1 => listL b n ++ if bit b n = 1 then [(n : Int)] else []
def gradeP (l : Lot) (b : Int) : List Int × Int := if enterE l (idxE b l.bunches.length) ≠ 0 then ([], enterE l (idxE b l.bunches.length)) else ((listL (setW l b.toNat (ways l 0)) (l.grades.length + 1)).map (· - 1), 0)
/-- How many hands the bunches of a grade have in a way, at least and at most: the first k bunches. -/
def sumsTo (l : Lot) (g : Nat) (h : List Int) : Nat → Int × Int
  | 0 => (0, 0)
  | k + 1 => let s := sumsTo l g h k; let z := gradesB l (bunchOf l k) (at_ h k)
    if z = 2 <<< g then (s.1 + at_ h k, s.2 + at_ h k) else if bit z (g + 1) = 1 then (s.1, s.2 + at_ h k) else s
def sums (l : Lot) (g : Nat) (h : List Int) : Int × Int := sumsTo l g h l.bunches.length
def totalW (l : Lot) (g : Nat) (ws : List (List Int)) : Int × Int := ws.foldl (fun s h => (min s.1 (sums l g h).1, max s.2 (sums l g h).2)) (72, 0)
def totalP (l : Lot) (g : Int) : (Int × Int) × Int := if enterE l (idxE g l.grades.length) ≠ 0 then ((0, 0), enterE l (idxE g l.grades.length)) else (totalW l g.toNat (ways l 0), 0)
def sureTo (l : Lot) (ws : List (List Int)) : Nat → List Int
  | 0 => []
  | k + 1 => sureTo l ws k ++ if setW l k ws = 1 then [(k : Int)] else []
def mayTo (l : Lot) (ws : List (List Int)) : Nat → List Int
  | 0 => []
  | k + 1 => mayTo l ws k ++ if setW l k ws &&& 1 = 1 then [(k : Int)] else []
def refusedP (l : Lot) : List Int × List Int × Int := if enterE l 0 ≠ 0 then ([], [], enterE l 0) else (sureTo l (ways l 0) l.bunches.length, mayTo l (ways l 0) l.bunches.length, 0)
/-- Fewer, or as many that come before. -/
def before (a b : List Int) : Bool := decide (a.length < b.length) || (decide (a.length = b.length) && less a b)
def fewStep (do_ : Nat → Bool) (n : Nat) (s : List Int × Bool) (b : Nat) : List Int × Bool := if s.2 && before s.1 (listL b n) then s else if do_ b then (listL b n, true) else s
def fewTo (do_ : Nat → Bool) (n : Nat) : Nat → List Int × Bool
  | 0 => ([], false)
  | k + 1 => fewStep do_ n (fewTo do_ n k) k
/-- The first of the fewest that do. -/
def fewest (do_ : Nat → Bool) (n : Nat) : List Int × Bool := fewTo do_ n (1 <<< n)
def fitTo (l : Lot) (g : Nat) (ws : List (List Int)) : Nat → Nat
  | 0 => 0
  | k + 1 => if setW l k ws &&& 1 = 1 ∨ 0 < setW l k ws >>> (g + 2) then fitTo l g ws k else fitTo l g ws k ||| 1 <<< k
def someOf (h : List Int) : List Int → Int
  | [] => 0
  | b :: r => at_ h b.toNat + someOf h r
def bitDiff (a b : Nat) : Nat := a &&& (a ^^^ b)
def pickDo (l : Lot) (g : Nat) (many : Int) (b : Nat) : Bool := decide (bitDiff b (fitTo l g (ways l 0) l.bunches.length) = 0) && (ways l 0).all fun h => decide (many ≤ someOf h (listL b l.bunches.length))
def pickE (l : Lot) (g many : Int) : Int := if idxE g l.grades.length ≠ 0 then idxE g l.grades.length else if out 0 72 many then 7 else 0
def pickP (l : Lot) (g many : Int) : List Int × Int :=
  if enterE l (pickE l g many) ≠ 0 then ([], enterE l (pickE l g many)) else
  if (fewest (pickDo l g.toNat many) l.bunches.length).2 then ((fewest (pickDo l g.toNat many) l.bunches.length).1, 0) else ([], 9)
/-- How often a number is a bunch's. -/
def often (b : Nat) (n : Int) (ws : List (List Int)) : Int := (ws.filter fun h => decide (at_ h b = n)).length
def mostTo (b : Nat) (ws : List (List Int)) : Nat → Int
  | 0 => 0
  | k + 1 => max (mostTo b ws k) (often b k ws)
def leftW (b : Nat) (ws : List (List Int)) : Int := mostTo b ws 13
def nextTo (ws : List (List Int)) : Nat → Int × Int
  | 0 => (-1, 0)
  | k + 1 => let s := nextTo ws k
    if leftW k ws < ws.length ∧ (s.1 < 0 ∨ leftW k ws < s.2) then ((k : Int), leftW k ws) else s
def nextP (l : Lot) : Int × Int × Int := if enterE l 0 ≠ 0 then (0, 0, enterE l 0) else if (nextTo (ways l 0) l.bunches.length).1 < 0 then (0, 0, 9) else ((nextTo (ways l 0) l.bunches.length).1, (nextTo (ways l 0) l.bunches.length).2, 0)
def wrongP (l : Lot) : List Int × Int := if (check l).2.2 ≠ 0 then ([], (check l).2.2) else ((fewest (fun b => !(ways l b).isEmpty) l.counts.length).1, 0)
end Go.Rt.Ha
/- The walking engine, part 10: bits of numbers, numbers within arrays of a struct, maps by structs of numbers. No conditions. -/
namespace Go.Rt
open Go.RowKit
section
variable {r : Option Nat} {P : Program} {ops : Array Oper} {Q : Exit → Act → World → Prop} {rest : List Oper} {n : Nat} {ρ : Nat → Value} {ds : List Deferred} {d : Option Tmp} {ty : TypeId} {p : String} {e : Array Edge} {g : Option (Nat × Bool)} {w w0 : World} {L : List (Nat × Obj)}
/-! ### Bits -/
theorem ofI (a : Nat) (ha : a < 9223372036854775808) : (BitVec.ofInt 64 (a : Int)).toNat = a := by
  rw [BitVec.ofInt_natCast, BitVec.toNat_ofNat]; exact Nat.mod_eq_of_lt (by omega)
theorem y_and {t t2 : TypeId} {u v : Operand} {a b : Int} {x y : Nat} (ho : okO n u = true) (ho1 : okO n v = true) (hx : ev ρ u = .int .i64 a) (hy : ev ρ v = .int .i64 b) (ha : a = (x : Int)) (hb : b = (y : Int)) (h1 : x < 9223372036854775808) (h2 : y < 9223372036854775808) :
    Yd P (A n ρ ds) ⟨d, .binOp .and t u v t2, ty, p, e, g⟩ w (.int .i64 ((x &&& y : Nat) : Int)) := by
  subst ha hb
  refine y_bin ho ho1 hx hy fun w => ?_
  have hle : x &&& y < 2 ^ 63 := Nat.and_lt_two_pow _ (by omega)
  have : Go.bits .and .i64 (x : Int) (y : Int) = ((x &&& y : Nat) : Int) := by
    show IntKind.i64.wrap ((BitVec.ofInt 64 (x : Int) &&& BitVec.ofInt 64 (y : Int)).toNat : Int) = _
    rw [BitVec.toNat_and, ofI x h1, ofI y h2, wrap_in (by omega) (by omega)]
  rw [binOp_and, intBits_and, this]; rfl
theorem y_or {t t2 : TypeId} {u v : Operand} {a b : Int} {x y : Nat} (ho : okO n u = true) (ho1 : okO n v = true) (hx : ev ρ u = .int .i64 a) (hy : ev ρ v = .int .i64 b) (ha : a = (x : Int)) (hb : b = (y : Int)) (h1 : x < 9223372036854775808) (h2 : y < 9223372036854775808) :
    Yd P (A n ρ ds) ⟨d, .binOp .or t u v t2, ty, p, e, g⟩ w (.int .i64 ((x ||| y : Nat) : Int)) := by
  subst ha hb
  refine y_bin ho ho1 hx hy fun w => ?_
  have hle : x ||| y < 2 ^ 63 := Nat.or_lt_two_pow (by omega) (by omega)
  have : Go.bits .or .i64 (x : Int) (y : Int) = ((x ||| y : Nat) : Int) := by
    show IntKind.i64.wrap ((BitVec.ofInt 64 (x : Int) ||| BitVec.ofInt 64 (y : Int)).toNat : Int) = _
    rw [BitVec.toNat_or, ofI x h1, ofI y h2, wrap_in (by omega) (by omega)]
  rw [binOp_or, intBits_or, this]; rfl
/-- What is in x and not in y, of small numbers. -/
def bitDiff (x y : Nat) : Nat := (BitVec.ofNat 64 x &&& ~~~(BitVec.ofNat 64 y)).toNat
theorem bitDiff_le (x y : Nat) (h : x < 9223372036854775808) : bitDiff x y ≤ x := by
  unfold bitDiff
  rw [BitVec.toNat_and, BitVec.toNat_ofNat, Nat.mod_eq_of_lt (by omega)]
  exact Nat.and_le_left
theorem y_andNot {t t2 : TypeId} {u v : Operand} {a b : Int} {x y : Nat} (ho : okO n u = true) (ho1 : okO n v = true) (hx : ev ρ u = .int .i64 a) (hy : ev ρ v = .int .i64 b) (ha : a = (x : Int)) (hb : b = (y : Int)) (h1 : x < 9223372036854775808) :
    Yd P (A n ρ ds) ⟨d, .binOp .andNot t u v t2, ty, p, e, g⟩ w (.int .i64 ((bitDiff x y : Nat) : Int)) := by
  subst ha hb
  refine y_bin ho ho1 hx hy fun w => ?_
  have hle := bitDiff_le x y h1
  have : Go.bits .andNot .i64 (x : Int) (y : Int) = ((bitDiff x y : Nat) : Int) := by
    show IntKind.i64.wrap ((BitVec.ofInt 64 (x : Int) &&& ~~~(BitVec.ofInt 64 (y : Int))).toNat : Int) = _
    rw [BitVec.ofInt_natCast, BitVec.ofInt_natCast]
    exact wrap_in (z := ((bitDiff x y : Nat) : Int)) (by omega) (by omega)
  rw [binOp_andNot, intBits_andNot, this]; rfl
theorem y_shr {t t2 : TypeId} {u v : Operand} {a b : Int} {x y : Nat} (ho : okO n u = true) (ho1 : okO n v = true) (hx : ev ρ u = .int .i64 a) (hy : ev ρ v = .int .i64 b) (ha : a = (x : Int)) (hb : b = (y : Int)) (h2 : y ≤ 60) :
    Yd P (A n ρ ds) ⟨d, .binOp .shr t u v t2, ty, p, e, g⟩ w (.int .i64 ((x >>> y : Nat) : Int)) := by
  subst ha hb
  refine y_bin ho ho1 hx hy fun w => ?_
  rw [binOp_shr]
  unfold Op.shift
  have hb : IntKind.i64.bits = 64 := rfl
  rw [if_neg (by omega)]
  simp only [Int.toNat_natCast, hb, Nat.min_eq_left (show y ≤ 64 by omega), Sem.run_pure]
  congr 2
  rw [Int.fdiv_eq_ediv_of_nonneg _ (by exact_mod_cast Nat.zero_le _), Nat.shiftRight_eq_div_pow]
  norm_cast
theorem y_shl {t t2 : TypeId} {u v : Operand} {a b : Int} {x y : Nat} (ho : okO n u = true) (ho1 : okO n v = true) (hx : ev ρ u = .int .i64 a) (hy : ev ρ v = .int .i64 b) (ha : a = (x : Int)) (hb : b = (y : Int)) (h1 : x ≤ 1000) (h2 : y ≤ 40) :
    Yd P (A n ρ ds) ⟨d, .binOp .shl t u v t2, ty, p, e, g⟩ w (.int .i64 ((x <<< y : Nat) : Int)) := by
  subst ha hb
  refine y_bin ho ho1 hx hy fun w => ?_
  rw [binOp_shl]
  unfold Op.shift
  have hb : IntKind.i64.bits = 64 := rfl
  rw [if_neg (by omega)]
  simp only [Int.toNat_natCast, hb, Nat.min_eq_left (show y ≤ 64 by omega), Sem.run_pure]
  have h3 : x * 2 ^ y ≤ 1000 * 2 ^ 40 := Nat.mul_le_mul h1 (Nat.pow_le_pow_right (by omega) h2)
  have h4 : (x : Int) * 2 ^ y = ((x * 2 ^ y : Nat) : Int) := by push_cast; rfl
  rw [h4, wrap_in (by omega) (by omega), Nat.shiftLeft_eq]
/-! ### Numbers within -/
theorem y_indexV {t el len : TypeId} {x y : Operand} {a : Value} {l : List Int} {z : Int} {i : Nat} (hU : P.underlying t = some (.array len el)) (hel : P.underlying el = some (.int .i64)) (hsz : ∀ w, (sizeOf el).run P w = .ok 1 w) (ho : okO n x = true) (ho1 : okO n y = true)
    (hx : ev ρ x = a) (ha : a = ia l) (hy : ev ρ y = .int .i64 z) (hz : z = (i : Int)) (hi : i < len) (hl : i < l.length) : Yd P (A n ρ ds) ⟨d, .index t x y, ty, p, e, g⟩ w (.int .i64 (l.getD i 0)) := by
  subst hz ha
  have e1 : (iv l).toArray[i * 1]? = some (.int .i64 (l.getD i 0)) := by simp [hl]
  have hp := zCy (P := P) (w := w) hel e1
  have : (Instr.index t (ia l) (.int .i64 (i : Int))).run P w = .ok (.int .i64 (l.getD i 0)) w := by
    unfold Instr.index ia
    simp only [asIntOf, Sem.run_bind, Sem.run_pure, Result.andThen_ok, run_underlying hU]
    rw [if_pos ⟨by omega, by omega⟩]
    simp only [Sem.run_bind, hsz, Result.andThen_ok, Int.toNat_natCast, hp]
  simp only [Yd, execOp, zBw ho, zBw ho1, hx, hy, Sem.run_bind, this]
  rfl
/-! ### Structs of numbers and arrays of numbers -/
theorem run_part_flat {t : TypeId} {k o : Nat} (ha : ∀ w, (isAgg t).run P w = .ok true w) (hs : ∀ w, (sizeOf t).run P w = .ok k w) {l : List Int} : (part t (iv l).toArray o).run P w = .ok (ia ((l.drop o).take k)) w := by
  unfold part
  simp only [Sem.run_bind, ha, Result.andThen_ok, if_true, hs, Sem.run_pure]
  congr 2
  simp [iv, List.map_drop, List.map_take, List.extract_eq_take_drop]
/-- A field that is a number, or an array of numbers. -/
def FF (P : Program) (f : Field) (k : Nat) : Prop := f.name ≠ "_" ∧ ((P.underlying f.type = some (.int .i64) ∧ k = 1) ∨ (flatInts P f.type k = true ∧ (∀ w, (isAgg f.type).run P w = .ok true w) ∧ ∀ w, (sizeOf f.type).run P w = .ok k w))
theorem eqFields_flat (dd : Nat) (l m : List Int) : ∀ (fs : List (Field × Nat)), (∀ q ∈ fs, FF P q.1 q.2 ∧ q.1.offset + q.2 ≤ l.length ∧ q.1.offset + q.2 ≤ m.length) →
    (Op.eqFields (dd + 2) (iv l).toArray (iv m).toArray (fs.map Prod.fst)).run P w = .ok (fs.all fun q => decide ((l.drop q.1.offset).take q.2 = (m.drop q.1.offset).take q.2)) w
  | [], _ => by simp [Op.eqFields]
  | q :: fs, hh => by
    obtain ⟨⟨hn, hff⟩, h1, h2⟩ := hh q (.head _)
    have ih := eqFields_flat dd l m fs fun j hj => hh j (.tail _ hj)
    have key : ∃ u v : Value, (part q.1.type (iv l).toArray q.1.offset).run P w = .ok u w ∧ (part q.1.type (iv m).toArray q.1.offset).run P w = .ok v w ∧ (Op.equalIn (dd + 2) q.1.type u v).run P w = .ok (decide ((l.drop q.1.offset).take q.2 = (m.drop q.1.offset).take q.2)) w := by
      rcases hff with ⟨hu, hk⟩ | ⟨hf, ha, hs⟩
      · have e1 : (iv l).toArray[q.1.offset]? = some (.int .i64 (l.getD q.1.offset 0)) := by simp [show q.1.offset < l.length by omega]
        have e2 : (iv m).toArray[q.1.offset]? = some (.int .i64 (m.getD q.1.offset 0)) := by simp [show q.1.offset < m.length by omega]
        refine ⟨_, _, zCy hu e1, zCy hu e2, ?_⟩
        rw [run_equalIn_int w (dd + 1) q.1.type .i64 .i64 _ _ hu, hk]
        congr 1
        rw [List.drop_eq_getElem_cons (show q.1.offset < l.length by omega), List.drop_eq_getElem_cons (show q.1.offset < m.length by omega)]
        simp only [List.take_succ_cons, List.take_zero, List.cons.injEq, and_true]
        have g1 : l.getD q.1.offset 0 = l[q.1.offset]'(by omega) := by simp [List.getD, show q.1.offset < l.length by omega]
        have g2 : m.getD q.1.offset 0 = m[q.1.offset]'(by omega) := by simp [List.getD, show q.1.offset < m.length by omega]
        rw [g1, g2]
        rfl
      · refine ⟨_, _, run_part_flat ha hs, run_part_flat ha hs, ?_⟩
        have hl1 : ((l.drop q.1.offset).take q.2).length = q.2 := by simp; omega
        have hl2 : ((m.drop q.1.offset).take q.2).length = q.2 := by simp; omega
        exact run_equal_flat dd (by rw [hl1]; exact hf) (by rw [hl1, hl2])
    obtain ⟨u, v, k1, k2, k3⟩ := key
    simp only [List.map_cons, Op.eqFields, hn, ne_eq, not_false_eq_true, if_true, Sem.run_bind, k1, k2, k3, Result.andThen_ok]
    simp only [List.all_cons]
    by_cases hv : (l.drop q.1.offset).take q.2 = (m.drop q.1.offset).take q.2
    · rw [decide_eq_true hv]
      simp only [Bool.not_true, Bool.false_eq_true, if_false, Bool.true_and]
      exact ih
    · rw [decide_eq_false hv]
      simp only [Bool.not_false, if_true, Sem.run_pure, Bool.false_and]
/-- What a key's type has to be like: n numbers. -/
structure KeyTy (P : Program) (t : TypeId) (n : Nat) : Prop where
  chk : ∀ (em : Bool) (l : List Int) (w : World), l.length = n → (Instr.checkKey em 10000 t (ia l)).run P w = .ok () w
  eq : ∀ (l m : List Int) (w : World), l.length = n → m.length = n → (Op.equal t (ia l) (ia m)).run P w = .ok (decide (l = m)) w
  desc : ∃ u, P.underlying t = some u ∧ (∀ (l : List Int) (e : MapEntry) (es : List MapEntry), Instr.findNow u (ia l) (e :: es) 0 = none) ∧ ∀ (l : List Int) (w : World), (Instr.findKey t (ia l) []).run P w = .ok none w
theorem keyTy_struct {t : TypeId} {fs : Array Field} {k : Nat} (fq : List (Field × Nat)) (hu : P.underlying t = some (.struct fs)) (hp : P.stoodInHeld t = false) (hfs : fs.toList = fq.map Prod.fst) (hff : ∀ q ∈ fq, FF P q.1 q.2 ∧ q.1.offset + q.2 ≤ k)
    (hck : ∀ q ∈ fq, P.underlying q.1.type = some (.int .i64) ∨ ∃ el, P.underlying q.1.type = some (.array q.2 el) ∧ P.underlying el = some (.int .i64) ∧ ∀ w, (sizeOf el).run P w = .ok 1 w)
    (hcov : ∀ l m : List Int, l.length = k → m.length = k → (fq.all fun q => decide ((l.drop q.1.offset).take q.2 = (m.drop q.1.offset).take q.2)) = decide (l = m)) : KeyTy P t k := by
  refine ⟨fun em l w hl => ?_, fun l m w hl hm => ?_, ⟨_, hu, fun l e es => ?_, fun l w => ?_⟩⟩
  · have one : ∀ q ∈ fq, ∀ w, q.1.name ≠ "_" ∧ ∃ v, (part q.1.type (iv l).toArray q.1.offset).run P w = .ok v w ∧ (Instr.checkKey em 9999 q.1.type v).run P w = .ok () w := by
      intro q hq w
      obtain ⟨⟨hn, hf⟩, ho⟩ := hff q hq
      refine ⟨hn, ?_⟩
      rcases hf with ⟨hi, hk1⟩ | ⟨hf, ha, hs⟩
      · have e1 : (iv l).toArray[q.1.offset]? = some (.int .i64 (l.getD q.1.offset 0)) := by simp [show q.1.offset < l.length by omega]
        refine ⟨_, zCy hi e1, ?_⟩
        unfold Instr.checkKey
        simp [Sem.run_bind, run_underlying hi, Result.andThen]
      · refine ⟨_, run_part_flat ha hs, ?_⟩
        rcases hck q hq with hi | ⟨el, h1, h2, h3⟩
        · exfalso
          unfold flatInts at hf
          rw [hi] at hf
          cases hf
        · exact run_checkKey (dd := 9997) h1 (by simp; omega) h2 h3
    rw [show (10000 : Nat) = 9999 + 1 from rfl, Instr.checkKey]
    unfold ia
    simp only [Sem.run_bind, run_underlying hu, Result.andThen_ok]
    rw [← Array.forIn_toList, hfs]
    have : ∀ (q : List (Field × Nat)), (∀ x ∈ q, x ∈ fq) → ∀ w, (forIn (q.map Prod.fst) PUnit.unit fun f _ => (do
        if f.name ≠ "_" then Instr.checkKey em 9999 f.type (← part f.type (iv l).toArray f.offset)
        pure (ForInStep.yield PUnit.unit) : Sem (ForInStep PUnit)) : Sem PUnit).run P w = .ok PUnit.unit w := by
      intro q
      induction q with
      | nil => intro _ w; simp
      | cons x q ih =>
        intro hx w
        obtain ⟨hn, v, h1, h2⟩ := one x (hx x (.head _)) w
        simp only [List.map_cons, List.forIn_cons, Sem.run_bind, hn, ne_eq, not_false_eq_true, if_true, h1, h2, Result.andThen_ok, Sem.run_pure]
        exact ih (fun y hy => hx y (.tail _ hy)) w
    have h := this fq (fun _ h => h) w
    exact congrArg (fun r => Result.andThen r fun a w' => Sem.run P (pure ()) w') h
  · have hfo : P.fieldsOf t = fs := by simp [Program.fieldsOf, hu]
    show (Op.equalIn ((9997 + 2) + 1) t (.agg (iv l).toArray) (.agg (iv m).toArray)).run P w = _
    rw [run_equalIn_struct w (9997 + 2) t _ _ (by rw [hfo]; exact hu) hp, hfo, hfs, eqFields_flat 9997 l m fq (fun q hq => ⟨(hff q hq).1, by have := (hff q hq).2; omega, by have := (hff q hq).2; omega⟩), hcov l m hl hm]
  · simp [Instr.findNow, Instr.sameNow]
  · simp [Instr.findKey, Sem.run_bind, run_underlying hu, Result.andThen, Instr.findNow]
theorem K_findAsking {t : TypeId} {l : List Int} {k : Nat} (hK : KeyTy P t k) (hl : l.length = k) : ∀ (es : List MapEntry) (i : Nat), (∀ e ∈ es, ∃ m, m.length = k ∧ e.key = ia m) →
    ((∀ w, (Instr.findAsking t (ia l) es i).run P w = .ok none w) ∧ ∀ e ∈ es, e.key ≠ ia l) ∨ ∃ j e, (∀ w, (Instr.findAsking t (ia l) es i).run P w = .ok (some (j, e.val)) w) ∧ e ∈ es ∧ e.key = ia l
  | [], i, _ => .inl ⟨fun w => by simp [Instr.findAsking], by simp⟩
  | e :: es, i, hall => by
    obtain ⟨m, hm, hk⟩ := hall e (.head _)
    have h2 : ∀ w, (Op.equal t (ia l) e.key).run P w = .ok (decide (l = m)) w := fun w => by rw [hk]; exact hK.eq l m w hl hm
    by_cases hlm : l = m
    · rw [decide_eq_true hlm] at h2
      exact .inr ⟨i, e, fun w => by simp [Instr.findAsking, Sem.run_bind, h2, Result.andThen], .head _, by rw [hk, hlm]⟩
    · have h3 : ∀ w, (Instr.findAsking t (ia l) (e :: es) i).run P w = (Instr.findAsking t (ia l) es (i + 1)).run P w := by
        intro w
        simp [Instr.findAsking, Sem.run_bind, h2, hlm, Result.andThen]
      rcases K_findAsking hK hl es (i + 1) (fun e he => hall e (.tail _ he)) with ⟨h4, h5⟩ | ⟨j, e', h4, h5, h6⟩
      · exact .inl ⟨fun w => (h3 w).trans (h4 w), fun e' he' => by
          cases he' with
          | head => rw [hk]; exact fun h => hlm (ia_inj h).symm
          | tail _ he' => exact h5 e' he'⟩
      · exact .inr ⟨j, e', fun w => (h3 w).trans (h4 w), .tail _ h5, h6⟩
theorem K_findKey {t : TypeId} {l : List Int} {k : Nat} (hK : KeyTy P t k) (hl : l.length = k) (es : List MapEntry) (hall : ∀ e ∈ es, ∃ m, m.length = k ∧ e.key = ia m) :
    ((∀ w, (Instr.findKey t (ia l) es).run P w = .ok none w) ∧ ∀ e ∈ es, e.key ≠ ia l) ∨ ∃ j e, (∀ w, (Instr.findKey t (ia l) es).run P w = .ok (some (j, e.val)) w) ∧ e ∈ es ∧ e.key = ia l := by
  obtain ⟨u, hu, hn, h0⟩ := hK.desc
  cases es with
  | nil => exact .inl ⟨h0 l, by simp⟩
  | cons e es =>
    have h : ∀ w, (Instr.findKey t (ia l) (e :: es)).run P w = (Instr.findAsking t (ia l) (e :: es) 0).run P w := fun w => by
      simp [Instr.findKey, Sem.run_bind, run_underlying hu, Result.andThen, hn l e es]
    rcases K_findAsking hK hl (e :: es) 0 hall with ⟨h1, h2⟩ | ⟨j, e', h1, h2, h3⟩
    · exact .inl ⟨fun w => (h w).trans (h1 w), h2⟩
    · exact .inr ⟨j, e', fun w => (h w).trans (h1 w), h2, h3⟩
theorem K_mapAdd {mt kt el : TypeId} {x y z : Operand} {l : List Int} {a v : Value} {m i k : Nat} {es : Array MapEntry} {ck : Nat} (hw : Want ops (A n ρ ds) ⟨none, .mapUpdate mt x y z, ty, p, e, g⟩) (hU : P.underlying mt = some (.map kt el)) (hK : KeyTy P kt k) (hkl : l.length = k)
    (ho : okO n x = true) (ho1 : okO n y = true) (ho2 : okO n z = true) (hx : ev ρ x = .map (some m)) (hy : ev ρ y = a) (ha : a = ia l) (hz : ev ρ z = v) (hst : St w0 w L) (hi : L[i]? = some (m, .map es ck))
    (hf : ∀ w, (Instr.findKey kt (ia l) es.toList).run P w = .ok none w) (hk2 : ∀ w', St w0 w' (L.set i (m, .map (es.push { key := ia l, val := v, born := ck }) (ck + 1))) → WL r P ops Q rest (A n ρ ds) w') :
    WL r P ops Q (⟨none, .mapUpdate mt x y z, ty, p, e, g⟩ :: rest) (A n ρ ds) w := by
  refine w_unit hw (w' := w.putObj m (.map (es.push { key := ia l, val := v, born := ck }) (ck + 1))) ?_ rfl (hk2 _ (hst.putObj hi _))
  have hc := hK.chk false l w hkl
  have hs : (setObj m (.map (es.push { key := ia l, val := v, born := ck }) (ck + 1))).run P w = .ok () (w.putObj m (.map (es.push { key := ia l, val := v, born := ck }) (ck + 1))) := by
    simp [setObj, Sem.run, hst.get hi, World.putObj]
  have : (Instr.mapUpdate mt (.map (some m)) (ia l) v).run P w = .ok () (w.putObj m (.map (es.push { key := ia l, val := v, born := ck }) (ck + 1))) := by
    simp only [Instr.mapUpdate, Sem.run_bind, run_underlying hU, Result.andThen_ok, hst.obj hi, Sem.run_pure, hc, hf, hs]
  simp only [execOp, zBw ho, zBw ho1, zBw ho2, hx, hy, ha, hz, Sem.run_bind, this]
  rfl
end
end Go.Rt
/- The walking engine, part 11: one number copied into a list at a place. No conditions. -/
namespace Go.Rt
open Go.RowKit
variable {r : Option Nat} {P : Program} {ops : Array Oper} {Q : Exit → Act → World → Prop} {rest : List Oper} {n : Nat} {ρ : Nat → Value} {ds : List Deferred} {ty : TypeId} {p : String} {e : Array Edge} {g : Option (Nat × Bool)} {w w0 : World} {L : List (Nat × Obj)}
theorem zB8 {x y k : Nat} (h : x < k) : x >>> y < k := Nat.lt_of_le_of_lt (Nat.shiftRight_le _ _) h
end Go.Rt
set_option maxRecDepth 20000
namespace Go.Proofs.Hn
open Go.Proofs.Tryz
open Go.Rt Go.Rt.Ha
attribute [local irreducible] WL WC Con Yd At Ats Sl Agree DW
theorem Try_HC_fb0 (x0 : Int) (w : World) : (Instr.buildSlice 43 1 [(0, .int .i64 x0)].toArray).run Tryz.prog w = .ok (.slice (some ⟨w.heap.size, 0, none⟩) 1 1) (w.alloc (Go.Rt.blk 3 [.int .i64 x0])) := by kernel_rfl
theorem Try_HC_fb1 (x0 : Int) (x1 : Go.Fn) (a1 c1 : Array Value) (w : World) : (Instr.build 161 [(0, .int .i64 x0), (1, .func x1 a1 c1)].toArray).run Tryz.prog w = .ok (.agg #[.int .i64 x0, .func x1 a1 c1]) w := by kernel_rfl
theorem Try_HC_fb2 (x0 : Int) (x1 : Go.Fn) (a1 c1 : Array Value) (x2 : Int) (x3 : Go.Fn) (a3 c3 : Array Value) (x4 : Int) (x5 : Go.Fn) (a5 c5 : Array Value) (x6 : Int) (x7 : Go.Fn) (a7 c7 : Array Value) (w : World) : (Instr.buildSlice 157 4 [(0, .agg #[.int .i64 x0, .func x1 a1 c1]), (1, .agg #[.int .i64 x2, .func x3 a3 c3]), (2, .agg #[.int .i64 x4, .func x5 a5 c5]), (3, .agg #[.int .i64 x6, .func x7 a7 c7])].toArray).run Tryz.prog w = .ok (.slice (some ⟨w.heap.size, 0, none⟩) 4 4) (w.alloc (Go.Rt.blk 161 [.int .i64 x0, .func x1 a1 c1, .int .i64 x2, .func x3 a3 c3, .int .i64 x4, .func x5 a5 c5, .int .i64 x6, .func x7 a7 c7])) := by kernel_rfl
theorem sl_grows {w0 : World} {F : List (Nat × Obj)} {a : Option Addr} {l : List Grade} {i : Nat} (h : Sl w0 F a 3 (grows l)) (hi : i < l.length) : ∃ b off, a = some ⟨b, off, none⟩ ∧ Ats w0 F b (off + i * 3) l[i].cells := by
  obtain ⟨b, off, ha, _, hat⟩ := h.at (i := i) (row := l[i].cells) (by simp [grows, hi])
  exact ⟨b, off, ha, hat⟩
theorem sl_brows {w0 : World} {F : List (Nat × Obj)} {a : Option Addr} {l : List Bunch} {i : Nat} (h : Sl w0 F a 4 (brows l)) (hi : i < l.length) : ∃ b off, a = some ⟨b, off, none⟩ ∧ Ats w0 F b (off + i * 4) l[i].cells := by
  obtain ⟨b, off, ha, _, hat⟩ := h.at (i := i) (row := l[i].cells) (by simp [brows, hi])
  exact ⟨b, off, ha, hat⟩
theorem sl_crows {w0 : World} {F : List (Nat × Obj)} {a : Option Addr} {l : List Count} {i : Nat} (h : Sl w0 F a 2 (crows l)) (hi : i < l.length) : ∃ b off, a = some ⟨b, off, none⟩ ∧ Ats w0 F b (off + i * 2) l[i].cells := by
  obtain ⟨b, off, ha, _, hat⟩ := h.at (i := i) (row := l[i].cells) (by simp [crows, hi])
  exact ⟨b, off, ha, hat⟩
/-- Where the first one with a property is. -/
def fidx (p : Grade → Bool) : List Grade → Int → Int
  | [], _ => -1
  | g :: l, i => if p g then i else fidx p l (i + 1)
theorem fidx_step {p : Grade → Bool} {l : List Grade} {i : Nat} (hi : i < l.length) (h : p l[i] = false) : fidx p (l.drop i) i = fidx p (l.drop (i + 1)) (i + 1 : Nat) := by
  rw [List.drop_eq_getElem_cons hi]; simp only [fidx, h]; rfl
theorem fidx_here {p : Grade → Bool} {l : List Grade} {i : Nat} (hi : i < l.length) (h : p l[i] = true) : fidx p (l.drop i) i = i := by
  rw [List.drop_eq_getElem_cons hi]; simp only [fidx, h]; rfl
theorem fidx_end {p : Grade → Bool} {l : List Grade} {i : Nat} (hi : l.length ≤ i) : fidx p (l.drop i) i = -1 := by
  rw [List.drop_of_length_le hi]; rfl
theorem fidx_any (p : Grade → Bool) : ∀ (l : List Grade) (i : Int), 0 ≤ i → decide (0 ≤ fidx p l i) = l.any p
  | [], i, h => by simp [fidx]
  | g :: l, i, h => by
    rw [List.any_cons, ← fidx_any p l (i + 1) (by omega), Bool.eq_iff_iff]
    by_cases hp : p g = true
    · simp [fidx, hp, h]
    · simp [fidx, hp]
theorem fidx_of (h s : Int) : ∀ (l : List Grade) (i : Int), fidx (fun g => decide (g.hands ≤ h ∧ s ≤ g.scars)) l i = ofG l i h s
  | [], i => rfl
  | g :: l, i => by simp only [fidx, ofG, decide_eq_true_eq]; rw [fidx_of h s l (i + 1)]
def flawIs (bf : List Grade) (g : Grade) : Nat → Bool
  | 0 => !nmOk g.name
  | 1 => has (bf.map (·.name)) g.name
  | 2 => out 1 12 g.hands || out 0 9 g.scars
  | _ => notBelow bf g
def flawE : Nat → Int
  | 0 => 6
  | 1 => 5
  | 2 => 7
  | _ => 2
theorem gradeE_eq (bf : List Grade) (g : Grade) : gradeE bf g = if flawIs bf g 0 then 6 else if flawIs bf g 1 then 5 else if flawIs bf g 2 then 7 else if flawIs bf g 3 then 2 else 0 := by
  unfold gradeE nameE flawIs
  cases nmOk g.name <;> cases has (bf.map (·.name)) g.name <;> simp
theorem gradeE_flaw {bf : List Grade} {g : Grade} {j : Nat} (hj : j < 4) (h : flawIs bf g j = true) (hb : ∀ q < j, flawIs bf g q = false) : gradeE bf g = flawE j := by
  rw [gradeE_eq]
  match j, hj with
  | 0, _ => rw [h]; rfl
  | 1, _ => rw [hb 0 (by omega), h]; rfl
  | 2, _ => rw [hb 0 (by omega), hb 1 (by omega), h]; rfl
  | 3, _ => rw [hb 0 (by omega), hb 1 (by omega), hb 2 (by omega), h]; rfl
theorem gradeE_fine {bf : List Grade} {g : Grade} (hb : ∀ q < 4, flawIs bf g q = false) : gradeE bf g = 0 := by
  rw [gradeE_eq, hb 0 (by omega), hb 1 (by omega), hb 2 (by omega), hb 3 (by omega)]; rfl
theorem zDb {l : List Grade} {i : Nat} (hi : 0 < i) (h : i ≤ l.length) (g : Grade) : notBelow (l.take i) g = (decide ((l[i - 1]'(by omega)).hands ≤ g.hands) || decide (g.scars < (l[i - 1]'(by omega)).scars)) := by
  unfold notBelow
  rw [List.getLast?_eq_getElem?, List.length_take, Nat.min_eq_left h, List.getElem?_take, if_pos (by omega), List.getElem?_eq_getElem (by omega)]
theorem c83 {w0 w : World} {F : List (Nat × Obj)} (a : Option Addr) (l : List Grade) (c : Nat) (hla : l.length ≤ 9223372036854775807) (ha : Sl w0 F a 3 (grows l)) {fk : FuncId} (hC : CF Tryz.prog fk) (first captured : Array Value) (p : Grade → Bool)
    (hp : ∀ x ∈ l, ∀ w, St w0 w F → Con Tryz.prog fk (first.toList ++ ([.agg x.cells.toArray] ++ captured.toList)) w fun v w' => v = .bool (p x) ∧ St w0 w' F) (hs : St w0 w F) :
  Con Tryz.prog 83 [.slice a l.length c, .func (.func fk) first captured] w fun v w' => v = .int .i64 (fidx p l 0) ∧ St w0 w' F := by
  refine zAw (n := 19) func83 rfl rfl (Nat.le_of_ble_eq_true rfl) ?_
  refine zAg (fun K2 hK1 => ?_)
  refine zAb (w_p (zAc (v := _) rfl rfl) rfl ?_)
  refine zAf (zAd (hK1 _ _ ?_))
  refine zAg (fun K4 hK3 => ?_)
  refine zAg (fun K6 hK5 => ?_)
  refine zAb (w_p (zAe (v := .slice _ _ _) rfl rfl) rfl ?_)
  refine w_p (zBd underlying22 rfl rfl) rfl ?_
  refine w_p (zAe (v := _) rfl rfl) rfl ?_
  refine zAf (zAd (hK5 _ _ ?_))
  refine zAy ?_
  refine zBp [4, 5, 8, 9, 10, 11, 12, 13, 14, 15, 16, 17, 18] [8] (fun k vs w => ∃ i : Nat, vs = [.int .i64 i] ∧ i ≤ l.length ∧ k = l.length - i ∧ fidx p l 0 = fidx p (l.drop i) i ∧ St w0 w F) (l.length) ?_ ?_
  ·
   exact ⟨0, rfl, by omega, by omega, rfl, hs⟩
  intro k vs μ w9 hI K8 hN7
  obtain ⟨i, rfl, hia, rfl, hpre, hs⟩ := hI
  refine zAg (fun K11 hK10 => ?_)
  refine zAb (w_p (zBt rfl rfl rfl rfl) rfl ?_)
  refine zAf (zAd (hK10 _ _ ?_))
  refine zAg (fun K13 hK12 => ?_)
  refine zAz rfl rfl (fun h14 => ?_) (fun h14 => ?_)
  ·
   try simp only [zS] at h14
   refine zAx (zAd (hK12 _ _ ?_))
   refine zAg (fun K16 hK15 => ?_)
   refine zAy ?_
   refine zAg (fun K18 hK17 => ?_)
   refine zAb (w_p (zAe (v := .int _ _) rfl rfl) rfl ?_)
   refine w_p (zAc (v := .int _ _) rfl rfl) rfl ?_
   refine zAf (zAd (hK17 _ _ ?_))
   refine zAg (fun K20 hK19 => ?_)
   have hi2 : i < l.length := by omega
   obtain ⟨bx, ox, rfl, hx⟩ := sl_grows ha hi2
   refine zAb (w_p (zAe (v := .func _ _ _) rfl rfl) rfl ?_)
   refine w_p (zAe (v := .slice _ _ _) rfl rfl) rfl ?_
   refine w_p (zAe (v := .int _ _) rfl rfl) rfl ?_
   refine w_p (zA7 underlying22 sizeOf57 rfl rfl rfl rfl (i := _) rfl (by omega)) rfl ?_
   refine w_p (zA6 (vs := [_, _, _]) isAgg57 sizeOf57 hs rfl rfl hx) rfl ?_
   refine zAt zAa hC rfl rfl rfl rfl (hp _ (List.getElem_mem hi2) _ hs) ?_
   rintro _ w22 ⟨rfl, hs23⟩
   refine zAf (zAd (hK19 _ _ ?_))
   refine zAz rfl rfl (fun h24 => ?_) (fun h24 => ?_)
   ·
    try simp only [zS] at h24
    refine zAg (fun K26 hK25 => ?_)
    refine zAb (w_p (zAe (v := .int _ _) rfl rfl) rfl ?_)
    refine w_p (zAc (v := .int _ _) rfl rfl) rfl ?_
    refine zAf (zAd (hK25 _ _ ?_))
    refine zA2 (zA1 (zAm (zAm (zA1 (zAm (zA3 (l := [.tmp 4]) (vs := [_]) rfl ⟨⟨rfl, (rfl : _ = Value.int _ _)⟩, trivial⟩ ?_))))))
    first
      | exact ⟨congrArg (Value.int .i64) (hpre.trans (fidx_end (by omega))).symm, hs23⟩
      | exact ⟨congrArg (Value.int .i64) (hpre.trans (fidx_here hi2 (by assumption))).symm, hs23⟩
   try simp only [zS] at h24
   refine zAx (zAl (zAd (hK15 _ _ ?_)))
   refine zAb (w_p (zBf rfl rfl rfl rfl (by omega) (by omega)) rfl ?_)
   refine w_p (zAe (v := .int _ _) rfl rfl) rfl ?_
   refine zAf (zAd (hN7 _ _ (Nx.intro (l.length - (i + 1)) (by omega) (by repeat (first | exact zAv | refine zAu rfl ?_ | refine zAs rfl ?_ _ | refine zAr rfl ?_)) ?_)))
   exact ⟨i + 1, rfl, by omega, rfl, hpre.trans (fidx_step hi2 (by assumption)), hs23⟩
  try simp only [zS] at h14
  refine zBl (zAo (zAo (zA4 (zAd (hK3 _ _ ?_)))))
  refine zAg (fun K28 hK27 => ?_)
  refine zAb (w_p (zAc (v := _) rfl rfl) rfl ?_)
  refine zAf (zAd (hK27 _ _ ?_))
  refine zA2 (zA3 (l := [.tmp 4]) (vs := [_]) rfl ⟨⟨rfl, (rfl : _ = Value.int _ _)⟩, trivial⟩ ?_)
  first
    | exact ⟨congrArg (Value.int .i64) (hpre.trans (fidx_end (by omega))).symm, hs⟩
    | exact ⟨congrArg (Value.int .i64) (hpre.trans (fidx_here hi2 (by assumption))).symm, hs⟩

theorem c112 {w0 w : World} {F : List (Nat × Obj)} (a : Option Addr) (l : List Grade) (c : Nat) (hla : l.length ≤ 9223372036854775807) (ha : Sl w0 F a 3 (grows l)) {fk : FuncId} (hC : CF Tryz.prog fk) (first captured : Array Value) (p : Grade → Bool)
    (hp : ∀ x ∈ l, ∀ w, St w0 w F → Con Tryz.prog fk (first.toList ++ ([.agg x.cells.toArray] ++ captured.toList)) w fun v w' => v = .bool (p x) ∧ St w0 w' F) (hs : St w0 w F) :
  Con Tryz.prog 112 [.slice a l.length c, .func (.func fk) first captured] w fun v w' => v = .bool (l.any p) ∧ St w0 w' F := by
  refine zAw (n := 9) func112 rfl rfl (Nat.le_of_ble_eq_true rfl) ?_
  refine zAg (fun K2 hK1 => ?_)
  refine zAb (w_p (zAc (v := _) rfl rfl) rfl ?_)
  refine zAf (zAd (hK1 _ _ ?_))
  refine zAg (fun K4 hK3 => ?_)
  refine zAb (w_p (zAe (v := .slice _ _ _) rfl rfl) rfl ?_)
  refine w_p (zAe (v := .func _ _ _) rfl rfl) rfl ?_
  refine zAt zAa call83 rfl rfl rfl rfl (c83 _ _ _ hla ha hC _ _ p hp hs) ?_
  rintro _ w6 ⟨rfl, hs7⟩
  refine w_p (y_geq rfl rfl rfl rfl) rfl ?_
  refine w_p (zAc (v := .bool _) rfl rfl) rfl ?_
  refine zAf (zAd (hK3 _ _ ?_))
  refine zA2 (zA3 (l := [.tmp 4]) (vs := [_]) rfl ⟨⟨rfl, (rfl : _ = Value.bool _)⟩, trivial⟩ ?_)
  exact ⟨congrArg Value.bool (fidx_any p l 0 (by omega)), hs7⟩

theorem c110 {w0 w : World} {F : List (Nat × Obj)} (a : Option Addr) (c : Nat) (l : List Grade) (hl : l.length ≤ 9223372036854775807) (hc : l.length ≤ c) (ha : Sl w0 F a 3 (grows l)) (i : Nat) (hi : i < l.length) (hnm : l[i].name.size ≤ 9223372036854775807) (hs : St w0 w F) :
  Con Tryz.prog 110 [.slice a l.length c, .int .i64 (i : Int)] w fun v w' => v = .bool (flawIs (l.take i) l[i] 0) ∧ St w0 w' F := by
  refine zAw (n := 12) func110 rfl rfl (Nat.le_of_ble_eq_true rfl) ?_
  obtain ⟨bx, ox, rfl, hx⟩ := sl_grows ha hi
  refine zAg (fun K2 hK1 => ?_)
  refine zAb (w_p (zAc (v := _) rfl rfl) rfl ?_)
  refine zAf (zAd (hK1 _ _ ?_))
  refine zAg (fun K4 hK3 => ?_)
  refine zAb (w_p (zAe (v := .slice _ _ _) rfl rfl) rfl ?_)
  refine w_p (zAe (v := .int _ _) rfl rfl) rfl ?_
  refine w_p (zA7 underlying22 sizeOf57 rfl rfl rfl rfl (i := _) rfl (by omega)) rfl ?_
  refine w_p (zAh (o := 0) (i := 0) underlying57 rfl sizeOf9 rfl rfl rfl) rfl ?_
  refine w_p (zAk isAgg9 hs rfl rfl (show Ats _ _ _ _ [_] from Ats.part hx 0 1)) rfl ?_
  refine zAt zAa call32 rfl rfl rfl rfl (c32 _ (by omega) hs) ?_
  rintro _ w6 ⟨rfl, hs7⟩
  refine w_p (zDc rfl rfl) rfl ?_
  refine w_p (zAc (v := .bool _) rfl rfl) rfl ?_
  refine zAf (zAd (hK3 _ _ ?_))
  refine zA2 (zA3 (l := [.tmp 4]) (vs := [_]) rfl ⟨⟨rfl, (rfl : _ = Value.bool _)⟩, trivial⟩ ?_)
  exact ⟨rfl, hs7⟩

theorem c113 {w0 w : World} {F : List (Nat × Obj)} (f : Grade) (b1 b2 : Nat) (a : Option Addr) (c : Nat) (l : List Grade) (i : Nat) (hi : i < l.length) (h1 : Ats w0 F b1 0 [.slice a l.length c]) (h2 : Ats w0 F b2 0 [.int .i64 (i : Int)]) (ha : Sl w0 F a 3 (grows l)) (hs : St w0 w F) :
  Con Tryz.prog 113 [.agg f.cells.toArray, .pointer (some ⟨b1, 0, none⟩), .pointer (some ⟨b2, 0, none⟩)] w fun v w' => v = .bool (decide (f.name = l[i].name)) ∧ St w0 w' F := by
  refine zAw (n := 13) func113 rfl rfl (Nat.le_of_ble_eq_true rfl) ?_
  obtain ⟨bx, ox, rfl, hx⟩ := sl_grows ha hi
  refine zAg (fun K2 hK1 => ?_)
  refine zAb (zB3 (v := .agg #[.string _, .int _ _, .int _ _]) (cs := [_, _, _]) zAa rfl rfl rfl hs (fun b3 w4 hs5 => ?_))
  refine w_p (zAc (v := _) rfl rfl) rfl ?_
  refine zAf (zAd (hK1 _ _ ?_))
  refine zAg (fun K7 hK6 => ?_)
  refine zB7 [] [(0, 0), (1, 1), (2, 1), (3, 1), (4, 0), (5, 0), (6, 1), (7, 0), (8, 0)] zBu (by kernel_rfl) hs5 (fun w8 hs9 => ?_)
  refine zAp rfl zAa rfl (fun _ => (zAh (o := 0) (i := 0) underlying57 rfl sizeOf9 rfl rfl rfl)) ?_
  refine zBa rfl zAa rfl hs9 (fun _ hq => (zAk isAgg9 hq rfl rfl (zAj (i := 0) (vs := [_]) rfl rfl))) ?_
  refine zBa rfl zAa rfl hs9 (fun _ hq => (zAk isAgg22 hq.tail rfl rfl h1)) ?_
  refine zBa rfl zAa rfl hs9 (fun _ hq => (zAk isAgg3 hq.tail rfl rfl h2)) ?_
  refine zAp rfl zAa rfl (fun _ => (zA7 underlying22 sizeOf57 rfl rfl rfl rfl (i := _) rfl (by omega))) ?_
  refine zAp rfl zAa rfl (fun _ => (zAh (o := 0) (i := 0) underlying57 rfl sizeOf9 rfl rfl rfl)) ?_
  refine zBa rfl zAa rfl hs9 (fun _ hq => (zAk isAgg9 hq.tail rfl rfl (show Ats _ _ _ _ [_] from Ats.part hx 0 1))) ?_
  refine zAp rfl zAa rfl (fun _ => (y_strEq rfl rfl rfl rfl)) ?_
  refine zAp rfl zAa rfl (fun _ => (zAc (v := .bool _) rfl rfl)) ?_
  refine zB1 ?_
  refine zAd (hK6 _ _ ?_)
  refine zA2 (zA3 (l := [.tmp 4]) (vs := [_]) rfl ⟨⟨rfl, (rfl : _ = Value.bool _)⟩, trivial⟩ ?_)
  exact ⟨rfl, hs9.tail⟩

theorem sl_takeG {w0 : World} {F : List (Nat × Obj)} {a : Option Addr} {l : List Grade} {i c : Nat} (h : Sl w0 F a 3 (grows l)) (hi : i ≤ l.length) (hc : l.length ≤ c) : Sl w0 F (if c = 0 then a else a.map (·.add (0 * 3))) 3 (grows (l.take i)) := by
  have := h.cut (l' := 0) (h' := i) (c := c) (by omega) (by simpa [grows] using hi) (by simpa [grows] using hc)
  simpa [grows, List.map_take] using this
theorem has_names (l : List Grade) (s : ByteArray) : (l.any fun x => decide (x.name = s)) = has (l.map (·.name)) s := by
  simp [has, List.any_map, Function.comp_def]
theorem c111 {w0 w : World} {F : List (Nat × Obj)} (a : Option Addr) (c : Nat) (l : List Grade) (hl : l.length ≤ 9223372036854775807) (hc : l.length ≤ c) (ha : Sl w0 F a 3 (grows l)) (i : Nat) (hi : i < l.length) (hs : St w0 w F) :
  Con Tryz.prog 111 [.slice a l.length c, .int .i64 (i : Int)] w fun v w' => v = .bool (flawIs (l.take i) l[i] 1) ∧ St w0 w' F := by
  refine zAw (n := 10) func111 rfl rfl (Nat.le_of_ble_eq_true rfl) ?_
  refine zAg (fun K2 hK1 => ?_)
  refine zAb (zB3 (v := .slice _ _ _) (cs := [_]) zAa rfl rfl rfl hs (fun b3 w4 hs5 => ?_))
  refine zB3 (v := .int _ _) (cs := [_]) zAa rfl rfl rfl hs5 (fun b6 w7 hs8 => ?_)
  refine w_p (zAc (v := _) rfl rfl) rfl ?_
  refine zAf (zAd (hK1 _ _ ?_))
  refine zAg (fun K10 hK9 => ?_)
  refine zAb (w_p (zAk isAgg22 hs8 rfl rfl (zAj (i := 1) (vs := [_]) rfl rfl)) rfl ?_)
  refine w_p (zAk isAgg3 hs8 rfl rfl (zAj (i := 0) (vs := [_]) rfl rfl)) rfl ?_
  refine w_p (y_sliceS (l' := 0) (h' := i) underlying22 sizeOf57 rfl rfl rfl ⟨rfl, _, _, rfl, rfl⟩ (by omega) (by omega)) rfl ?_
  refine w_p (zB9 (fv := []) (cv := [_, _]) rfl rfl rfl rfl) rfl ?_
  refine zAt zAa call112 rfl rfl rfl rfl ((show Con Tryz.prog 112 [.slice (if c = 0 then a else a.map (·.add (0 * 3))) (i - 0) (c - 0), _] _ _ from by rw [Nat.sub_zero, show (i = (l.take i).length) from by rw [List.length_take]; omega]; exact c112 _ (l.take i) _ (by rw [List.length_take]; omega) (sl_takeG ha.cons.cons (by omega) hc) call113 _ _ (fun x => decide (x.name = l[i].name)) (fun x _ w hs => c113 _ _ _ _ _ _ _ hi (zAj (i := 1) (vs := [_]) rfl rfl) (zAj (i := 0) (vs := [_]) rfl rfl) ha.cons.cons hs) hs8)) ?_
  rintro _ w12 ⟨rfl, hs13⟩
  refine w_p (zAc (v := .bool _) rfl rfl) rfl ?_
  refine zAf (zAd (hK9 _ _ ?_))
  refine zA2 (zA3 (l := [.tmp 4]) (vs := [_]) rfl ⟨⟨rfl, (rfl : _ = Value.bool _)⟩, trivial⟩ ?_)
  exact ⟨congrArg Value.bool (has_names _ _), hs13.tail.tail⟩

theorem c114 {w0 w : World} {F : List (Nat × Obj)} (a : Option Addr) (c : Nat) (l : List Grade) (hl : l.length ≤ 9223372036854775807) (hc : l.length ≤ c) (ha : Sl w0 F a 3 (grows l)) (i : Nat) (hi : i < l.length) (hs : St w0 w F) :
  Con Tryz.prog 114 [.slice a l.length c, .int .i64 (i : Int)] w fun v w' => v = .bool (flawIs (l.take i) l[i] 2) ∧ St w0 w' F := by
  refine zAw (n := 21) func114 rfl rfl (Nat.le_of_ble_eq_true rfl) ?_
  obtain ⟨bx, ox, rfl, hx⟩ := sl_grows ha hi
  refine zAg (fun K2 hK1 => ?_)
  refine zAb (w_p (zAc (v := _) rfl rfl) rfl ?_)
  refine zAf (zAd (hK1 _ _ ?_))
  refine zAg (fun K4 hK3 => ?_)
  refine zAb (w_p (zAe (v := .slice _ _ _) rfl rfl) rfl ?_)
  refine w_p (zAe (v := .int _ _) rfl rfl) rfl ?_
  refine w_p (zA7 underlying22 sizeOf57 rfl rfl rfl rfl (i := _) rfl (by omega)) rfl ?_
  refine w_p (zAh (o := 1) (i := 1) underlying57 rfl sizeOf3 rfl rfl rfl) rfl ?_
  refine w_p (zAk isAgg3 hs rfl rfl (show Ats _ _ _ _ [_] from Ats.part hx 1 1)) rfl ?_
  refine zBh (ps := [(0, _)]) (pv := [(0, .int _ _)]) (cs := [_]) zAa rfl rfl (fun w => Try_HC_fb0 _ w) hs (fun b5 w6 hs7 => ?_)
  refine zAt zAa call62 rfl rfl rfl rfl (c62 _ _ _ [_] _ (by simp) (zBr (i := 0) (rows := [[_]]) rfl (by simp) rfl) hs7) ?_
  rintro _ w9 ⟨rfl, hs10⟩
  refine w_p (zAe (v := .bool _) rfl rfl) rfl ?_
  refine zBi (fun h11 => ?_) (fun h11 => ?_)
  ·
   try simp only [zS] at h11
   refine zAi rfl rfl rfl ?_
   refine zAi rfl rfl rfl ?_
   refine zAi rfl rfl rfl ?_
   refine zAi rfl rfl rfl ?_
   refine zAi rfl rfl rfl ?_
   refine zAi rfl rfl rfl ?_
   refine zAi rfl rfl rfl ?_
   refine w_p (zA0 (v := _) rfl rfl rfl rfl) rfl ?_
   refine w_p (zAc (v := .bool _) rfl rfl) rfl ?_
   refine zAf (zAd (hK3 _ _ ?_))
   refine zA2 (zA3 (l := [.tmp 4]) (vs := [_]) rfl ⟨⟨rfl, (rfl : _ = Value.bool _)⟩, trivial⟩ ?_)
   try simp only [List.any_cons, List.any_nil, Bool.or_false, Bool.or_eq_false_iff] at h11
   exact ⟨congrArg Value.bool (by simp [flawIs, h11]), hs10.tail⟩
  try simp only [zS] at h11
  refine w_y rfl rfl rfl (zAe (v := .slice _ _ _) rfl rfl) rfl ?_
  refine w_y rfl rfl rfl (zAe (v := .int _ _) rfl rfl) rfl ?_
  refine w_y rfl rfl rfl (zA7 underlying22 sizeOf57 rfl rfl rfl rfl (i := _) rfl (by omega)) rfl ?_
  refine w_y rfl rfl rfl (zAh (o := 2) (i := 2) underlying57 rfl sizeOf3 rfl rfl rfl) rfl ?_
  refine w_y rfl rfl rfl (zAk isAgg3 hs10.tail rfl rfl (show Ats _ _ _ _ [_] from Ats.part hx 2 1)) rfl ?_
  refine zBh (ps := [(0, _)]) (pv := [(0, .int _ _)]) (cs := [_]) (zAn rfl rfl rfl) rfl rfl (fun w => Try_HC_fb0 _ w) hs10 (fun b12 w13 hs14 => ?_)
  refine zAt (zAn rfl rfl rfl) call62 rfl rfl rfl rfl (c62 _ _ _ [_] _ (by simp) (zBr (i := 0) (rows := [[_]]) rfl (by simp) rfl) hs14) ?_
  rintro _ w16 ⟨rfl, hs17⟩
  refine w_p (zBb (v := .bool _) rfl rfl rfl rfl) rfl ?_
  refine w_p (zAc (v := .bool _) rfl rfl) rfl ?_
  refine zAf (zAd (hK3 _ _ ?_))
  refine zA2 (zA3 (l := [.tmp 4]) (vs := [_]) rfl ⟨⟨rfl, (rfl : _ = Value.bool _)⟩, trivial⟩ ?_)
  try simp only [List.any_cons, List.any_nil, Bool.or_false, Bool.or_eq_false_iff] at h11
  exact ⟨congrArg Value.bool (by simp [flawIs, h11]), hs17.tail.tail⟩

theorem c115 {w0 w : World} {F : List (Nat × Obj)} (a : Option Addr) (c : Nat) (l : List Grade) (hl : l.length ≤ 9223372036854775807) (hc : l.length ≤ c) (ha : Sl w0 F a 3 (grows l)) (i : Nat) (hi : i < l.length) (hs : St w0 w F) :
  Con Tryz.prog 115 [.slice a l.length c, .int .i64 (i : Int)] w fun v w' => v = .bool (flawIs (l.take i) l[i] 3) ∧ St w0 w' F := by
  refine zAw (n := 35) func115 rfl rfl (Nat.le_of_ble_eq_true rfl) ?_
  obtain ⟨bx, ox, rfl, hx⟩ := sl_grows ha hi
  refine zAg (fun K2 hK1 => ?_)
  refine zAb (w_p (zAc (v := _) rfl rfl) rfl ?_)
  refine zAf (zAd (hK1 _ _ ?_))
  refine zAg (fun K4 hK3 => ?_)
  refine zB7 [] [(0, 0), (1, 0), (2, 0), (3, 0), (4, 0), (5, 0), (6, 0), (7, 1), (8, 0), (9, 0), (10, 0), (11, 0), (12, 0), (13, 1), (14, 0), (15, 0), (16, 0), (17, 0), (18, 0), (19, 0), (20, 1), (21, 0), (22, 0), (23, 0), (24, 0), (25, 0), (26, 1), (27, 0), (28, 0), (29, 0), (30, 0)] zBu (by kernel_rfl) hs (fun w5 hs6 => ?_)
  refine zAp rfl zAa rfl (fun _ => (zAe (v := .int _ _) rfl rfl)) ?_
  refine zAp rfl zAa rfl (fun _ => (y_gtr rfl rfl rfl rfl)) ?_
  refine zAp rfl zAa rfl (fun _ => (zAe (v := .bool _) rfl rfl)) ?_
  refine zDk (fun h7 => ?_) (fun h7 => ?_)
  ·
   try simp only [zS] at h7
   have h0 : 0 < i := by omega
   obtain ⟨by_, oy, hby, hy⟩ := sl_grows ha (show i - 1 < l.length by omega)
   cases hby
   refine zAp rfl (zAn rfl rfl rfl) rfl (fun _ => (zAe (v := .slice _ _ _) rfl rfl)) ?_
   refine zAp rfl (zAn rfl rfl rfl) rfl (fun _ => (zAe (v := .int _ _) rfl rfl)) ?_
   refine zAp rfl (zAn rfl rfl rfl) rfl (fun _ => (zA7 underlying22 sizeOf57 rfl rfl rfl rfl (i := _) rfl (by omega))) ?_
   refine zAp rfl (zAn rfl rfl rfl) rfl (fun _ => (zAh (o := 1) (i := 1) underlying57 rfl sizeOf3 rfl rfl rfl)) ?_
   refine zBa rfl (zAn rfl rfl rfl) rfl hs6 (fun _ hq => (zAk isAgg3 hq rfl rfl (show Ats _ _ _ _ [_] from Ats.part hx 1 1))) ?_
   refine zAp rfl (zAn rfl rfl rfl) rfl (fun _ => (zAe (v := .slice _ _ _) rfl rfl)) ?_
   refine zAp rfl (zAn rfl rfl rfl) rfl (fun _ => (zAe (v := .int _ _) rfl rfl)) ?_
   refine zAp rfl (zAn rfl rfl rfl) rfl (fun _ => (y_sub rfl rfl rfl rfl (by omega) (by omega))) ?_
   refine zAp rfl (zAn rfl rfl rfl) rfl (fun _ => (zA7 underlying22 sizeOf57 rfl rfl rfl rfl (i := i - 1) (by omega) (by omega))) ?_
   refine zAp rfl (zAn rfl rfl rfl) rfl (fun _ => (zAh (o := 1) (i := 1) underlying57 rfl sizeOf3 rfl rfl rfl)) ?_
   refine zBa rfl (zAn rfl rfl rfl) rfl hs6 (fun _ hq => (zAk isAgg3 hq rfl rfl (show Ats _ _ _ _ [_] from Ats.part hy 1 1))) ?_
   refine zAp rfl (zAn rfl rfl rfl) rfl (fun _ => (y_geq rfl rfl rfl rfl)) ?_
   refine zAp rfl (zAn rfl rfl rfl) rfl (fun _ => (zAe (v := .bool _) rfl rfl)) ?_
   refine zDk (fun h8 => ?_) (fun h8 => ?_)
   ·
    try simp only [zS] at h8
    refine zBg rfl rfl rfl rfl ?_
    refine zBg rfl rfl rfl rfl ?_
    refine zBg rfl rfl rfl rfl ?_
    refine zBg rfl rfl rfl rfl ?_
    refine zCj rfl rfl rfl rfl hs6 ?_
    refine zBg rfl rfl rfl rfl ?_
    refine zBg rfl rfl rfl rfl ?_
    refine zBg rfl rfl rfl rfl ?_
    refine zBg rfl rfl rfl rfl ?_
    refine zBg rfl rfl rfl rfl ?_
    refine zCj rfl rfl rfl rfl hs6 ?_
    refine zBg rfl rfl rfl rfl ?_
    refine zAp rfl (zAn rfl rfl rfl) rfl (fun _ => (zA0 (v := _) rfl rfl rfl rfl)) ?_
    refine zAp rfl zAa rfl (fun _ => (zA0 (v := .bool _) rfl rfl rfl rfl)) ?_
    refine zAp rfl zAa rfl (fun _ => (zAc (v := .bool _) rfl rfl)) ?_
    refine zB1 ?_
    refine zAd (hK3 _ _ ?_)
    refine zA2 (zA3 (l := [.tmp 4]) (vs := [_]) rfl ⟨⟨rfl, (rfl : _ = Value.bool _)⟩, trivial⟩ ?_)
    first
      | (have hi0 : i = 0 := by omega
         subst hi0
         exact ⟨congrArg Value.bool (show false = notBelow (l.take 0) l[0] from rfl), hs6⟩)
      | exact ⟨congrArg Value.bool (by show _ = notBelow _ _; rw [zDb h0 (by omega), Bool.eq_iff_iff]; simp [h7, h8] <;> omega), hs6⟩
   try simp only [zS] at h8
   refine zAp rfl (zAn rfl rfl rfl) rfl (fun _ => (zAe (v := .slice _ _ _) rfl rfl)) ?_
   refine zAp rfl (zAn rfl rfl rfl) rfl (fun _ => (zAe (v := .int _ _) rfl rfl)) ?_
   refine zAp rfl (zAn rfl rfl rfl) rfl (fun _ => (zA7 underlying22 sizeOf57 rfl rfl rfl rfl (i := _) rfl (by omega))) ?_
   refine zAp rfl (zAn rfl rfl rfl) rfl (fun _ => (zAh (o := 2) (i := 2) underlying57 rfl sizeOf3 rfl rfl rfl)) ?_
   refine zBa rfl (zAn rfl rfl rfl) rfl hs6 (fun _ hq => (zAk isAgg3 hq rfl rfl (show Ats _ _ _ _ [_] from Ats.part hx 2 1))) ?_
   refine zAp rfl (zAn rfl rfl rfl) rfl (fun _ => (zAe (v := .slice _ _ _) rfl rfl)) ?_
   refine zAp rfl (zAn rfl rfl rfl) rfl (fun _ => (zAe (v := .int _ _) rfl rfl)) ?_
   refine zAp rfl (zAn rfl rfl rfl) rfl (fun _ => (y_sub rfl rfl rfl rfl (by omega) (by omega))) ?_
   refine zAp rfl (zAn rfl rfl rfl) rfl (fun _ => (zA7 underlying22 sizeOf57 rfl rfl rfl rfl (i := i - 1) (by omega) (by omega))) ?_
   refine zAp rfl (zAn rfl rfl rfl) rfl (fun _ => (zAh (o := 2) (i := 2) underlying57 rfl sizeOf3 rfl rfl rfl)) ?_
   refine zBa rfl (zAn rfl rfl rfl) rfl hs6 (fun _ hq => (zAk isAgg3 hq rfl rfl (show Ats _ _ _ _ [_] from Ats.part hy 2 1))) ?_
   refine zAp rfl (zAn rfl rfl rfl) rfl (fun _ => (zBt rfl rfl rfl rfl)) ?_
   refine zAp rfl (zAn rfl rfl rfl) rfl (fun _ => (zBb (v := .bool _) rfl rfl rfl rfl)) ?_
   refine zAp rfl zAa rfl (fun _ => (zA0 (v := .bool _) rfl rfl rfl rfl)) ?_
   refine zAp rfl zAa rfl (fun _ => (zAc (v := .bool _) rfl rfl)) ?_
   refine zB1 ?_
   refine zAd (hK3 _ _ ?_)
   refine zA2 (zA3 (l := [.tmp 4]) (vs := [_]) rfl ⟨⟨rfl, (rfl : _ = Value.bool _)⟩, trivial⟩ ?_)
   first
     | (have hi0 : i = 0 := by omega
        subst hi0
        exact ⟨congrArg Value.bool (show false = notBelow (l.take 0) l[0] from rfl), hs6⟩)
     | exact ⟨congrArg Value.bool (by show _ = notBelow _ _; rw [zDb h0 (by omega), Bool.eq_iff_iff]; simp [h7, h8] <;> omega), hs6⟩
  try simp only [zS] at h7
  refine zBg rfl rfl rfl rfl ?_
  refine zBg rfl rfl rfl rfl ?_
  refine zBg rfl rfl rfl rfl ?_
  refine zBg rfl rfl rfl rfl ?_
  refine zCj rfl rfl rfl rfl hs6 ?_
  refine zBg rfl rfl rfl rfl ?_
  refine zBg rfl rfl rfl rfl ?_
  refine zBg rfl rfl rfl rfl ?_
  refine zBg rfl rfl rfl rfl ?_
  refine zBg rfl rfl rfl rfl ?_
  refine zCj rfl rfl rfl rfl hs6 ?_
  refine zBg rfl rfl rfl rfl ?_
  refine zBg rfl rfl rfl rfl ?_
  refine zCk rfl rfl rfl rfl ?_
  refine zCk rfl rfl rfl rfl ?_
  refine zCk rfl rfl rfl rfl ?_
  refine zCk rfl rfl rfl rfl ?_
  refine d_skip1' rfl rfl rfl rfl hs6 ?_
  refine zCk rfl rfl rfl rfl ?_
  refine zCk rfl rfl rfl rfl ?_
  refine zCk rfl rfl rfl rfl ?_
  refine zCk rfl rfl rfl rfl ?_
  refine zCk rfl rfl rfl rfl ?_
  refine d_skip1' rfl rfl rfl rfl hs6 ?_
  refine zCk rfl rfl rfl rfl ?_
  refine zBg rfl rfl rfl rfl ?_
  refine zAp rfl zAa rfl (fun _ => (zBb (v := _) rfl rfl rfl rfl)) ?_
  refine zAp rfl zAa rfl (fun _ => (zAc (v := .bool _) rfl rfl)) ?_
  refine zB1 ?_
  refine zAd (hK3 _ _ ?_)
  refine zA2 (zA3 (l := [.tmp 4]) (vs := [_]) rfl ⟨⟨rfl, (rfl : _ = Value.bool _)⟩, trivial⟩ ?_)
  first
    | (have hi0 : i = 0 := by omega
       subst hi0
       exact ⟨congrArg Value.bool (show false = notBelow (l.take 0) l[0] from rfl), hs6⟩)
    | exact ⟨congrArg Value.bool (by show _ = notBelow _ _; rw [zDb h0 (by omega), Bool.eq_iff_iff]; simp [h7] <;> omega), hs6⟩

def flawK : Nat → Nat
  | 0 => 110
  | 1 => 111
  | 2 => 114
  | _ => 115
def flawCells : List Value := [.int .i64 6, .func (.func 110) #[] #[], .int .i64 5, .func (.func 111) #[] #[], .int .i64 7, .func (.func 114) #[] #[], .int .i64 2, .func (.func 115) #[] #[]]
theorem flaw_at {w0 : World} {L : List (Nat × Obj)} {b i j : Nat} (hi : L[i]? = some (b, blk 161 flawCells)) (hj : j < 4) : Ats w0 L b (0 + j * 2) [.int .i64 (flawE j), .func (.func (flawK j)) #[] #[]] := by
  match j, hj with
  | 0, _ => exact zAj hi rfl
  | 1, _ => exact zAj hi rfl
  | 2, _ => exact zAj hi rfl
  | 3, _ => exact zAj hi rfl
theorem flaw_con {w0 w : World} {F : List (Nat × Obj)} (a : Option Addr) (c : Nat) (l : List Grade) (hl : l.length ≤ 9223372036854775807) (hc : l.length ≤ c) (ha : Sl w0 F a 3 (grows l)) (i : Nat) (hi : i < l.length) (hnm : l[i].name.size ≤ 9223372036854775807) (j : Nat) (hj : j < 4) (hs : St w0 w F) :
    FCon Tryz.prog (.func (.func (flawK j)) #[] #[]) [.slice a l.length c, .int .i64 (i : Int)] w fun v w' => v = .bool (flawIs (l.take i) l[i] j) ∧ St w0 w' F := by
  match j, hj with
  | 0, _ => exact zC4 call110 (c110 a c l hl hc ha i hi hnm hs)
  | 1, _ => exact zC4 call111 (c111 a c l hl hc ha i hi hs)
  | 2, _ => exact zC4 call114 (c114 a c l hl hc ha i hi hs)
  | 3, _ => exact zC4 call115 (c115 a c l hl hc ha i hi hs)
theorem c93 {w0 w : World} {F : List (Nat × Obj)}  (hs : St w0 w F) :
  Con Tryz.prog 93 [] w fun v w' => ∃ b, v = .slice (some ⟨b, 0, none⟩) 4 4 ∧ St w0 w' ((b, blk 161 flawCells) :: F) := by
  refine zAw (n := 6) func93 rfl rfl (Nat.le_of_ble_eq_true rfl) ?_
  refine zAg (fun K2 hK1 => ?_)
  refine zAb (w_p (zAc (v := _) rfl rfl) rfl ?_)
  refine zAf (zAd (hK1 _ _ ?_))
  refine zAg (fun K4 hK3 => ?_)
  refine zAb (w_p (zBs (ps := [(0, _), (1, _)]) (pv := [(0, .int _ _), (1, .func _ _ _)]) rfl rfl (fun w => Try_HC_fb1 _ _ _ _ w)) rfl ?_)
  refine w_p (zBs (ps := [(0, _), (1, _)]) (pv := [(0, .int _ _), (1, .func _ _ _)]) rfl rfl (fun w => Try_HC_fb1 _ _ _ _ w)) rfl ?_
  refine w_p (zBs (ps := [(0, _), (1, _)]) (pv := [(0, .int _ _), (1, .func _ _ _)]) rfl rfl (fun w => Try_HC_fb1 _ _ _ _ w)) rfl ?_
  refine w_p (zBs (ps := [(0, _), (1, _)]) (pv := [(0, .int _ _), (1, .func _ _ _)]) rfl rfl (fun w => Try_HC_fb1 _ _ _ _ w)) rfl ?_
  refine zBh (ps := [(0, _), (1, _), (2, _), (3, _)]) (pv := [(0, .agg #[.int _ _, .func _ _ _]), (1, .agg #[.int _ _, .func _ _ _]), (2, .agg #[.int _ _, .func _ _ _]), (3, .agg #[.int _ _, .func _ _ _])]) (cs := [_, _, _, _, _, _, _, _]) zAa rfl rfl (fun w => Try_HC_fb2 _ _ _ _ _ _ _ _ _ _ _ _ _ _ _ _ w) hs (fun b5 w6 hs7 => ?_)
  refine w_p (zAc (v := .slice _ _ _) rfl rfl) rfl ?_
  refine zAf (zAd (hK3 _ _ ?_))
  refine zA2 (zA3 (l := [.tmp 0]) (vs := [_]) rfl ⟨⟨rfl, show _ = (.slice _ _ _ : Value) from rfl⟩, trivial⟩ ?_)
  exact ⟨_, rfl, hs7⟩

end Go.Proofs.Hn
