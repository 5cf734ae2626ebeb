/- Own texts of this claim, joined. No conditions. -/
import Derived.Test.YtpbchcophgpchaaGreatHTopGradeda
import Derived.Test.YtpbchcophgpchaaGreatHTopGradedb
set_option linter.unusedVariables false
set_option linter.unusedSimpArgs false
set_option maxRecDepth 20000
namespace Go.Proofs.Hn
open Go.Proofs.Tryz
open Go.Rt Go.Rt.Ha
attribute [local irreducible] WL WC Con Yd At Ats Sl Agree DW
theorem Try_HD_fb0 (x0 : Int) (x1 : Int) (w : World) : (Instr.buildSlice 43 2 [(0, .int .i64 x0), (1, .int .i64 x1)].toArray).run Tryz.prog w = .ok (.slice (some ⟨w.heap.size, 0, none⟩) 2 2) (w.alloc (Go.Rt.blk 3 [.int .i64 x0, .int .i64 x1])) := by kernel_rfl
theorem Try_HD_fb1 (x0 : Int) (w : World) : (Instr.buildSlice 43 1 [(0, .int .i64 x0)].toArray).run Tryz.prog w = .ok (.slice (some ⟨w.heap.size, 0, none⟩) 1 1) (w.alloc (Go.Rt.blk 3 [.int .i64 x0])) := by kernel_rfl
theorem c91 {w0 w : World} {F : List (Nat × Obj)} (a : Option Addr) (c : Nat) (l : List Grade) (hl : l.length ≤ 9223372036854775807) (ha : Sl w0 F a 3 (grows l)) (fv : Value) (err : List Grade → Grade → Int)
    (hp : ∀ (i : Nat) (hi : i < l.length) (X : List (Nat × Obj)) (w : World), St w0 w (X ++ F) → FCon Tryz.prog fv [.int .i64 i, .agg l[i].cells.toArray] w fun v w' => v = .int .i64 (err (l.take i) l[i]) ∧ St w0 w' (X ++ F)) (hs : St w0 w F) :
  Con Tryz.prog 91 [.slice a l.length c, fv] w fun v w' => v = .tuple #[.int .i64 (firstE err [] 0 l).1, .int .i64 (firstE err [] 0 l).2] ∧ St w0 w' F := by
  refine zAw (n := 25) func91 rfl rfl (Nat.le_of_ble_eq_true rfl) ?_
  refine zAg (fun K2 hK1 => ?_)
  refine zAb (w_p (zAc (v := _) rfl rfl) rfl ?_)
  refine w_p (zAc (v := _) rfl rfl) rfl ?_
  refine zAf (zAd (hK1 _ _ ?_))
  refine zAg (fun K4 hK3 => ?_)
  refine zAg (fun K6 hK5 => ?_)
  refine zAb (w_p (zAe (v := .slice _ _ _) rfl rfl) rfl ?_)
  refine w_p (zBd underlying22 rfl rfl) rfl ?_
  refine w_p (zAe (v := _) rfl rfl) rfl ?_
  refine zAf (zAd (hK5 _ _ ?_))
  refine zAy ?_
  refine zBp [4, 5, 6, 7, 8, 11, 12, 13, 14, 15, 16, 17, 18, 19, 20, 21, 22, 23, 24] [11] (fun k vs w => ∃ (i : Nat), vs = [.int .i64 i] ∧ i ≤ l.length ∧ k = l.length - i ∧ firstE err [] 0 l = firstE err (l.take i) i (l.drop i) ∧ St w0 w F) (l.length) ?_ ?_
  ·
   exact ⟨0, rfl, by omega, by omega, by simp, hs⟩
  intro k vs μ w9 hI K8 hN7
  obtain ⟨i, rfl, hia, rfl, hinv, hs⟩ := hI
  refine zAg (fun K11 hK10 => ?_)
  refine zAb (w_p (zBt rfl rfl rfl rfl) rfl ?_)
  refine zAf (zAd (hK10 _ _ ?_))
  refine zAg (fun K13 hK12 => ?_)
  refine zAz rfl rfl (fun h14 => ?_) (fun h14 => ?_)
  ·
   try simp only [zS] at h14
   refine zAx (zAd (hK12 _ _ ?_))
   refine zAg (fun K16 hK15 => ?_)
   refine zAy ?_
   refine zAg (fun K18 hK17 => ?_)
   have hi2 : i < l.length := by omega
   obtain ⟨bx, ox, rfl, hx⟩ := sl_grows ha hi2
   refine zAb (w_p (zAe (v := .int _ _) rfl rfl) rfl ?_)
   refine w_p (zA7 underlying22 sizeOf57 rfl rfl rfl rfl (i := _) rfl (by omega)) rfl ?_
   refine w_p (zA6 (vs := [_, _, _]) isAgg57 sizeOf57 hs rfl rfl hx) rfl ?_
   refine zA9 (cs := [_, _, _]) zAa zeroValue57 rfl hs (fun b19 w20 hs21 => ?_)
   refine w_p (zAc (v := .int _ _) rfl rfl) rfl ?_
   refine zA5 (i := 0) (v := .agg #[.string _, .int _ _, .int _ _]) (vs := [_, _, _]) zAa sizeOf57 rfl rfl rfl rfl rfl (by simp [Value.oneCell']) hs21 rfl (Nat.le_of_ble_eq_true rfl) (fun w22 hs23 => ?_)
   refine zAf (zAd (hK17 _ _ ?_))
   refine zAg (fun K25 hK24 => ?_)
   refine zAb (w_p (zAe (v := fv) rfl rfl) rfl ?_)
   refine w_p (zAe (v := .int _ _) rfl rfl) rfl ?_
   refine w_p (zA6 (vs := [_, _, _]) isAgg57 sizeOf57 hs23 rfl rfl (zAj (i := 0) (vs := [_, _, _]) rfl rfl)) rfl ?_
   refine w_callV zAa rfl rfl rfl rfl (hp i hi2 [_] _ hs23) ?_
   rintro _ w27 ⟨rfl, hs28⟩
   refine w_p (zAc (v := .int _ _) rfl rfl) rfl ?_
   refine zAf (zAd (hK24 _ _ ?_))
   refine zAg (fun K30 hK29 => ?_)
   refine zAb (w_p (zAe (v := .int _ _) rfl rfl) rfl ?_)
   refine w_p (zCc rfl rfl rfl rfl) rfl ?_
   refine zAf (zAd (hK29 _ _ ?_))
   refine zAz rfl rfl (fun h31 => ?_) (fun h31 => ?_)
   ·
    try simp only [zS] at h31
    refine zAg (fun K33 hK32 => ?_)
    refine zAb (w_p (zAe (v := .int _ _) rfl rfl) rfl ?_)
    refine w_p (zAe (v := .int _ _) rfl rfl) rfl ?_
    refine w_p (zAc (v := .int _ _) rfl rfl) rfl ?_
    refine w_p (zAc (v := .int _ _) rfl rfl) rfl ?_
    refine zAf (zAd (hK32 _ _ ?_))
    refine zA2 (zA1 (zAm (zAm (zA1 (zAm (zA3 (l := [.tmp 4, .tmp 5]) (vs := [_, _]) rfl ⟨⟨rfl, (rfl : _ = Value.int _ _)⟩, ⟨rfl, (rfl : _ = Value.int _ _)⟩, trivial⟩ ?_))))))
    first
      | (rw [hinv, zA8 hi2 (by assumption)]
         exact ⟨rfl, hs28.tail⟩)
      | (rw [hinv, zCe (by omega)]
         exact ⟨rfl, hs28⟩)
   try simp only [zS] at h31
   refine zAx (zAl (zAd (hK15 _ _ ?_)))
   refine zAb (w_p (zBf rfl rfl rfl rfl (by omega) (by omega)) rfl ?_)
   refine w_p (zAe (v := .int _ _) rfl rfl) rfl ?_
   refine zAf (zAd (hN7 _ _ (Nx.intro (l.length - (i + 1)) (by omega) (by repeat (first | exact zAv | refine zAu rfl ?_ | refine zAs rfl ?_ _ | refine zAr rfl ?_)) ?_)))
   exact ⟨i + 1, rfl, by omega, rfl, hinv.trans (zDj hi2 (by assumption)), hs28.tail⟩
  try simp only [zS] at h14
  refine zBl (zAo (zAo (zA4 (zAd (hK3 _ _ ?_)))))
  refine zAg (fun K35 hK34 => ?_)
  refine zAb (w_p (zAc (v := _) rfl rfl) rfl ?_)
  refine w_p (zAc (v := _) rfl rfl) rfl ?_
  refine zAf (zAd (hK34 _ _ ?_))
  refine zA2 (zA3 (l := [.tmp 4, .tmp 5]) (vs := [_, _]) rfl ⟨⟨rfl, (rfl : _ = Value.int _ _)⟩, ⟨rfl, (rfl : _ = Value.int _ _)⟩, trivial⟩ ?_)
  first
    | (rw [hinv, zA8 hi2 (by assumption)]
       exact ⟨rfl, hs.tail⟩)
    | (rw [hinv, zCe (by omega)]
       exact ⟨rfl, hs⟩)

theorem c94 {w0 w : World} {F : List (Nat × Obj)} (a : Option Addr) (c : Nat) (l : List Bunch) (hl : l.length ≤ 9223372036854775807) (ha : Sl w0 F a 4 (brows l)) (fv : Value) (err : List Bunch → Bunch → Int)
    (hp : ∀ (i : Nat) (hi : i < l.length) (X : List (Nat × Obj)) (w : World), St w0 w (X ++ F) → FCon Tryz.prog fv [.int .i64 i, .agg l[i].cells.toArray] w fun v w' => v = .int .i64 (err (l.take i) l[i]) ∧ St w0 w' (X ++ F)) (hs : St w0 w F) :
  Con Tryz.prog 94 [.slice a l.length c, fv] w fun v w' => v = .tuple #[.int .i64 (firstE err [] 0 l).1, .int .i64 (firstE err [] 0 l).2] ∧ St w0 w' F := by
  refine zAw (n := 25) func94 rfl rfl (Nat.le_of_ble_eq_true rfl) ?_
  refine zAg (fun K2 hK1 => ?_)
  refine zAb (w_p (zAc (v := _) rfl rfl) rfl ?_)
  refine w_p (zAc (v := _) rfl rfl) rfl ?_
  refine zAf (zAd (hK1 _ _ ?_))
  refine zAg (fun K4 hK3 => ?_)
  refine zAg (fun K6 hK5 => ?_)
  refine zAb (w_p (zAe (v := .slice _ _ _) rfl rfl) rfl ?_)
  refine w_p (zBd underlying23 rfl rfl) rfl ?_
  refine w_p (zAe (v := _) rfl rfl) rfl ?_
  refine zAf (zAd (hK5 _ _ ?_))
  refine zAy ?_
  refine zBp [4, 5, 6, 7, 8, 11, 12, 13, 14, 15, 16, 17, 18, 19, 20, 21, 22, 23, 24] [11] (fun k vs w => ∃ (i : Nat), vs = [.int .i64 i] ∧ i ≤ l.length ∧ k = l.length - i ∧ firstE err [] 0 l = firstE err (l.take i) i (l.drop i) ∧ St w0 w F) (l.length) ?_ ?_
  ·
   exact ⟨0, rfl, by omega, by omega, by simp, hs⟩
  intro k vs μ w9 hI K8 hN7
  obtain ⟨i, rfl, hia, rfl, hinv, hs⟩ := hI
  refine zAg (fun K11 hK10 => ?_)
  refine zAb (w_p (zBt rfl rfl rfl rfl) rfl ?_)
  refine zAf (zAd (hK10 _ _ ?_))
  refine zAg (fun K13 hK12 => ?_)
  refine zAz rfl rfl (fun h14 => ?_) (fun h14 => ?_)
  ·
   try simp only [zS] at h14
   refine zAx (zAd (hK12 _ _ ?_))
   refine zAg (fun K16 hK15 => ?_)
   refine zAy ?_
   refine zAg (fun K18 hK17 => ?_)
   have hi2 : i < l.length := by omega
   obtain ⟨bx, ox, rfl, hx⟩ := sl_brows ha hi2
   refine zAb (w_p (zAe (v := .int _ _) rfl rfl) rfl ?_)
   refine w_p (zA7 underlying23 sizeOf61 rfl rfl rfl rfl (i := _) rfl (by omega)) rfl ?_
   refine w_p (zA6 (vs := [_, _, _, _]) isAgg61 sizeOf61 hs rfl rfl hx) rfl ?_
   refine zA9 (cs := [_, _, _, _]) zAa zeroValue61 rfl hs (fun b19 w20 hs21 => ?_)
   refine w_p (zAc (v := .int _ _) rfl rfl) rfl ?_
   refine zA5 (i := 0) (v := .agg #[.int _ _, .int _ _, .int _ _, .int _ _]) (vs := [_, _, _, _]) zAa sizeOf61 rfl rfl rfl rfl rfl (by simp [Value.oneCell']) hs21 rfl (Nat.le_of_ble_eq_true rfl) (fun w22 hs23 => ?_)
   refine zAf (zAd (hK17 _ _ ?_))
   refine zAg (fun K25 hK24 => ?_)
   refine zAb (w_p (zAe (v := fv) rfl rfl) rfl ?_)
   refine w_p (zAe (v := .int _ _) rfl rfl) rfl ?_
   refine w_p (zA6 (vs := [_, _, _, _]) isAgg61 sizeOf61 hs23 rfl rfl (zAj (i := 0) (vs := [_, _, _, _]) rfl rfl)) rfl ?_
   refine w_callV zAa rfl rfl rfl rfl (hp i hi2 [_] _ hs23) ?_
   rintro _ w27 ⟨rfl, hs28⟩
   refine w_p (zAc (v := .int _ _) rfl rfl) rfl ?_
   refine zAf (zAd (hK24 _ _ ?_))
   refine zAg (fun K30 hK29 => ?_)
   refine zAb (w_p (zAe (v := .int _ _) rfl rfl) rfl ?_)
   refine w_p (zCc rfl rfl rfl rfl) rfl ?_
   refine zAf (zAd (hK29 _ _ ?_))
   refine zAz rfl rfl (fun h31 => ?_) (fun h31 => ?_)
   ·
    try simp only [zS] at h31
    refine zAg (fun K33 hK32 => ?_)
    refine zAb (w_p (zAe (v := .int _ _) rfl rfl) rfl ?_)
    refine w_p (zAe (v := .int _ _) rfl rfl) rfl ?_
    refine w_p (zAc (v := .int _ _) rfl rfl) rfl ?_
    refine w_p (zAc (v := .int _ _) rfl rfl) rfl ?_
    refine zAf (zAd (hK32 _ _ ?_))
    refine zA2 (zA1 (zAm (zAm (zA1 (zAm (zA3 (l := [.tmp 4, .tmp 5]) (vs := [_, _]) rfl ⟨⟨rfl, (rfl : _ = Value.int _ _)⟩, ⟨rfl, (rfl : _ = Value.int _ _)⟩, trivial⟩ ?_))))))
    first
      | (rw [hinv, zA8 hi2 (by assumption)]
         exact ⟨rfl, hs28.tail⟩)
      | (rw [hinv, zCe (by omega)]
         exact ⟨rfl, hs28⟩)
   try simp only [zS] at h31
   refine zAx (zAl (zAd (hK15 _ _ ?_)))
   refine zAb (w_p (zBf rfl rfl rfl rfl (by omega) (by omega)) rfl ?_)
   refine w_p (zAe (v := .int _ _) rfl rfl) rfl ?_
   refine zAf (zAd (hN7 _ _ (Nx.intro (l.length - (i + 1)) (by omega) (by repeat (first | exact zAv | refine zAu rfl ?_ | refine zAs rfl ?_ _ | refine zAr rfl ?_)) ?_)))
   exact ⟨i + 1, rfl, by omega, rfl, hinv.trans (zDj hi2 (by assumption)), hs28.tail⟩
  try simp only [zS] at h14
  refine zBl (zAo (zAo (zA4 (zAd (hK3 _ _ ?_)))))
  refine zAg (fun K35 hK34 => ?_)
  refine zAb (w_p (zAc (v := _) rfl rfl) rfl ?_)
  refine w_p (zAc (v := _) rfl rfl) rfl ?_
  refine zAf (zAd (hK34 _ _ ?_))
  refine zA2 (zA3 (l := [.tmp 4, .tmp 5]) (vs := [_, _]) rfl ⟨⟨rfl, (rfl : _ = Value.int _ _)⟩, ⟨rfl, (rfl : _ = Value.int _ _)⟩, trivial⟩ ?_)
  first
    | (rw [hinv, zA8 hi2 (by assumption)]
       exact ⟨rfl, hs.tail⟩)
    | (rw [hinv, zCe (by omega)]
       exact ⟨rfl, hs⟩)

theorem c96 {w0 w : World} {F : List (Nat × Obj)} (a : Option Addr) (c : Nat) (l : List Count) (hl : l.length ≤ 9223372036854775807) (ha : Sl w0 F a 2 (crows l)) (fv : Value) (err : List Count → Count → Int)
    (hp : ∀ (i : Nat) (hi : i < l.length) (X : List (Nat × Obj)) (w : World), St w0 w (X ++ F) → FCon Tryz.prog fv [.int .i64 i, .agg l[i].cells.toArray] w fun v w' => v = .int .i64 (err (l.take i) l[i]) ∧ St w0 w' (X ++ F)) (hs : St w0 w F) :
  Con Tryz.prog 96 [.slice a l.length c, fv] w fun v w' => v = .tuple #[.int .i64 (firstE err [] 0 l).1, .int .i64 (firstE err [] 0 l).2] ∧ St w0 w' F := by
  refine zAw (n := 25) func96 rfl rfl (Nat.le_of_ble_eq_true rfl) ?_
  refine zAg (fun K2 hK1 => ?_)
  refine zAb (w_p (zAc (v := _) rfl rfl) rfl ?_)
  refine w_p (zAc (v := _) rfl rfl) rfl ?_
  refine zAf (zAd (hK1 _ _ ?_))
  refine zAg (fun K4 hK3 => ?_)
  refine zAg (fun K6 hK5 => ?_)
  refine zAb (w_p (zAe (v := .slice _ _ _) rfl rfl) rfl ?_)
  refine w_p (zBd underlying24 rfl rfl) rfl ?_
  refine w_p (zAe (v := _) rfl rfl) rfl ?_
  refine zAf (zAd (hK5 _ _ ?_))
  refine zAy ?_
  refine zBp [4, 5, 6, 7, 8, 11, 12, 13, 14, 15, 16, 17, 18, 19, 20, 21, 22, 23, 24] [11] (fun k vs w => ∃ (i : Nat), vs = [.int .i64 i] ∧ i ≤ l.length ∧ k = l.length - i ∧ firstE err [] 0 l = firstE err (l.take i) i (l.drop i) ∧ St w0 w F) (l.length) ?_ ?_
  ·
   exact ⟨0, rfl, by omega, by omega, by simp, hs⟩
  intro k vs μ w9 hI K8 hN7
  obtain ⟨i, rfl, hia, rfl, hinv, hs⟩ := hI
  refine zAg (fun K11 hK10 => ?_)
  refine zAb (w_p (zBt rfl rfl rfl rfl) rfl ?_)
  refine zAf (zAd (hK10 _ _ ?_))
  refine zAg (fun K13 hK12 => ?_)
  refine zAz rfl rfl (fun h14 => ?_) (fun h14 => ?_)
  ·
   try simp only [zS] at h14
   refine zAx (zAd (hK12 _ _ ?_))
   refine zAg (fun K16 hK15 => ?_)
   refine zAy ?_
   refine zAg (fun K18 hK17 => ?_)
   have hi2 : i < l.length := by omega
   obtain ⟨bx, ox, rfl, hx⟩ := sl_crows ha hi2
   refine zAb (w_p (zAe (v := .int _ _) rfl rfl) rfl ?_)
   refine w_p (zA7 underlying24 sizeOf63 rfl rfl rfl rfl (i := _) rfl (by omega)) rfl ?_
   refine w_p (zA6 (vs := [_, _]) isAgg63 sizeOf63 hs rfl rfl hx) rfl ?_
   refine zA9 (cs := [_, _]) zAa zeroValue63 rfl hs (fun b19 w20 hs21 => ?_)
   refine w_p (zAc (v := .int _ _) rfl rfl) rfl ?_
   refine zA5 (i := 0) (v := .agg #[.int _ _, .int _ _]) (vs := [_, _]) zAa sizeOf63 rfl rfl rfl rfl rfl (by simp [Value.oneCell']) hs21 rfl (Nat.le_of_ble_eq_true rfl) (fun w22 hs23 => ?_)
   refine zAf (zAd (hK17 _ _ ?_))
   refine zAg (fun K25 hK24 => ?_)
   refine zAb (w_p (zAe (v := fv) rfl rfl) rfl ?_)
   refine w_p (zAe (v := .int _ _) rfl rfl) rfl ?_
   refine w_p (zA6 (vs := [_, _]) isAgg63 sizeOf63 hs23 rfl rfl (zAj (i := 0) (vs := [_, _]) rfl rfl)) rfl ?_
   refine w_callV zAa rfl rfl rfl rfl (hp i hi2 [_] _ hs23) ?_
   rintro _ w27 ⟨rfl, hs28⟩
   refine w_p (zAc (v := .int _ _) rfl rfl) rfl ?_
   refine zAf (zAd (hK24 _ _ ?_))
   refine zAg (fun K30 hK29 => ?_)
   refine zAb (w_p (zAe (v := .int _ _) rfl rfl) rfl ?_)
   refine w_p (zCc rfl rfl rfl rfl) rfl ?_
   refine zAf (zAd (hK29 _ _ ?_))
   refine zAz rfl rfl (fun h31 => ?_) (fun h31 => ?_)
   ·
    try simp only [zS] at h31
    refine zAg (fun K33 hK32 => ?_)
    refine zAb (w_p (zAe (v := .int _ _) rfl rfl) rfl ?_)
    refine w_p (zAe (v := .int _ _) rfl rfl) rfl ?_
    refine w_p (zAc (v := .int _ _) rfl rfl) rfl ?_
    refine w_p (zAc (v := .int _ _) rfl rfl) rfl ?_
    refine zAf (zAd (hK32 _ _ ?_))
    refine zA2 (zA1 (zAm (zAm (zA1 (zAm (zA3 (l := [.tmp 4, .tmp 5]) (vs := [_, _]) rfl ⟨⟨rfl, (rfl : _ = Value.int _ _)⟩, ⟨rfl, (rfl : _ = Value.int _ _)⟩, trivial⟩ ?_))))))
    first
      | (rw [hinv, zA8 hi2 (by assumption)]
         exact ⟨rfl, hs28.tail⟩)
      | (rw [hinv, zCe (by omega)]
         exact ⟨rfl, hs28⟩)
   try simp only [zS] at h31
   refine zAx (zAl (zAd (hK15 _ _ ?_)))
   refine zAb (w_p (zBf rfl rfl rfl rfl (by omega) (by omega)) rfl ?_)
   refine w_p (zAe (v := .int _ _) rfl rfl) rfl ?_
   refine zAf (zAd (hN7 _ _ (Nx.intro (l.length - (i + 1)) (by omega) (by repeat (first | exact zAv | refine zAu rfl ?_ | refine zAs rfl ?_ _ | refine zAr rfl ?_)) ?_)))
   exact ⟨i + 1, rfl, by omega, rfl, hinv.trans (zDj hi2 (by assumption)), hs28.tail⟩
  try simp only [zS] at h14
  refine zBl (zAo (zAo (zA4 (zAd (hK3 _ _ ?_)))))
  refine zAg (fun K35 hK34 => ?_)
  refine zAb (w_p (zAc (v := _) rfl rfl) rfl ?_)
  refine w_p (zAc (v := _) rfl rfl) rfl ?_
  refine zAf (zAd (hK34 _ _ ?_))
  refine zA2 (zA3 (l := [.tmp 4, .tmp 5]) (vs := [_, _]) rfl ⟨⟨rfl, (rfl : _ = Value.int _ _)⟩, ⟨rfl, (rfl : _ = Value.int _ _)⟩, trivial⟩ ?_)
  first
    | (rw [hinv, zA8 hi2 (by assumption)]
       exact ⟨rfl, hs.tail⟩)
    | (rw [hinv, zCe (by omega)]
       exact ⟨rfl, hs⟩)

/-- What is known of a lot that comes in. -/
structure LIn (w0 : World) (F : List (Nat × Obj)) (l : Lot) (p : At3) : Prop where
  g : Sl w0 F p.ag 3 (grows l.grades)
  b : Sl w0 F p.ab 4 (brows l.bunches)
  c : Sl w0 F p.ac 2 (crows l.counts)
  lg : l.grades.length ≤ 9223372036854775807
  lb : l.bunches.length ≤ 9223372036854775807
  lc : l.counts.length ≤ 9223372036854775807
  cg : l.grades.length ≤ p.cg
  cb : l.bunches.length ≤ p.cb
  cc : l.counts.length ≤ p.cc
  ng : ∀ x ∈ l.grades, x.name.size ≤ 9223372036854775807
theorem LIn.mono {w0 : World} {F F' : List (Nat × Obj)} {l : Lot} {p : At3} (h : LIn w0 F l p) (hs : ∀ w, St w0 w F' → St w0 w F) : LIn w0 F' l p := ⟨h.g.mono hs, h.b.mono hs, h.c.mono hs, h.lg, h.lb, h.lc, h.cg, h.cb, h.cc, h.ng⟩
theorem LIn.cons {w0 : World} {F : List (Nat × Obj)} {x : Nat × Obj} {l : Lot} {p : At3} (h : LIn w0 F l p) : LIn w0 (x :: F) l p := h.mono fun _ h => h.tail
theorem LIn.app {w0 : World} {F B : List (Nat × Obj)} {l : Lot} {p : At3} (h : LIn w0 F l p) : LIn w0 (B ++ F) l p := h.mono fun _ h => h.drop
theorem tup3 {x : Int × Int × Int} {a b c : Int} (h : x = (a, b, c)) : Value.tuple #[.int .i64 a, .int .i64 b, .int .i64 c] = .tuple #[.int .i64 x.1, .int .i64 x.2.1, .int .i64 x.2.2] := by subst h; rfl
theorem zCh (k : Int) (n : Nat) : out 0 k (n : Int) = decide (k < (n : Int)) := by unfold out; rw [Bool.eq_iff_iff]; simp; intro h; omega
theorem yd_cast {P : Program} {a : Act} {o : Oper} {w : World} {k : IntKind} {z z' : Int} (h : z = z') (hy : Yd P a o w (.int k z)) : Yd P a o w (.int k z') := h ▸ hy
theorem pow_le (n : Nat) (h : n ≤ 6) : 1 <<< n = 2 ^ n ∧ 1 ≤ 1 <<< n ∧ 1 <<< n ≤ 64 := by
  match n, h with
  | 0, _ => decide
  | 1, _ => decide
  | 2, _ => decide
  | 3, _ => decide
  | 4, _ => decide
  | 5, _ => decide
  | 6, _ => decide
theorem pow_all {n : Nat} (h : n ≤ 6) : ((1 <<< n : Nat) : Int) - 1 = 2 ^ n - 1 := by rw [(pow_le n h).1]; simp
theorem c92 {w0 w : World} {F : List (Nat × Obj)} (l : Lot) (p : At3) (hm : LIn w0 F l p) (i : Nat) (hi : i < l.grades.length) (bm : Nat) (hb : Ats w0 F bm 0 (l.cells p)) (hs : St w0 w F) :
  Con Tryz.prog 92 [.int .i64 i, .agg l.grades[i].cells.toArray, .pointer (some ⟨bm, 0, none⟩)] w fun v w' => v = .int .i64 (gradeE (l.grades.take i) l.grades[i]) ∧ St w0 w' F := by
  refine zAw (n := 23) func92 rfl rfl (Nat.le_of_ble_eq_true rfl) ?_
  refine zAg (fun K2 hK1 => ?_)
  refine zAb (zB3 (v := .agg #[.string _, .int _ _, .int _ _]) (cs := [_, _, _]) zAa rfl rfl rfl hs (fun b3 w4 hs5 => ?_))
  refine w_p (zAc (v := _) rfl rfl) rfl ?_
  refine zAf (zAd (hK1 _ _ ?_))
  refine zAg (fun K7 hK6 => ?_)
  refine zAg (fun K9 hK8 => ?_)
  refine zAb (zAt zAa call93 rfl rfl rfl rfl (c93 hs5) ?_)
  rintro _ w11 ⟨bq, rfl, hs12⟩
  refine w_p (zBd underlying157 rfl rfl) rfl ?_
  refine w_p (zAe (v := _) rfl rfl) rfl ?_
  refine zAf (zAd (hK8 _ _ ?_))
  refine zAy ?_
  refine zBp [5, 7, 10, 11, 12, 13, 14, 15, 16, 17, 18, 19, 20, 21, 22] [10] (fun k vs w => ∃ j : Nat, vs = [.int .i64 j] ∧ j ≤ 4 ∧ k = 4 - j ∧ (∀ q < j, flawIs (l.grades.take i) l.grades[i] q = false) ∧ St w0 w ((bq, blk 161 flawCells) :: (b3, blk 57 l.grades[i].cells) :: F)) (4) ?_ ?_
  ·
   exact ⟨0, rfl, by omega, by omega, (fun q hq => by omega), hs12⟩
  intro k vs μ w15 hI K14 hN13
  obtain ⟨j, rfl, hja, rfl, hfl, hs⟩ := hI
  refine zAg (fun K17 hK16 => ?_)
  refine zAb (w_p (zBt rfl rfl rfl rfl) rfl ?_)
  refine zAf (zAd (hK16 _ _ ?_))
  refine zAg (fun K19 hK18 => ?_)
  refine zAz rfl rfl (fun h20 => ?_) (fun h20 => ?_)
  ·
   try simp only [zS] at h20
   refine zAx (zAd (hK18 _ _ ?_))
   refine zAg (fun K22 hK21 => ?_)
   refine zAy ?_
   refine zAg (fun K24 hK23 => ?_)
   have hj2 : j < 4 := by omega
   have hxq := flaw_at (w0 := w0) (L := (bq, blk 161 flawCells) :: (b3, blk 57 l.grades[i].cells) :: F) (i := 0) rfl hj2
   refine zAb (w_p (zA7 underlying157 sizeOf161 rfl rfl rfl rfl (i := _) rfl (by omega)) rfl ?_)
   refine w_p (zA6 (vs := [_, _]) isAgg161 sizeOf161 hs rfl rfl hxq) rfl ?_
   refine zA9 (cs := [_, _]) zAa zeroValue161 rfl hs (fun b25 w26 hs27 => ?_)
   refine zA5 (i := 0) (v := .agg #[.int _ _, .func _ _ _]) (vs := [_, _]) zAa sizeOf161 rfl rfl rfl rfl rfl (by simp [Value.oneCell']) hs27 rfl (Nat.le_of_ble_eq_true rfl) (fun w28 hs29 => ?_)
   refine zAf (zAd (hK23 _ _ ?_))
   refine zAg (fun K31 hK30 => ?_)
   refine zAb (w_p (zAh (o := 1) (i := 1) underlying161 rfl sizeOf159 rfl rfl rfl) rfl ?_)
   refine w_p (zAk isAgg159 hs29 rfl rfl (zAj (i := 0) (vs := [_]) rfl rfl)) rfl ?_
   refine w_p (zAh (o := 0) (i := 0) underlying26 rfl sizeOf22 rfl rfl rfl) rfl ?_
   refine w_p (zAk isAgg22 hs29.tail.tail.tail rfl rfl (show Ats _ _ _ _ [_] from Ats.part hb 0 1)) rfl ?_
   refine w_p (zAe (v := .int _ _) rfl rfl) rfl ?_
   refine w_callV zAa rfl rfl rfl rfl (flaw_con _ _ l.grades hm.lg hm.cg hm.g.cons.cons.cons i hi (hm.ng _ (List.getElem_mem hi)) j hj2 hs29) ?_
   rintro _ w33 ⟨rfl, hs34⟩
   refine zAf (zAd (hK30 _ _ ?_))
   refine zAz rfl rfl (fun h35 => ?_) (fun h35 => ?_)
   ·
    try simp only [zS] at h35
    refine zAg (fun K37 hK36 => ?_)
    refine zAb (w_p (zAh (o := 0) (i := 0) underlying161 rfl sizeOf36 rfl rfl rfl) rfl ?_)
    refine w_p (zAk isAgg36 hs34 rfl rfl (zAj (i := 0) (vs := [_]) rfl rfl)) rfl ?_
    refine w_p (zAc (v := .int _ _) rfl rfl) rfl ?_
    refine zAf (zAd (hK36 _ _ ?_))
    refine zA2 (zA1 (zAm (zAm (zA1 (zAm (zA3 (l := [.tmp 5]) (vs := [_]) rfl ⟨⟨rfl, (rfl : _ = Value.int _ _)⟩, trivial⟩ ?_))))))
    first
      | exact ⟨congrArg (Value.int .i64) (gradeE_flaw hj2 (by assumption) hfl).symm, hs34.tail.tail.tail⟩
      | (have hj4 : j = 4 := by omega
         subst hj4
         exact ⟨congrArg (Value.int .i64) (gradeE_fine hfl).symm, hs34.tail.tail.tail⟩)
   try simp only [zS] at h35
   refine zAx (zAl (zAd (hK21 _ _ ?_)))
   refine zAb (w_p (zBf rfl rfl rfl rfl (by omega) (by omega)) rfl ?_)
   refine w_p (zAe (v := .int _ _) rfl rfl) rfl ?_
   refine zAf (zAd (hN13 _ _ (Nx.intro (4 - (j + 1)) (by omega) (by repeat (first | exact zAv | refine zAu rfl ?_ | refine zAs rfl ?_ _ | refine zAr rfl ?_)) ?_)))
   exact ⟨j + 1, rfl, by omega, rfl, (fun q hq => by rcases Nat.lt_or_ge q j with h | h; exact hfl q h; have hqj : q = j := (by omega); subst hqj; assumption), hs34.tail⟩
  try simp only [zS] at h20
  refine zBl (zAo (zAo (zA4 (zAd (hK6 _ _ ?_)))))
  refine zAg (fun K39 hK38 => ?_)
  refine zAb (w_p (zAc (v := _) rfl rfl) rfl ?_)
  refine zAf (zAd (hK38 _ _ ?_))
  refine zA2 (zA3 (l := [.tmp 5]) (vs := [_]) rfl ⟨⟨rfl, (rfl : _ = Value.int _ _)⟩, trivial⟩ ?_)
  first
    | exact ⟨congrArg (Value.int .i64) (gradeE_flaw hj2 (by assumption) hfl).symm, hs.tail.tail⟩
    | (have hj4 : j = 4 := by omega
       subst hj4
       exact ⟨congrArg (Value.int .i64) (gradeE_fine hfl).symm, hs.tail.tail⟩)

theorem c95 {w0 w : World} {F : List (Nat × Obj)} (i : Int) (b : Bunch) (bf : List Bunch) (hs : St w0 w F) :
  Con Tryz.prog 95 [.int .i64 i, .agg b.cells.toArray] w fun v w' => v = .int .i64 (bunchE bf b) ∧ St w0 w' F := by
  refine zAw (n := 43) func95 rfl rfl (Nat.le_of_ble_eq_true rfl) ?_
  refine zAg (fun K2 hK1 => ?_)
  refine zAb (zB3 (v := .agg #[.int _ _, .int _ _, .int _ _, .int _ _]) (cs := [_, _, _, _]) zAa rfl rfl rfl hs (fun b3 w4 hs5 => ?_))
  refine w_p (zAc (v := _) rfl rfl) rfl ?_
  refine zAf (zAd (hK1 _ _ ?_))
  refine zAg (fun K7 hK6 => ?_)
  refine zAy ?_
  refine zAg (fun K9 hK8 => ?_)
  refine zAb (w_p (zAh (o := 0) (i := 0) underlying61 rfl sizeOf28 rfl rfl rfl) rfl ?_)
  refine w_p (zAh (o := 0) (i := 0) underlying28 rfl sizeOf3 rfl rfl rfl) rfl ?_
  refine w_p (zAk isAgg3 hs5 rfl rfl (zAj (i := 0) (vs := [_]) rfl rfl)) rfl ?_
  refine w_p (zAh (o := 0) (i := 0) underlying61 rfl sizeOf28 rfl rfl rfl) rfl ?_
  refine w_p (zAh (o := 1) (i := 1) underlying28 rfl sizeOf3 rfl rfl rfl) rfl ?_
  refine w_p (zAk isAgg3 hs5 rfl rfl (zAj (i := 0) (vs := [_]) rfl rfl)) rfl ?_
  refine zBh (ps := [(0, _), (1, _)]) (pv := [(0, .int _ _), (1, .int _ _)]) (cs := [_, _]) zAa rfl rfl (fun w => Try_HD_fb0 _ _ w) hs5 (fun b10 w11 hs12 => ?_)
  refine zAt zAa call62 rfl rfl rfl rfl (c62 _ _ _ [_, _] _ (by simp) (zBr (i := 0) (rows := [[_], [_]]) rfl (by simp) rfl) hs12) ?_
  rintro _ w14 ⟨rfl, hs15⟩
  refine w_p (zAe (v := .bool _) rfl rfl) rfl ?_
  refine zBi (fun h16 => ?_) (fun h16 => ?_)
  ·
   try simp only [zS] at h16
   refine zAi rfl rfl rfl ?_
   refine zAi rfl rfl rfl ?_
   refine zAi rfl rfl rfl ?_
   refine zAi rfl rfl rfl ?_
   refine zAi rfl rfl rfl ?_
   refine zAi rfl rfl rfl ?_
   refine zAi rfl rfl rfl ?_
   refine zAi rfl rfl rfl ?_
   refine w_p (zA0 (v := _) rfl rfl rfl rfl) rfl ?_
   refine w_p (zAc (v := .bool _) rfl rfl) rfl ?_
   refine zAf (zAd (hK8 _ _ ?_))
   refine zCg rfl rfl ?_
   refine zAg (fun K18 hK17 => ?_)
   refine zAb (w_p (zAc (v := _) rfl rfl) rfl ?_)
   refine zAf (zAd (hK17 _ _ ?_))
   refine zA2 (zA1 (zAm (zA3 (l := [.tmp 4]) (vs := [_]) rfl ⟨⟨rfl, (rfl : _ = Value.int _ _)⟩, trivial⟩ ?_)))
   try simp only [List.any_cons, List.any_nil, Bool.or_false, Bool.or_eq_false_iff] at h16
   exact ⟨congrArg (Value.int .i64) (by simp [bunchE, h16] <;> omega), hs15.tail.tail⟩
  try simp only [zS] at h16
  refine w_y rfl rfl rfl (zAh (o := 2) (i := 1) underlying61 rfl sizeOf28 rfl rfl rfl) rfl ?_
  refine w_y rfl rfl rfl (zAh (o := 0) (i := 0) underlying28 rfl sizeOf3 rfl rfl rfl) rfl ?_
  refine w_y rfl rfl rfl (zAk isAgg3 hs15 rfl rfl (zAj (i := 1) (vs := [_]) rfl rfl)) rfl ?_
  refine w_y rfl rfl rfl (zAh (o := 2) (i := 1) underlying61 rfl sizeOf28 rfl rfl rfl) rfl ?_
  refine w_y rfl rfl rfl (zAh (o := 1) (i := 1) underlying28 rfl sizeOf3 rfl rfl rfl) rfl ?_
  refine w_y rfl rfl rfl (zAk isAgg3 hs15 rfl rfl (zAj (i := 1) (vs := [_]) rfl rfl)) rfl ?_
  refine zBh (ps := [(0, _), (1, _)]) (pv := [(0, .int _ _), (1, .int _ _)]) (cs := [_, _]) (zAn rfl rfl rfl) rfl rfl (fun w => Try_HD_fb0 _ _ w) hs15 (fun b19 w20 hs21 => ?_)
  refine zAt (zAn rfl rfl rfl) call62 rfl rfl rfl rfl (c62 _ _ _ [_, _] _ (by simp) (zBr (i := 0) (rows := [[_], [_]]) rfl (by simp) rfl) hs21) ?_
  rintro _ w23 ⟨rfl, hs24⟩
  refine w_p (zBb (v := .bool _) rfl rfl rfl rfl) rfl ?_
  refine w_p (zAc (v := .bool _) rfl rfl) rfl ?_
  refine zAf (zAd (hK8 _ _ ?_))
  refine zAz rfl rfl (fun h25 => ?_) (fun h25 => ?_)
  ·
   try simp only [zS] at h25
   refine zAg (fun K27 hK26 => ?_)
   refine zAb (w_p (zAc (v := _) rfl rfl) rfl ?_)
   refine zAf (zAd (hK26 _ _ ?_))
   refine zA2 (zA1 (zAm (zA3 (l := [.tmp 4]) (vs := [_]) rfl ⟨⟨rfl, (rfl : _ = Value.int _ _)⟩, trivial⟩ ?_)))
   try simp only [List.any_cons, List.any_nil, Bool.or_false, Bool.or_eq_false_iff] at h16 h25
   exact ⟨congrArg (Value.int .i64) (by simp [bunchE, h16, h25] <;> omega), hs24.tail.tail.tail⟩
  try simp only [zS] at h25
  refine zAg (fun K29 hK28 => ?_)
  have hbb : 1 ≤ b.lo ∧ b.lo ≤ 12 ∧ 1 ≤ b.hi ∧ b.hi ≤ 12 := by
    have hq : [b.lo, b.hi].any (out 1 12) = false := by assumption
    simp [out] at hq; omega
  refine zAb (w_p (zAh (o := 0) (i := 0) underlying61 rfl sizeOf28 rfl rfl rfl) rfl ?_)
  refine w_p (zAh (o := 1) (i := 1) underlying28 rfl sizeOf3 rfl rfl rfl) rfl ?_
  refine w_p (zAk isAgg3 hs24 rfl rfl (zAj (i := 2) (vs := [_]) rfl rfl)) rfl ?_
  refine w_p (zAh (o := 0) (i := 0) underlying61 rfl sizeOf28 rfl rfl rfl) rfl ?_
  refine w_p (zAh (o := 0) (i := 0) underlying28 rfl sizeOf3 rfl rfl rfl) rfl ?_
  refine w_p (zAk isAgg3 hs24 rfl rfl (zAj (i := 2) (vs := [_]) rfl rfl)) rfl ?_
  refine w_p (y_sub rfl rfl rfl rfl (by omega) (by omega)) rfl ?_
  refine zBh (ps := [(0, _)]) (pv := [(0, .int _ _)]) (cs := [_]) zAa rfl rfl (fun w => Try_HD_fb1 _ w) hs24 (fun b30 w31 hs32 => ?_)
  refine zAt zAa call62 rfl rfl rfl rfl (c62 _ _ _ [_] _ (by simp) (zBr (i := 0) (rows := [[_]]) rfl (by simp) rfl) hs32) ?_
  rintro _ w34 ⟨rfl, hs35⟩
  refine w_p (zAe (v := .bool _) rfl rfl) rfl ?_
  refine zBi (fun h36 => ?_) (fun h36 => ?_)
  ·
   try simp only [zS] at h36
   refine zAi rfl rfl rfl ?_
   refine zAi rfl rfl rfl ?_
   refine zAi rfl rfl rfl ?_
   refine zAi rfl rfl rfl ?_
   refine zAi rfl rfl rfl ?_
   refine zAi rfl rfl rfl ?_
   refine zAi rfl rfl rfl ?_
   refine w_p (zA0 (v := _) rfl rfl rfl rfl) rfl ?_
   refine w_p (zAc (v := .bool _) rfl rfl) rfl ?_
   refine zAf (zAd (hK28 _ _ ?_))
   refine zCg rfl rfl ?_
   refine zAg (fun K38 hK37 => ?_)
   refine zAb (w_p (zAc (v := _) rfl rfl) rfl ?_)
   refine zAf (zAd (hK37 _ _ ?_))
   refine zA2 (zA1 (zAm (zA3 (l := [.tmp 4]) (vs := [_]) rfl ⟨⟨rfl, (rfl : _ = Value.int _ _)⟩, trivial⟩ ?_)))
   try simp only [List.any_cons, List.any_nil, Bool.or_false, Bool.or_eq_false_iff] at h16 h25 h36
   exact ⟨congrArg (Value.int .i64) (by simp [bunchE, h16, h25, h36] <;> omega), hs35.tail.tail.tail.tail⟩
  try simp only [zS] at h36
  refine w_y rfl rfl rfl (zAh (o := 2) (i := 1) underlying61 rfl sizeOf28 rfl rfl rfl) rfl ?_
  refine w_y rfl rfl rfl (zAh (o := 0) (i := 0) underlying28 rfl sizeOf3 rfl rfl rfl) rfl ?_
  refine w_y rfl rfl rfl (zAk isAgg3 hs35 rfl rfl (zAj (i := 3) (vs := [_]) rfl rfl)) rfl ?_
  refine w_y rfl rfl rfl (zAh (o := 2) (i := 1) underlying61 rfl sizeOf28 rfl rfl rfl) rfl ?_
  refine w_y rfl rfl rfl (zAh (o := 1) (i := 1) underlying28 rfl sizeOf3 rfl rfl rfl) rfl ?_
  refine w_y rfl rfl rfl (zAk isAgg3 hs35 rfl rfl (zAj (i := 3) (vs := [_]) rfl rfl)) rfl ?_
  refine w_y rfl rfl rfl (y_gtr rfl rfl rfl rfl) rfl ?_
  refine w_p (zBb (v := .bool _) rfl rfl rfl rfl) rfl ?_
  refine w_p (zAc (v := .bool _) rfl rfl) rfl ?_
  refine zAf (zAd (hK28 _ _ ?_))
  refine zAz rfl rfl (fun h39 => ?_) (fun h39 => ?_)
  ·
   try simp only [zS] at h39
   refine zAg (fun K41 hK40 => ?_)
   refine zAb (w_p (zAc (v := _) rfl rfl) rfl ?_)
   refine zAf (zAd (hK40 _ _ ?_))
   refine zA2 (zA1 (zAm (zA3 (l := [.tmp 4]) (vs := [_]) rfl ⟨⟨rfl, (rfl : _ = Value.int _ _)⟩, trivial⟩ ?_)))
   try simp only [List.any_cons, List.any_nil, Bool.or_false, Bool.or_eq_false_iff] at h16 h25 h36 h39
   exact ⟨congrArg (Value.int .i64) (by simp [bunchE, h16, h25, h36, h39] <;> omega), hs35.tail.tail.tail.tail⟩
  try simp only [zS] at h39
  refine zAx (zAl (zAd (hK6 _ _ ?_)))
  refine zAg (fun K43 hK42 => ?_)
  refine zAb (w_p (zAc (v := _) rfl rfl) rfl ?_)
  refine zAf (zAd (hK42 _ _ ?_))
  refine zA2 (zA3 (l := [.tmp 4]) (vs := [_]) rfl ⟨⟨rfl, (rfl : _ = Value.int _ _)⟩, trivial⟩ ?_)
  try simp only [List.any_cons, List.any_nil, Bool.or_false, Bool.or_eq_false_iff] at h16 h25 h36 h39
  exact ⟨congrArg (Value.int .i64) (by simp [bunchE, h16, h25, h36, h39] <;> omega), hs35.tail.tail.tail.tail⟩

theorem c97 {w0 w : World} {F : List (Nat × Obj)} (l : Lot) (p : At3) (hm : LIn w0 F l p) (h6 : l.bunches.length ≤ 6) (i : Int) (x : Count) (bf : List Count) (bm : Nat) (hb : Ats w0 F bm 0 (l.cells p)) (hs : St w0 w F) :
  Con Tryz.prog 97 [.int .i64 i, .agg x.cells.toArray, .pointer (some ⟨bm, 0, none⟩)] w fun v w' => v = .int .i64 (countE l.bunches.length bf x) ∧ St w0 w' F := by
  refine zAw (n := 21) func97 rfl rfl (Nat.le_of_ble_eq_true rfl) ?_
  have hpl := pow_le _ h6
  refine zAg (fun K2 hK1 => ?_)
  refine zAb (zB3 (v := .agg #[.int _ _, .int _ _]) (cs := [_, _]) zAa rfl rfl rfl hs (fun b3 w4 hs5 => ?_))
  refine w_p (zAc (v := _) rfl rfl) rfl ?_
  refine zAf (zAd (hK1 _ _ ?_))
  refine zAg (fun K7 hK6 => ?_)
  refine zAy ?_
  refine zAg (fun K9 hK8 => ?_)
  refine zB7 [] [(0, 0), (1, 1), (2, 0), (3, 0), (4, 0), (5, 0), (6, 1), (7, 2), (8, 2), (9, 0)] zBu (by kernel_rfl) hs5 (fun w10 hs11 => ?_)
  refine zAp rfl zAa rfl (fun _ => (zAh (o := 1) (i := 1) underlying26 rfl sizeOf23 rfl rfl rfl)) ?_
  refine zBa rfl zAa rfl hs11 (fun _ hq => (zAk isAgg23 hq.tail rfl rfl (show Ats _ _ _ _ [_] from Ats.part hb 1 1))) ?_
  refine zAp rfl zAa rfl (fun _ => (zBd underlying23 rfl rfl)) ?_
  refine zAp rfl zAa rfl (fun _ => (y_shl (x := 1) (y := _) rfl rfl rfl rfl rfl rfl (by first | omega | exact zB8 (by omega)) (by first | omega | exact zB8 (by omega)))) ?_
  refine zAp rfl zAa rfl (fun _ => (yd_cast (z' := 2 ^ l.bunches.length - 1) (pow_all h6) (y_sub rfl rfl rfl rfl (by omega) (by omega)))) ?_
  refine zAp rfl zAa rfl (fun _ => (zAh (o := 0) (i := 0) underlying63 rfl sizeOf3 rfl rfl rfl)) ?_
  refine zBa rfl zAa rfl hs11 (fun _ hq => (zAk isAgg3 hq rfl rfl (zAj (i := 0) (vs := [_]) rfl rfl))) ?_
  refine zCl rfl ?_
  refine zBh (ps := [(0, _)]) (pv := [(0, .int _ _)]) (cs := [_]) zAa rfl rfl (fun w => Try_HD_fb1 _ w) hs11 (fun b12 w13 hs14 => ?_)
  refine zAf (qn ⟨hs14.tail, ?_⟩)
  refine zCl rfl ?_
  refine zAt zAa call62 rfl rfl rfl rfl (c62 _ _ _ [_] _ (by simp) (zBr (i := 0) (rows := [[_]]) rfl (by simp) rfl) hs14) ?_
  rintro _ w16 ⟨rfl, hs17⟩
  refine zAf (qn ⟨hs17.tail, ?_⟩)
  refine zAp rfl zAa rfl (fun _ => (zAc (v := .bool _) rfl rfl)) ?_
  refine zB1 ?_
  refine zAd (hK8 _ _ ?_)
  refine zAz rfl rfl (fun h18 => ?_) (fun h18 => ?_)
  ·
   try simp only [zS] at h18
   refine zAg (fun K20 hK19 => ?_)
   refine zAb (w_p (zAc (v := _) rfl rfl) rfl ?_)
   refine zAf (zAd (hK19 _ _ ?_))
   refine zA2 (zA1 (zAm (zA3 (l := [.tmp 5]) (vs := [_]) rfl ⟨⟨rfl, (rfl : _ = Value.int _ _)⟩, trivial⟩ ?_)))
   try simp only [List.any_cons, List.any_nil, Bool.or_false, Bool.or_eq_false_iff] at h18
   exact ⟨congrArg (Value.int .i64) (by simp [countE, h18] <;> omega), hs17.tail.tail⟩
  try simp only [zS] at h18
  refine zAg (fun K22 hK21 => ?_)
  refine zAb (w_p (zAh (o := 1) (i := 1) underlying63 rfl sizeOf3 rfl rfl rfl) rfl ?_)
  refine w_p (zAk isAgg3 hs17 rfl rfl (zAj (i := 1) (vs := [_]) rfl rfl)) rfl ?_
  refine zBh (ps := [(0, _)]) (pv := [(0, .int _ _)]) (cs := [_]) zAa rfl rfl (fun w => Try_HD_fb1 _ w) hs17 (fun b23 w24 hs25 => ?_)
  refine zAt zAa call62 rfl rfl rfl rfl (c62 _ _ _ [_] _ (by simp) (zBr (i := 0) (rows := [[_]]) rfl (by simp) rfl) hs25) ?_
  rintro _ w27 ⟨rfl, hs28⟩
  refine w_p (zAc (v := .bool _) rfl rfl) rfl ?_
  refine zAf (zAd (hK21 _ _ ?_))
  refine zAz rfl rfl (fun h29 => ?_) (fun h29 => ?_)
  ·
   try simp only [zS] at h29
   refine zAg (fun K31 hK30 => ?_)
   refine zAb (w_p (zAc (v := _) rfl rfl) rfl ?_)
   refine zAf (zAd (hK30 _ _ ?_))
   refine zA2 (zA1 (zAm (zA3 (l := [.tmp 5]) (vs := [_]) rfl ⟨⟨rfl, (rfl : _ = Value.int _ _)⟩, trivial⟩ ?_)))
   try simp only [List.any_cons, List.any_nil, Bool.or_false, Bool.or_eq_false_iff] at h18 h29
   exact ⟨congrArg (Value.int .i64) (by simp [countE, h18, h29] <;> omega), hs28.tail.tail.tail⟩
  try simp only [zS] at h29
  refine zAx (zAl (zAd (hK6 _ _ ?_)))
  refine zAg (fun K33 hK32 => ?_)
  refine zAb (w_p (zAc (v := _) rfl rfl) rfl ?_)
  refine zAf (zAd (hK32 _ _ ?_))
  refine zA2 (zA3 (l := [.tmp 5]) (vs := [_]) rfl ⟨⟨rfl, (rfl : _ = Value.int _ _)⟩, trivial⟩ ?_)
  try simp only [List.any_cons, List.any_nil, Bool.or_false, Bool.or_eq_false_iff] at h18 h29
  exact ⟨congrArg (Value.int .i64) (by simp [countE, h18, h29] <;> omega), hs28.tail.tail.tail⟩

theorem c66 {w0 w : World} {F : List (Nat × Obj)} (l : Lot) (p : At3) (hm : LIn w0 F l p)  (hs : St w0 w F) :
  Con Tryz.prog 66 [.agg (l.cells p).toArray] w fun v w' => v = .tuple #[.int .i64 (check l).1, .int .i64 (check l).2.1, .int .i64 (check l).2.2] ∧ St w0 w' F := by
  refine zAw (n := 54) func66 rfl rfl (Nat.le_of_ble_eq_true rfl) ?_
  have hlg := hm.lg
  have hlb := hm.lb
  have hlc := hm.lc
  refine zAg (fun K2 hK1 => ?_)
  refine zAb (zB3 (v := .agg #[.slice _ _ _, .slice _ _ _, .slice _ _ _]) (cs := [_, _, _]) zAa rfl rfl rfl hs (fun b3 w4 hs5 => ?_))
  refine w_p (zAc (v := _) rfl rfl) rfl ?_
  refine w_p (zAc (v := _) rfl rfl) rfl ?_
  refine w_p (zAc (v := _) rfl rfl) rfl ?_
  refine zAf (zAd (hK1 _ _ ?_))
  refine zAg (fun K7 hK6 => ?_)
  refine zAg (fun K9 hK8 => ?_)
  refine zAb (w_p (zAh (o := 0) (i := 0) underlying26 rfl sizeOf22 rfl rfl rfl) rfl ?_)
  refine w_p (zAk isAgg22 hs5 rfl rfl (zAj (i := 0) (vs := [_]) rfl rfl)) rfl ?_
  refine w_p (zBd underlying22 rfl rfl) rfl ?_
  refine zBh (ps := [(0, _)]) (pv := [(0, .int _ _)]) (cs := [_]) zAa rfl rfl (fun w => Try_HD_fb1 _ w) hs5 (fun b10 w11 hs12 => ?_)
  refine zAt zAa call62 rfl rfl rfl rfl (c62 _ _ _ [_] _ (by simp) (zBr (i := 0) (rows := [[_]]) rfl (by simp) rfl) hs12) ?_
  rintro _ w14 ⟨rfl, hs15⟩
  refine zAf (zAd (hK8 _ _ ?_))
  refine zAz rfl rfl (fun h16 => ?_) (fun h16 => ?_)
  ·
   try simp only [zS] at h16
   refine zAg (fun K18 hK17 => ?_)
   refine zAb (w_p (zAc (v := _) rfl rfl) rfl ?_)
   refine w_p (zAc (v := _) rfl rfl) rfl ?_
   refine w_p (zAc (v := _) rfl rfl) rfl ?_
   refine zAf (zAd (hK17 _ _ ?_))
   refine zA2 (zAm (zA3 (l := [.tmp 2, .tmp 3, .tmp 4]) (vs := [_, _, _]) rfl ⟨⟨rfl, (rfl : _ = Value.int _ _)⟩, ⟨rfl, (rfl : _ = Value.int _ _)⟩, ⟨rfl, (rfl : _ = Value.int _ _)⟩, trivial⟩ ?_))
   try simp only [List.any_cons, List.any_nil, Bool.or_false, Bool.or_eq_false_iff] at h16
   refine ⟨tup3 ?_, hs15.tail.tail⟩; unfold check failE
   try have e1 : ¬ ((6:Int) < (l.bunches.length : Int)) := by omega
   try have e2 : ¬ ((4:Int) < (l.counts.length : Int)) := by omega
   first
     | (simp [zCh, h16, e1, e2]; done)
     | (simp [zCh, h16, e1]; done)
     | (simp [zCh, h16]; done)
  try simp only [zS] at h16
  refine zAx (zAd (hK6 _ _ ?_))
  refine zAg (fun K20 hK19 => ?_)
  refine zAb (w_p (zAh (o := 0) (i := 0) underlying26 rfl sizeOf22 rfl rfl rfl) rfl ?_)
  refine w_p (zAk isAgg22 hs15 rfl rfl (zAj (i := 1) (vs := [_]) rfl rfl)) rfl ?_
  refine w_p (zB9 (fv := []) (cv := [_]) rfl rfl rfl rfl) rfl ?_
  refine zAt zAa call91 rfl rfl rfl rfl (c91 (F := _ :: ((b3, blk 26 (l.cells p)) :: F)) _ _ l.grades hlg hm.g.cons.cons (.func (.func 92) #[] #[.pointer (some ⟨b3, 0, none⟩)]) gradeE (fun i hi X w hs => zC4 call92 (c92 (F := X ++ (_ :: ((b3, blk 26 (l.cells p)) :: F))) l p hm.cons.cons.app i hi _ (Ats.app (Ats.cons (zAj (i := 0) (vs := l.cells p) rfl rfl))) hs)) hs15) ?_
  rintro _ w22 ⟨rfl, hs23⟩
  refine w_p (zAe (v := .tuple _) rfl rfl) rfl ?_
  refine w_p (zAq (v := .int _ _) rfl rfl rfl) rfl ?_
  refine w_p (zAq (v := .int _ _) rfl rfl rfl) rfl ?_
  refine w_p (zAc (v := .int _ _) rfl rfl) rfl ?_
  refine w_p (zAc (v := .int _ _) rfl rfl) rfl ?_
  refine zAf (zAd (hK19 _ _ ?_))
  refine zAg (fun K25 hK24 => ?_)
  refine zAy ?_
  refine zAg (fun K27 hK26 => ?_)
  refine zAb (w_p (zAe (v := .int _ _) rfl rfl) rfl ?_)
  refine w_p (zCc rfl rfl rfl rfl) rfl ?_
  refine w_p (zAc (v := .bool _) rfl rfl) rfl ?_
  refine zAf (zAd (hK26 _ _ ?_))
  refine zAz rfl rfl (fun h28 => ?_) (fun h28 => ?_)
  ·
   try simp only [zS] at h28
   refine zAg (fun K30 hK29 => ?_)
   refine zAb (w_p (zAe (v := .int _ _) rfl rfl) rfl ?_)
   refine w_p (zAe (v := .int _ _) rfl rfl) rfl ?_
   refine w_p (zAc (v := _) rfl rfl) rfl ?_
   refine w_p (zAc (v := .int _ _) rfl rfl) rfl ?_
   refine w_p (zAc (v := .int _ _) rfl rfl) rfl ?_
   refine zAf (zAd (hK29 _ _ ?_))
   refine zA2 (zA1 (zAm (zA3 (l := [.tmp 2, .tmp 3, .tmp 4]) (vs := [_, _, _]) rfl ⟨⟨rfl, (rfl : _ = Value.int _ _)⟩, ⟨rfl, (rfl : _ = Value.int _ _)⟩, ⟨rfl, (rfl : _ = Value.int _ _)⟩, trivial⟩ ?_)))
   try simp only [List.any_cons, List.any_nil, Bool.or_false, Bool.or_eq_false_iff] at h16 h28
   refine ⟨tup3 ?_, hs23.tail.tail⟩; unfold check failE
   try have e1 : ¬ ((6:Int) < (l.bunches.length : Int)) := by omega
   try have e2 : ¬ ((4:Int) < (l.counts.length : Int)) := by omega
   first
     | (simp [zCh, h16, h28, e1, e2]; done)
     | (simp [zCh, h16, h28, e1]; done)
     | (simp [zCh, h16, h28]; done)
  try simp only [zS] at h28
  refine zAg (fun K32 hK31 => ?_)
  refine zAb (w_p (zAh (o := 1) (i := 1) underlying26 rfl sizeOf23 rfl rfl rfl) rfl ?_)
  refine w_p (zAk isAgg23 hs23 rfl rfl (zAj (i := 1) (vs := [_]) rfl rfl)) rfl ?_
  refine w_p (zBd underlying23 rfl rfl) rfl ?_
  refine w_p (y_gtr rfl rfl rfl rfl) rfl ?_
  refine w_p (zAc (v := .bool _) rfl rfl) rfl ?_
  refine zAf (zAd (hK31 _ _ ?_))
  refine zAz rfl rfl (fun h33 => ?_) (fun h33 => ?_)
  ·
   try simp only [zS] at h33
   refine zAg (fun K35 hK34 => ?_)
   refine zAb (w_p (zAc (v := _) rfl rfl) rfl ?_)
   refine w_p (zAc (v := _) rfl rfl) rfl ?_
   refine w_p (zAc (v := _) rfl rfl) rfl ?_
   refine zAf (zAd (hK34 _ _ ?_))
   refine zA2 (zA1 (zAm (zA3 (l := [.tmp 2, .tmp 3, .tmp 4]) (vs := [_, _, _]) rfl ⟨⟨rfl, (rfl : _ = Value.int _ _)⟩, ⟨rfl, (rfl : _ = Value.int _ _)⟩, ⟨rfl, (rfl : _ = Value.int _ _)⟩, trivial⟩ ?_)))
   try simp only [List.any_cons, List.any_nil, Bool.or_false, Bool.or_eq_false_iff] at h16 h28 h33
   refine ⟨tup3 ?_, hs23.tail.tail⟩; unfold check failE
   try have e1 : ¬ ((6:Int) < (l.bunches.length : Int)) := by omega
   try have e2 : ¬ ((4:Int) < (l.counts.length : Int)) := by omega
   first
     | (simp [zCh, h16, h28, h33, e1, e2]; done)
     | (simp [zCh, h16, h28, h33, e1]; done)
     | (simp [zCh, h16, h28, h33]; done)
  try simp only [zS] at h33
  refine zAx (zAl (zAd (hK24 _ _ ?_)))
  refine zAg (fun K37 hK36 => ?_)
  refine zAb (w_p (zAh (o := 1) (i := 1) underlying26 rfl sizeOf23 rfl rfl rfl) rfl ?_)
  refine w_p (zAk isAgg23 hs23 rfl rfl (zAj (i := 1) (vs := [_]) rfl rfl)) rfl ?_
  refine zAt zAa call94 rfl rfl rfl rfl (c94 (F := _ :: ((b3, blk 26 (l.cells p)) :: F)) _ _ l.bunches hlb hm.b.cons.cons (.func (.func 95) #[] #[]) bunchE (fun i hi X w hs => zC4 call95 (c95 (F := X ++ (_ :: ((b3, blk 26 (l.cells p)) :: F))) i l.bunches[i] _ hs)) hs23) ?_
  rintro _ w39 ⟨rfl, hs40⟩
  refine w_p (zAe (v := .tuple _) rfl rfl) rfl ?_
  refine w_p (zAq (v := .int _ _) rfl rfl rfl) rfl ?_
  refine w_p (zAq (v := .int _ _) rfl rfl rfl) rfl ?_
  refine w_p (zAc (v := .int _ _) rfl rfl) rfl ?_
  refine w_p (zAc (v := .int _ _) rfl rfl) rfl ?_
  refine zAf (zAd (hK36 _ _ ?_))
  refine zAg (fun K42 hK41 => ?_)
  refine zAy ?_
  refine zAg (fun K44 hK43 => ?_)
  refine zAb (w_p (zAe (v := .int _ _) rfl rfl) rfl ?_)
  refine w_p (zCc rfl rfl rfl rfl) rfl ?_
  refine w_p (zAc (v := .bool _) rfl rfl) rfl ?_
  refine zAf (zAd (hK43 _ _ ?_))
  refine zAz rfl rfl (fun h45 => ?_) (fun h45 => ?_)
  ·
   try simp only [zS] at h45
   refine zAg (fun K47 hK46 => ?_)
   refine zAb (w_p (zAe (v := .int _ _) rfl rfl) rfl ?_)
   refine w_p (zAe (v := .int _ _) rfl rfl) rfl ?_
   refine w_p (zAc (v := _) rfl rfl) rfl ?_
   refine w_p (zAc (v := .int _ _) rfl rfl) rfl ?_
   refine w_p (zAc (v := .int _ _) rfl rfl) rfl ?_
   refine zAf (zAd (hK46 _ _ ?_))
   refine zA2 (zA1 (zAm (zA3 (l := [.tmp 2, .tmp 3, .tmp 4]) (vs := [_, _, _]) rfl ⟨⟨rfl, (rfl : _ = Value.int _ _)⟩, ⟨rfl, (rfl : _ = Value.int _ _)⟩, ⟨rfl, (rfl : _ = Value.int _ _)⟩, trivial⟩ ?_)))
   try simp only [List.any_cons, List.any_nil, Bool.or_false, Bool.or_eq_false_iff] at h16 h28 h33 h45
   refine ⟨tup3 ?_, hs40.tail.tail⟩; unfold check failE
   try have e1 : ¬ ((6:Int) < (l.bunches.length : Int)) := by omega
   try have e2 : ¬ ((4:Int) < (l.counts.length : Int)) := by omega
   first
     | (simp [zCh, h16, h28, h33, h45, e1, e2]; done)
     | (simp [zCh, h16, h28, h33, h45, e1]; done)
     | (simp [zCh, h16, h28, h33, h45]; done)
  try simp only [zS] at h45
  refine zAg (fun K49 hK48 => ?_)
  refine zAb (w_p (zAh (o := 2) (i := 2) underlying26 rfl sizeOf24 rfl rfl rfl) rfl ?_)
  refine w_p (zAk isAgg24 hs40 rfl rfl (zAj (i := 1) (vs := [_]) rfl rfl)) rfl ?_
  refine w_p (zBd underlying24 rfl rfl) rfl ?_
  refine w_p (y_gtr rfl rfl rfl rfl) rfl ?_
  refine w_p (zAc (v := .bool _) rfl rfl) rfl ?_
  refine zAf (zAd (hK48 _ _ ?_))
  refine zAz rfl rfl (fun h50 => ?_) (fun h50 => ?_)
  ·
   try simp only [zS] at h50
   refine zAg (fun K52 hK51 => ?_)
   refine zAb (w_p (zAc (v := _) rfl rfl) rfl ?_)
   refine w_p (zAc (v := _) rfl rfl) rfl ?_
   refine w_p (zAc (v := _) rfl rfl) rfl ?_
   refine zAf (zAd (hK51 _ _ ?_))
   refine zA2 (zA1 (zAm (zA3 (l := [.tmp 2, .tmp 3, .tmp 4]) (vs := [_, _, _]) rfl ⟨⟨rfl, (rfl : _ = Value.int _ _)⟩, ⟨rfl, (rfl : _ = Value.int _ _)⟩, ⟨rfl, (rfl : _ = Value.int _ _)⟩, trivial⟩ ?_)))
   try simp only [List.any_cons, List.any_nil, Bool.or_false, Bool.or_eq_false_iff] at h16 h28 h33 h45 h50
   refine ⟨tup3 ?_, hs40.tail.tail⟩; unfold check failE
   try have e1 : ¬ ((6:Int) < (l.bunches.length : Int)) := by omega
   try have e2 : ¬ ((4:Int) < (l.counts.length : Int)) := by omega
   first
     | (simp [zCh, h16, h28, h33, h45, h50, e1, e2]; done)
     | (simp [zCh, h16, h28, h33, h45, h50, e1]; done)
     | (simp [zCh, h16, h28, h33, h45, h50]; done)
  try simp only [zS] at h50
  refine zAx (zAl (zAd (hK41 _ _ ?_)))
  refine zAg (fun K54 hK53 => ?_)
  refine zAb (w_p (zAh (o := 2) (i := 2) underlying26 rfl sizeOf24 rfl rfl rfl) rfl ?_)
  refine w_p (zAk isAgg24 hs40 rfl rfl (zAj (i := 1) (vs := [_]) rfl rfl)) rfl ?_
  refine w_p (zB9 (fv := []) (cv := [_]) rfl rfl rfl rfl) rfl ?_
  refine zAt zAa call96 rfl rfl rfl rfl (c96 (F := _ :: ((b3, blk 26 (l.cells p)) :: F)) _ _ l.counts hlc hm.c.cons.cons (.func (.func 97) #[] #[.pointer (some ⟨b3, 0, none⟩)]) (countE l.bunches.length) (fun i hi X w hs => zC4 call97 (c97 (F := X ++ (_ :: ((b3, blk 26 (l.cells p)) :: F))) l p hm.cons.cons.app (by omega) i l.counts[i] _ _ (Ats.app (Ats.cons (zAj (i := 0) (vs := l.cells p) rfl rfl))) hs)) hs40) ?_
  rintro _ w56 ⟨rfl, hs57⟩
  refine w_p (zAe (v := .tuple _) rfl rfl) rfl ?_
  refine w_p (zAq (v := .int _ _) rfl rfl rfl) rfl ?_
  refine w_p (zAq (v := .int _ _) rfl rfl rfl) rfl ?_
  refine w_p (zAc (v := .int _ _) rfl rfl) rfl ?_
  refine w_p (zAc (v := .int _ _) rfl rfl) rfl ?_
  refine zAf (zAd (hK53 _ _ ?_))
  refine zAg (fun K59 hK58 => ?_)
  refine zAg (fun K61 hK60 => ?_)
  refine zAb (w_p (zAe (v := .int _ _) rfl rfl) rfl ?_)
  refine w_p (zCc rfl rfl rfl rfl) rfl ?_
  refine zAf (zAd (hK60 _ _ ?_))
  refine zAz rfl rfl (fun h62 => ?_) (fun h62 => ?_)
  ·
   try simp only [zS] at h62
   refine zAg (fun K64 hK63 => ?_)
   refine zAb (w_p (zAe (v := .int _ _) rfl rfl) rfl ?_)
   refine w_p (zAe (v := .int _ _) rfl rfl) rfl ?_
   refine w_p (zAc (v := _) rfl rfl) rfl ?_
   refine w_p (zAc (v := .int _ _) rfl rfl) rfl ?_
   refine w_p (zAc (v := .int _ _) rfl rfl) rfl ?_
   refine zAf (zAd (hK63 _ _ ?_))
   refine zA2 (zAm (zA3 (l := [.tmp 2, .tmp 3, .tmp 4]) (vs := [_, _, _]) rfl ⟨⟨rfl, (rfl : _ = Value.int _ _)⟩, ⟨rfl, (rfl : _ = Value.int _ _)⟩, ⟨rfl, (rfl : _ = Value.int _ _)⟩, trivial⟩ ?_))
   try simp only [List.any_cons, List.any_nil, Bool.or_false, Bool.or_eq_false_iff] at h16 h28 h33 h45 h50 h62
   refine ⟨tup3 ?_, hs57.tail.tail⟩; unfold check failE
   try have e1 : ¬ ((6:Int) < (l.bunches.length : Int)) := by omega
   try have e2 : ¬ ((4:Int) < (l.counts.length : Int)) := by omega
   first
     | (simp [zCh, h16, h28, h33, h45, h50, h62, e1, e2]; done)
     | (simp [zCh, h16, h28, h33, h45, h50, h62, e1]; done)
     | (simp [zCh, h16, h28, h33, h45, h50, h62]; done)
  try simp only [zS] at h62
  refine zAx (zAd (hK58 _ _ ?_))
  refine zAg (fun K66 hK65 => ?_)
  refine zAb (w_p (zAc (v := _) rfl rfl) rfl ?_)
  refine w_p (zAc (v := _) rfl rfl) rfl ?_
  refine w_p (zAc (v := _) rfl rfl) rfl ?_
  refine zAf (zAd (hK65 _ _ ?_))
  refine zA2 (zA3 (l := [.tmp 2, .tmp 3, .tmp 4]) (vs := [_, _, _]) rfl ⟨⟨rfl, (rfl : _ = Value.int _ _)⟩, ⟨rfl, (rfl : _ = Value.int _ _)⟩, ⟨rfl, (rfl : _ = Value.int _ _)⟩, trivial⟩ ?_)
  try simp only [List.any_cons, List.any_nil, Bool.or_false, Bool.or_eq_false_iff] at h16 h28 h33 h45 h50 h62
  refine ⟨tup3 ?_, hs57.tail.tail⟩; unfold check failE
  try have e1 : ¬ ((6:Int) < (l.bunches.length : Int)) := by omega
  try have e2 : ¬ ((4:Int) < (l.counts.length : Int)) := by omega
  first
    | (simp [zCh, h16, h28, h33, h45, h50, h62, e1, e2]; done)
    | (simp [zCh, h16, h28, h33, h45, h50, h62, e1]; done)
    | (simp [zCh, h16, h28, h33, h45, h50, h62]; done)

end Go.Proofs.Hn
/- Plain words of lists in their order, and of all sets of some numbers, for all layers. No conditions. -/
namespace Go.Rt
def hasI (l : List Int) (z : Int) : Bool := l.any fun y => decide (y = z)
theorem hasI_succ {l : List Int} {z : Int} {i : Nat} (hi : i < l.length) : hasI (l.take (i + 1)) z = (hasI (l.take i) z || decide (l[i] = z)) := by
  unfold hasI; rw [List.take_succ_eq_append_getElem hi, List.any_append]; simp
theorem hasI_mem {l : List Int} {z : Int} : hasI l z = true ↔ z ∈ l := by simp [hasI]
/-- The numbers below n that are not in a list. -/
def othersTo (l : List Int) : Nat → List Int
  | 0 => []
  | i + 1 => if hasI l i then othersTo l i else othersTo l i ++ [(i : Int)]
/-! ### The order of lists -/
theorem less_trans : ∀ (a b c : List Int), less a b = true → less b c = true → less a c = true
  | a, [], _, h, _ => by cases a <;> simp [less] at h
  | _, _ :: _, [], _, h => by simp [less] at h
  | [], _ :: _, _ :: _, _, _ => rfl
  | x :: a, y :: b, z :: c, h1, h2 => by
    simp only [less] at h1 h2 ⊢
    by_cases e1 : x = y
    · subst e1
      simp only [if_true] at h1
      by_cases e2 : x = z
      · subst e2; simp only [if_true] at h2 ⊢; exact less_trans a b c h1 h2
      · rw [if_neg e2] at h2 ⊢; exact h2
    · rw [if_neg e1] at h1
      by_cases e2 : y = z
      · subst e2; rw [if_neg e1]; exact h1
      · rw [if_neg e2] at h2
        simp only [decide_eq_true_eq] at h1 h2
        rw [if_neg (by omega)]; simp only [decide_eq_true_eq]; omega
/-! ### All lists of ascending numbers -/
def leastN (x : List Int) : Int := match x.getLast? with | none => 0 | some z => z + 1
def nextTo (x : List Int) (n : Nat) : List (List Int) := ((List.range n).filter fun q : Nat => decide (leastN x ≤ (q : Int))).map fun q : Nat => x ++ [(q : Int)]
def choices (below : Nat) : Nat → List (List Int)
  | 0 => [[]]
  | i + 1 => (choices below i).flatMap fun x => nextTo x below
def chTo (below i k : Nat) : List (List Int) := ((choices below i).take k).flatMap fun x => nextTo x below
theorem flat_le {α β : Type} {f : α → List β} {m : Nat} : ∀ (l : List α), (∀ x ∈ l, (f x).length ≤ m) → (l.flatMap f).length ≤ l.length * m
  | [], _ => by simp
  | a :: l, h => by
    rw [List.flatMap_cons, List.length_append, List.length_cons, Nat.succ_mul]
    have h1 := h a (.head _)
    have h2 := flat_le l fun x hx => h x (.tail _ hx)
    omega
/-! ### All sets of some numbers -/
def pickL (shops l : List Int) : List Int := l.map fun z => shops.getD z.toNat 0
def setsMany (shops : List Int) (many : Nat) : List (List Int) := (choices shops.length many).map (pickL shops)
def setsTo (shops : List Int) : Nat → List (List Int)
  | 0 => []
  | k + 1 => setsTo shops k ++ setsMany shops k
def setsL (shops : List Int) : List (List Int) := setsTo shops (shops.length + 1)
/-! ### Fewer, or as many that come before -/
namespace Ls
def before (a b : List Int) : Bool := decide (a.length < b.length) || (decide (a.length = b.length) && less a b)
theorem before_irrefl (a : List Int) : before a a = false := by simp [before, less_irrefl]
theorem before_trans {a b c : List Int} (h1 : before a b = true) (h2 : before b c = true) : before a c = true := by
  unfold before at *
  simp only [Bool.or_eq_true, Bool.and_eq_true, decide_eq_true_eq] at *
  rcases h1 with h1 | ⟨h1, h1'⟩ <;> rcases h2 with h2 | ⟨h2, h2'⟩
  · left; omega
  · left; omega
  · left; omega
  · right; exact ⟨by omega, less_trans _ _ _ h1' h2'⟩
end Ls
end Go.Rt
/- Plain laws of the hand layer: the first of the fewest. No conditions. -/
namespace Go.Rt.Ha
/-- What the program has after some sets. -/
structure FewS (do_ : Nat → Bool) (n k : Nat) (s : List Int × Bool) : Prop where
  no : s.2 = false → s.1 = [] ∧ ∀ b < k, do_ b = false
  yes : s.2 = true → ∃ b, b < k ∧ do_ b = true ∧ s.1 = listL b n ∧ ∀ c < k, do_ c = true → listL c n = s.1 ∨ before s.1 (listL c n) = true
end Go.Rt.Ha
/- Plain laws of the hand layer: grades as lists and as bits, spans, sums. No conditions. -/
namespace Go.Rt.Ha
theorem bit_iff (b j : Nat) : bit b j = 1 ↔ b.testBit j = true := by
  unfold bit Nat.testBit
  rw [Nat.and_comm 1, Nat.and_one_is_mod]
  have := Nat.mod_two_eq_zero_or_one (b >>> j)
  rcases this with h | h <;> rw [h] <;> simp
theorem one_shl (k : Nat) : 1 <<< k = 2 ^ k := by rw [Nat.shiftLeft_eq, Nat.one_mul]
theorem orG_test (gs : List Grade) (h : Int) (k : Nat) : ∀ ss : List Int, (orG gs h ss).testBit k = ss.any fun s => decide ((ofG gs 0 h s + 1).toNat = k)
  | [] => by simp [orG]
  | s :: ss => by rw [orG, Nat.testBit_or, orG_test gs h k ss, one_shl, Nat.testBit_two_pow, List.any_cons]
theorem ofG_range (h s : Int) : ∀ (gs : List Grade) (i : Int), 0 ≤ i → ofG gs i h s = -1 ∨ (i ≤ ofG gs i h s ∧ ofG gs i h s < i + gs.length)
  | [], _, _ => .inl rfl
  | g :: gs, i, hi => by
    unfold ofG
    split
    · right; simp only [List.length_cons]; omega
    · rcases ofG_range h s gs (i + 1) (by omega) with h | h
      · exact .inl h
      · right; simp only [List.length_cons]; omega
theorem ofG_ge (gs : List Grade) (h s : Int) : -1 ≤ ofG gs 0 h s := by rcases ofG_range h s gs 0 (by omega) with e | e <;> omega
/-- The reference's list of grades. -/
def gStep (gs : List Grade) (h : Int) (out : List Int) (s : Int) : List Int := if hasI out (ofG gs 0 h s) then out else out ++ [ofG gs 0 h s]
def gradesL (gs : List Grade) (h : Int) (ss : List Int) : List Int := ss.foldl (gStep gs h) []
theorem gStep_mem {gs : List Grade} {h : Int} {out : List Int} {s z : Int} : z ∈ gStep gs h out s ↔ z ∈ out ∨ ofG gs 0 h s = z := by
  unfold gStep
  split
  · rename_i hm
    rw [hasI_mem] at hm
    constructor
    · exact .inl
    · rintro (h | rfl)
      · exact h
      · exact hm
  · rw [List.mem_append, List.mem_singleton]
    constructor
    · rintro (h | rfl)
      · exact .inl h
      · exact .inr rfl
    · rintro (h | rfl)
      · exact .inl h
      · exact .inr rfl
theorem grades_mem {gs : List Grade} {h : Int} {z : Int} : ∀ (ss out : List Int), z ∈ ss.foldl (gStep gs h) out ↔ z ∈ out ∨ ∃ s ∈ ss, ofG gs 0 h s = z
  | [], out => by simp
  | s :: ss, out => by
    rw [List.foldl_cons, grades_mem ss, gStep_mem, or_assoc]
    simp
theorem gradesL_mem {gs : List Grade} {h : Int} {z : Int} {ss : List Int} : z ∈ gradesL gs h ss ↔ ∃ s ∈ ss, ofG gs 0 h s = z := by
  unfold gradesL; rw [grades_mem]; simp
theorem grades_has {gs : List Grade} {h g : Int} (hg : -1 ≤ g) (ss : List Int) : hasI (gradesL gs h ss) g = (orG gs h ss).testBit (g + 1).toNat := by
  rw [Bool.eq_iff_iff, hasI_mem, gradesL_mem, orG_test, List.any_eq_true]
  constructor
  · rintro ⟨s, hs, e⟩; exact ⟨s, hs, by simp [e]⟩
  · rintro ⟨s, hs, e⟩
    have := ofG_ge gs h s
    simp only [decide_eq_true_eq] at e
    exact ⟨s, hs, by omega⟩
/-- A bunch is of one grade only. -/
def onlyG (l : List Int) (g : Int) : Bool := decide (l.length = 1) && decide (l.getD 0 0 = g)
theorem orG_one {gs : List Grade} {h g : Int} {ss : List Int} (hne : ss ≠ []) (hg : -1 ≤ g) : orG gs h ss = 2 ^ (g + 1).toNat ↔ ∀ s ∈ ss, ofG gs 0 h s = g := by
  constructor
  · intro e s hs
    have h1 := orG_test gs h (ofG gs 0 h s + 1).toNat ss
    rw [e, Nat.testBit_two_pow] at h1
    have h2 : (ss.any fun q => decide ((ofG gs 0 h q + 1).toNat = (ofG gs 0 h s + 1).toNat)) = true := List.any_eq_true.2 ⟨s, hs, by simp⟩
    rw [h2] at h1
    have := ofG_ge gs h s
    simp only [decide_eq_true_eq] at h1
    omega
  · intro hall
    apply Nat.eq_of_testBit_eq
    intro k
    rw [orG_test, Nat.testBit_two_pow]
    obtain ⟨s, hs⟩ := List.exists_mem_of_ne_nil _ hne
    rw [Bool.eq_iff_iff, List.any_eq_true, decide_eq_true_eq]
    constructor
    · rintro ⟨q, hq, e⟩; rw [hall q hq] at e; simpa using e
    · intro e; exact ⟨s, hs, by rw [hall s hs]; simpa using e⟩
/-! ### Ways together -/
def scarsOf (l : Lot) (b : Nat) : List Int := spanL (bunchOf l b).slo (bunchOf l b).shi
def couldR (l : Lot) (ws : List (List Int)) (b : Nat) (g : Int) : Bool := ws.any fun h => hasI (gradesL l.grades (at_ h b) (scarsOf l b)) g
def mustR (l : Lot) (ws : List (List Int)) (b : Nat) (g : Int) : Bool := ws.all fun h => onlyG (gradesL l.grades (at_ h b) (scarsOf l b)) g
def gradeTo (l : Lot) (ws : List (List Int)) (b : Nat) : Nat → List Int
  | 0 => []
  | k + 1 => gradeTo l ws b k ++ if couldR l ws b ((k : Int) - 1) then [(k : Int) - 1] else []
/-! ### Spans -/
def spanR (b : Nat) : List (List Int) → Int × Int
  | [] => (0, 0)
  | h :: r => r.foldl (joinS b) (at_ h b, at_ h b)
end Go.Rt.Ha
/- Plain laws of the hand layer: lots that are, their ways, totals. No conditions. -/
namespace Go.Rt.Ha
structure Lot.Ok (l : Lot) : Prop where
  lg : 1 ≤ l.grades.length ∧ l.grades.length ≤ 4
  lb : l.bunches.length ≤ 6
  lc : l.counts.length ≤ 4
  grade : ∀ g ∈ l.grades, 1 ≤ g.hands ∧ g.hands ≤ 12 ∧ 0 ≤ g.scars ∧ g.scars ≤ 9
  bunch : ∀ b ∈ l.bunches, 1 ≤ b.lo ∧ b.lo ≤ b.hi ∧ b.hi ≤ 12 ∧ b.hi - b.lo ≤ 3 ∧ 0 ≤ b.slo ∧ b.slo ≤ b.shi ∧ b.shi ≤ 9
  count : ∀ c ∈ l.counts, 1 ≤ c.bits ∧ c.bits ≤ 2 ^ l.bunches.length - 1 ∧ 0 ≤ c.hands ∧ c.hands ≤ 72
theorem firstE_zero {α : Type} (err : List α → α → Int) : ∀ (l b : List α) (i : Int), (firstE err b i l).2 = 0 → ∀ k (h : k < l.length), err (b ++ l.take k) l[k] = 0
  | [], _, _, _, k, h => by simp at h
  | x :: l, b, i, h, k, hk => by
    unfold firstE at h
    by_cases he : err b x = 0
    · rw [if_pos he] at h
      match k with
      | 0 => simpa using he
      | k + 1 =>
        have := firstE_zero err l (b ++ [x]) (i + 1) h k (by simpa using hk)
        simpa using this
    · rw [if_neg he] at h
      exact absurd h he
theorem failE_zero {α : Type} {err : List α → α → Int} {lo most : Int} {l : List α} (h : (failE err lo most l).2 = 0) : (lo ≤ l.length ∧ (l.length : Int) ≤ most) ∧ ∀ k (h : k < l.length), err (l.take k) l[k] = 0 := by
  unfold failE at h
  split at h
  · cases h
  · rename_i ho
    unfold out at ho
    simp only [Bool.or_eq_true, decide_eq_true_eq, not_or] at ho
    exact ⟨by omega, fun k hk => by simpa using firstE_zero err l [] 0 h k hk⟩
theorem check_parts {l : Lot} (h : (check l).2.2 = 0) : (failE gradeE 1 4 l.grades).2 = 0 ∧ (failE bunchE 0 6 l.bunches).2 = 0 ∧ (failE (countE l.bunches.length) 0 4 l.counts).2 = 0 := by
  unfold check at h
  split at h
  · rename_i h1; exact absurd h h1
  · rename_i h1
    split at h
    · rename_i h2; exact absurd h h2
    · rename_i h2
      split at h
      · rename_i h3; exact absurd h h3
      · rename_i h3
        exact ⟨by omega, by omega, by omega⟩
theorem check_ok {l : Lot} (h : (check l).2.2 = 0) : l.Ok := by
  obtain ⟨h1, h2, h3⟩ := check_parts h
  have h1 := failE_zero h1
  have h2 := failE_zero h2
  have h3 := failE_zero h3
  refine ⟨by omega, by omega, by omega, fun g hg => ?_, fun b hb => ?_, fun c hc => ?_⟩
  · obtain ⟨k, hk, rfl⟩ := List.getElem_of_mem hg
    have := h1.2 k hk
    unfold gradeE out at this
    split at this
    · rename_i h; exact absurd this h
    · split at this
      · cases this
      · rename_i h
        simp only [Bool.or_eq_true, decide_eq_true_eq, not_or] at h
        omega
  · obtain ⟨k, hk, rfl⟩ := List.getElem_of_mem hb
    have := h2.2 k hk
    unfold bunchE out at this
    split at this
    · cases this
    · rename_i h
      simp only [Bool.or_eq_true, decide_eq_true_eq, not_or] at h
      split at this
      · cases this
      · rename_i h'
        simp only [Bool.or_eq_true, decide_eq_true_eq, not_or] at h'
        omega
  · obtain ⟨k, hk, rfl⟩ := List.getElem_of_mem hc
    have := h3.2 k hk
    unfold countE out at this
    split at this
    · cases this
    · rename_i h
      simp only [Bool.or_eq_true, decide_eq_true_eq, not_or] at h
      split at this
      · cases this
      · rename_i h'
        simp only [Bool.or_eq_true, decide_eq_true_eq, not_or] at h'
        omega
theorem upto_mem : ∀ (n : Nat) (lo z : Int), z ∈ upto lo n ↔ lo ≤ z ∧ z < lo + n
  | 0, lo, z => by simp [upto]
  | n + 1, lo, z => by
    rw [upto, List.mem_cons, upto_mem n (lo + 1) z]
    omega
theorem span_mem {lo hi z : Int} : z ∈ spanL lo hi ↔ lo ≤ z ∧ z ≤ hi := by
  unfold spanL; rw [upto_mem]; omega
theorem span_ne {lo hi : Int} (h : lo ≤ hi) : spanL lo hi ≠ [] := List.ne_nil_of_mem (span_mem.2 ⟨Int.le_refl lo, h⟩)
/-- What is felt. -/
theorem felt_in : ∀ (bs : List Bunch) (h : List Int), h ∈ felt bs ↔ h.length = bs.length ∧ ∀ i (hi : i < bs.length), bs[i].lo ≤ at_ h i ∧ at_ h i ≤ bs[i].hi
  | [], h => by simp [felt]
  | b :: bs, h => by
    simp only [felt, List.mem_flatMap, List.mem_map]
    constructor
    · rintro ⟨n, hn, r, hr, rfl⟩
      have ih := (felt_in bs r).1 hr
      refine ⟨by simp [ih.1], fun i hi => ?_⟩
      cases i with
      | zero => exact span_mem.1 hn
      | succ i => exact ih.2 i (by simpa using hi)
    · rintro ⟨h1, h2⟩
      cases h with
      | nil => simp at h1
      | cons n r =>
        refine ⟨n, span_mem.2 (h2 0 (by simp)), r, (felt_in bs r).2 ⟨by simpa using h1, fun i hi => h2 (i + 1) (by simpa using hi)⟩, rfl⟩
theorem way_felt {l : Lot} {but : Nat} {h : List Int} (hw : h ∈ ways l but) : h ∈ felt l.bunches := (List.mem_filter.1 hw).1
theorem bunch_at {l : Lot} {b : Nat} (h : b < l.bunches.length) : bunchOf l b = l.bunches[b] := by unfold bunchOf; simp [List.getD, h]
theorem way_at {l : Lot} (hok : l.Ok) {but : Nat} {h : List Int} (hw : h ∈ ways l but) {b : Nat} (hb : b < l.bunches.length) : 1 ≤ at_ h b ∧ at_ h b ≤ 12 ∧ (bunchOf l b).lo ≤ at_ h b ∧ at_ h b ≤ (bunchOf l b).hi := by
  have h1 := ((felt_in _ _).1 (way_felt hw)).2 b hb
  have h2 := hok.bunch _ (List.getElem_mem hb)
  rw [bunch_at hb]
  omega
theorem scars_ne {l : Lot} (hok : l.Ok) {b : Nat} (hb : b < l.bunches.length) : scarsOf l b ≠ [] := by
  have h2 := hok.bunch _ (List.getElem_mem hb)
  unfold scarsOf
  rw [bunch_at hb]
  exact span_ne h2.2.2.2.2.2.1
/-! ### Totals -/
def sumsR (l : Lot) (g : Int) (h : List Int) : Nat → Int × Int
  | 0 => (0, 0)
  | k + 1 => let s := sumsR l g h k; let z := gradesL l.grades (at_ h k) (scarsOf l k)
    if hasI z g then ((if z.length = 1 then s.1 + at_ h k else s.1), s.2 + at_ h k) else s
def totStepR (l : Lot) (g : Int) (s : Int × Int) (h : List Int) : Int × Int := (min (min s.1 (sumsR l g h l.bunches.length).1) (sumsR l g h l.bunches.length).2, max (max s.2 (sumsR l g h l.bunches.length).1) (sumsR l g h l.bunches.length).2)
def totalR (l : Lot) (g : Int) (ws : List (List Int)) : Int × Int := ws.foldl (totStepR l g) (72, 0)
end Go.Rt.Ha
/- Plain laws of the hand layer: Pick, Next and Wrong, as the reference has them. No conditions. -/
namespace Go.Rt.Ha
/-! ### Pick -/
/-- No grade from one to another. -/
def noneTo (l : Lot) (ws : List (List Int)) (b g : Nat) : Nat → Bool
  | 0 => !couldR l ws b (-1)
  | k + 1 => noneTo l ws b g k && !couldR l ws b ((g : Int) + 1 + k)
def fitR (l : Lot) (ws : List (List Int)) (g : Nat) : Nat → List Int
  | 0 => []
  | b + 1 => fitR l ws g b ++ if noneTo l ws b g (l.grades.length - (g + 1)) then [(b : Int)] else []
theorem fit_lt (l : Lot) (g : Nat) (ws : List (List Int)) : ∀ k, fitTo l g ws k < 2 ^ k
  | 0 => by simp [fitTo]
  | k + 1 => by
    have ih := fit_lt l g ws k
    simp only [fitTo]
    split
    · rw [Nat.pow_succ]; omega
    · refine Nat.or_lt_two_pow (by rw [Nat.pow_succ]; omega) ?_
      rw [one_shl]; exact Nat.pow_lt_pow_right (by omega) (by omega)
def leastR (ws : List (List Int)) (own : List Int) : Int := ws.foldl (fun s h => min s (someOf h own)) 72
def pickR (l : Lot) (g many : Int) : List Int × Int :=
  if enterE l (pickE l g many) ≠ 0 then ([], enterE l (pickE l g many)) else
  match (setsL (fitR l (ways l 0) g.toNat l.bunches.length)).find? fun own => decide (many ≤ leastR (ways l 0) own) with | some x => (x, 0) | none => ([], 9)
theorem zBz {l : Lot} {e : Int} (h : enterE l e = 0) : (check l).2.2 = 0 ∧ e = 0 ∧ ways l 0 ≠ [] := by
  unfold enterE at h
  split at h
  · rename_i h1; exact absurd h h1
  · rename_i h1
    split at h
    · rename_i h2; exact absurd h h2
    · rename_i h2
      split at h
      · cases h
      · rename_i h3; exact ⟨by omega, by omega, h3⟩
theorem idxE_zero {n : Int} {b : Nat} (h : idxE n b = 0) : 0 ≤ n ∧ n < b := by
  unfold idxE at h
  split at h
  · cases h
  · rename_i h1
    unfold out at h1
    simp only [Bool.or_eq_true, decide_eq_true_eq, not_or] at h1
    omega
theorem pickE_zero {l : Lot} {g many : Int} (h : pickE l g many = 0) : 0 ≤ g ∧ g < l.grades.length ∧ 0 ≤ many ∧ many ≤ 72 := by
  unfold pickE at h
  split at h
  · rename_i h1; exact absurd h h1
  · rename_i h1
    have := idxE_zero (n := g) (b := l.grades.length) (by omega)
    split at h
    · cases h
    · rename_i h2
      unfold out at h2
      simp only [Bool.or_eq_true, decide_eq_true_eq, not_or] at h2
      omega
/-! ### Wrong -/
def soR (but : List Int) (h : List Int) : Nat → List Count → Bool
  | _, [] => true
  | i, c :: l => (hasI but i || decide (counted c.bits.toNat 0 h = c.hands)) && soR but h (i + 1) l
def waysR (l : Lot) (but : List Int) : List (List Int) := (felt l.bunches).filter fun h => soR but h 0 l.counts
theorem list_has (b : Nat) (k : Nat) : ∀ n, k < n → hasI (listL b n) k = decide (bit b k = 1)
  | 0, h => by omega
  | n + 1, h => by
    have hz : ∀ m, ∀ z ∈ listL b m, z < (m : Int) := by
      intro m
      induction m with
      | zero => intro z hz; cases hz
      | succ m ih =>
        intro z hz
        rw [listL, List.mem_append] at hz
        rcases hz with h | h
        · have := ih z h; omega
        · split at h
          · rw [List.mem_singleton] at h; omega
          · cases h
    rw [listL]
    unfold hasI
    rw [List.any_append]
    by_cases e : k = n
    · subst e
      have : (listL b k).any (fun y => decide (y = (k : Int))) = false := by
        rw [List.any_eq_false]
        intro z hz'
        have := hz k z hz'
        simp only [decide_eq_true_eq]; omega
      rw [this, Bool.false_or]
      split
      · rename_i h; simp [h]
      · rename_i h; simp [h]
    · have ih := list_has b k n (by omega)
      unfold hasI at ih
      rw [ih]
      have : (if bit b n = 1 then [(n : Int)] else []).any (fun y => decide (y = (k : Int))) = false := by
        split
        · simp; omega
        · rfl
      rw [this, Bool.or_false]
theorem so_same (b n : Nat) (h : List Int) : ∀ (cs : List Count) (i : Nat), i + cs.length ≤ n → soR (listL b n) h i cs = soFrom b h i cs
  | [], _, _ => rfl
  | c :: cs, i, hi => by
    simp only [List.length_cons] at hi
    rw [soR, soFrom, so_same b n h cs (i + 1) (by omega), list_has b i n (by omega)]
theorem ways_same (l : Lot) (b : Nat) : waysR l (listL b l.counts.length) = ways l b := by
  unfold waysR ways
  congr 1
  funext h
  exact so_same b l.counts.length h l.counts 0 (by omega)
def choicesTo (n : Nat) : Nat → List (List Int)
  | 0 => []
  | k + 1 => choicesTo n k ++ choices n k
def wrongR (l : Lot) : List Int × Int := if (check l).2.2 ≠ 0 then ([], (check l).2.2) else
  match (choicesTo l.counts.length l.counts.length).find? fun x => !(waysR l x).isEmpty with | some x => (x, 0) | none => ((choices l.counts.length l.counts.length).getD 0 [], 0)
end Go.Rt.Ha
/- Plain laws of the hand layer: Hands, Grade, Total, Refused and Next, as the reference has them. No conditions. -/
namespace Go.Rt.Ha
structure SpanF (b : Nat) (ws : List (List Int)) (s : Int × Int) : Prop where
  all : ∀ h ∈ ws, s.1 ≤ at_ h b ∧ at_ h b ≤ s.2
  lo : ∃ h ∈ ws, at_ h b = s.1
  hi : ∃ h ∈ ws, at_ h b = s.2
def handsR (l : Lot) (b : Int) : (Int × Int) × Int := if enterE l (idxE b l.bunches.length) ≠ 0 then ((0, 0), enterE l (idxE b l.bunches.length)) else (spanR b.toNat (ways l 0), 0)
def gradeR (l : Lot) (b : Int) : List Int × Int := if enterE l (idxE b l.bunches.length) ≠ 0 then ([], enterE l (idxE b l.bunches.length)) else (gradeTo l (ways l 0) b.toNat (l.grades.length + 1), 0)
def totR (l : Lot) (g : Int) : (Int × Int) × Int := if enterE l (idxE g l.grades.length) ≠ 0 then ((0, 0), enterE l (idxE g l.grades.length)) else (totalR l g (ways l 0), 0)
def sureR (l : Lot) (ws : List (List Int)) : Nat → List Int
  | 0 => []
  | k + 1 => sureR l ws k ++ if mustR l ws k (-1) then [(k : Int)] else []
def mayR (l : Lot) (ws : List (List Int)) : Nat → List Int
  | 0 => []
  | k + 1 => mayR l ws k ++ if couldR l ws k (-1) then [(k : Int)] else []
def refusedR (l : Lot) : List Int × List Int × Int := if enterE l 0 ≠ 0 then ([], [], enterE l 0) else (sureR l (ways l 0) l.bunches.length, mayR l (ways l 0) l.bunches.length, 0)
def nextRTo (ws : List (List Int)) : Nat → Int × Int
  | 0 => (-1, 0)
  | k + 1 => let s := nextRTo ws k
    if (spanR k ws).1 < (spanR k ws).2 ∧ (s.1 < 0 ∨ leftW k ws < s.2) then ((k : Int), leftW k ws) else s
def nextR (l : Lot) : Int × Int × Int := if enterE l 0 ≠ 0 then (0, 0, enterE l 0) else if (nextRTo (ways l 0) l.bunches.length).1 < 0 then (0, 0, 9) else ((nextRTo (ways l 0) l.bunches.length).1, (nextRTo (ways l 0) l.bunches.length).2, 0)
end Go.Rt.Ha
/- Plain laws of the hand layer: Check as the reference has it; a lot that is told by a way. No conditions. -/
namespace Go.Rt.Ha
def bunchR (b : Bunch) : Int := if ends b.lo b.hi 1 12 = 7 ∨ ends b.slo b.shi 0 9 = 7 then 7 else if ends b.lo b.hi 1 12 ≠ 0 ∨ ends b.slo b.shi 0 9 ≠ 0 ∨ 3 < b.hi - b.lo then 2 else 0
theorem bunch_same (before : List Bunch) (b : Bunch) : bunchR b = bunchE before b := by
  unfold bunchR bunchE ends
  cases h1 : out 1 12 b.lo <;> cases h2 : out 1 12 b.hi <;> cases h3 : out 0 9 b.slo <;> cases h4 : out 0 9 b.shi <;> simp [out] <;> (repeat' split) <;> simp_all <;> omega
def allN : Nat → Int
  | 0 => 0
  | k + 1 => 2 * allN k + 1
theorem allN_eq : ∀ n, allN n = 2 ^ n - 1
  | 0 => by simp [allN]
  | n + 1 => by rw [allN, allN_eq n, Int.pow_succ]; omega
/-! ### A lot whose counts are those of a way -/
def toldC (h : List Int) (c : Count) : Count := { c with hands := counted c.bits.toNat 0 h }
def told (l : Lot) (h : List Int) : Lot := { l with counts := l.counts.map (toldC h) }
theorem counted_in (bits : Nat) : ∀ (h : List Int) (i : Nat), (∀ z ∈ h, 0 ≤ z ∧ z ≤ 12) → 0 ≤ counted bits i h ∧ counted bits i h ≤ 12 * h.length
  | [], _, _ => by simp [counted]
  | z :: h, i, hz => by
    have ih := counted_in bits h (i + 1) fun y hy => hz y (.tail _ hy)
    have := hz z (.head _)
    simp only [counted, List.length_cons]
    split <;> omega
theorem felt_num {l : Lot} (hok : l.Ok) {h : List Int} (hf : h ∈ felt l.bunches) : h.length = l.bunches.length ∧ ∀ z ∈ h, 1 ≤ z ∧ z ≤ 12 := by
  have h1 := (felt_in _ _).1 hf
  refine ⟨h1.1, fun z hz => ?_⟩
  obtain ⟨i, hi, rfl⟩ := List.getElem_of_mem hz
  have h2 := h1.2 i (by omega)
  have h3 := hok.bunch _ (List.getElem_mem (show i < l.bunches.length by omega))
  have e : at_ h i = h[i] := by unfold at_; simp [List.getD, hi]
  rw [e] at h2
  omega
end Go.Rt.Ha
/- Plain words of the hand layer: all ways, as they are yielded one after the other, filled up to six numbers. No conditions. -/
namespace Go.Rt.Ha
def pad6 (h : List Int) : List Int := h ++ List.replicate (6 - h.length) 0
theorem pad6_len {h : List Int} (hl : h.length ≤ 6) : (pad6 h).length = 6 := by simp [pad6]; omega
theorem pad6_inj {a b : List Int} (h : a.length = b.length) (e : pad6 a = pad6 b) : a = b := by
  unfold pad6 at e
  exact (List.append_inj e h).1
theorem counted_snoc (bits : Nat) (x : Int) : ∀ (l : List Int) (i : Nat), counted bits i (l ++ [x]) = counted bits i l + if bit bits (i + l.length) = 1 then x else 0
  | [], i => by simp [counted]
  | y :: l, i => by
    simp only [List.cons_append, counted, counted_snoc bits x l (i + 1), List.length_cons]
    rw [show i + 1 + l.length = i + (l.length + 1) by omega]; omega
theorem counted_pad (bits : Nat) (l : List Int) (i : Nat) : ∀ k, counted bits i (l ++ List.replicate k 0) = counted bits i l
  | 0 => by simp
  | k + 1 => by
    rw [List.replicate_succ', ← List.append_assoc, counted_snoc, counted_pad bits l i k]; simp
theorem so_pad (but : Nat) (h : List Int) : ∀ (cs : List Count) (i : Nat), soFrom but (pad6 h) i cs = soFrom but h i cs
  | [], i => rfl
  | c :: cs, i => by simp only [soFrom, so_pad but h cs (i + 1)]; unfold pad6; rw [counted_pad]
theorem counted_take {bits : Nat} {h : List Int} {b : Nat} (hb : b < h.length) : counted bits 0 (h.take (b + 1)) = counted bits 0 (h.take b) + h[b] * ((bit bits b : Nat) : Int) := by
  rw [List.take_succ_eq_append_getElem hb, counted_snoc]
  rw [List.length_take, Nat.min_eq_left (by omega), Nat.zero_add]
  have : bit bits b = 0 ∨ bit bits b = 1 := by unfold bit; have := Nat.and_lt_two_pow (x := bits >>> b) (y := 1) (n := 1) (by omega); omega
  rcases this with h | h <;> simp [h]
theorem counted_bound {bits : Nat} {h : List Int} (hh : ∀ z ∈ h, 0 ≤ z ∧ z ≤ 12) (b : Nat) (hl : h.length ≤ 6) : 0 ≤ counted bits 0 (h.take b) ∧ counted bits 0 (h.take b) ≤ 72 := by
  have := counted_in bits (h.take b) 0 (fun z hz => hh z (List.mem_of_mem_take hz))
  have h2 : (h.take b).length ≤ 6 := by rw [List.length_take]; omega
  omega
theorem so_no {but : Nat} {h : List Int} {cs : List Count} {i : Nat} (hi : i < cs.length) (hb : bit but i = 0) (hc : counted cs[i].bits.toNat 0 h ≠ cs[i].hands) : soFrom but h i (cs.drop i) = false := by
  rw [List.drop_eq_getElem_cons hi]; simp only [soFrom]; simp [hb, hc]
theorem so_yes {but : Nat} {h : List Int} {cs : List Count} {i : Nat} (hi : i < cs.length) (hc : bit but i = 1 ∨ counted cs[i].bits.toNat 0 h = cs[i].hands) : soFrom but h i (cs.drop i) = soFrom but h (i + 1) (cs.drop (i + 1)) := by
  rw [List.drop_eq_getElem_cons hi]; simp only [soFrom]
  rcases hc with h | h <;> simp [h]
theorem so_end {but : Nat} {h : List Int} {cs : List Count} {i : Nat} (hi : cs.length ≤ i) : soFrom but h i (cs.drop i) = true := by rw [List.drop_of_length_le hi]; rfl
theorem bit01 (b j : Nat) : bit b j = 0 ∨ bit b j = 1 := by unfold bit; have := Nat.and_lt_two_pow (x := b >>> j) (y := 1) (n := 1) (by omega); omega
/-! ### Ways that begin so -/
def segW (l : Lot) (but d : Nat) (pre : List Int) : List (List Int) := (((felt (l.bunches.drop d)).map (pre ++ ·)).filter fun h => soFrom but h 0 l.counts).map pad6
theorem seg_all (l : Lot) (but : Nat) : segW l but 0 [] = (ways l but).map pad6 := by simp [segW, ways]
theorem seg_leaf {l : Lot} {but d : Nat} {pre : List Int} (hd : l.bunches.length ≤ d) : segW l but d pre = if soFrom but pre 0 l.counts then [pad6 pre] else [] := by
  unfold segW; rw [List.drop_of_length_le hd]; simp only [felt, List.map_cons, List.append_nil, List.map_nil, List.filter_cons, List.filter_nil]; split <;> rfl
def restW (l : Lot) (but d : Nat) (pre : List Int) (xs : List Int) : List (List Int) := xs.flatMap fun x => segW l but (d + 1) (pre ++ [x])
theorem seg_node {l : Lot} {but d : Nat} {pre : List Int} (hd : d < l.bunches.length) : segW l but d pre = restW l but d pre (spanL l.bunches[d].lo l.bunches[d].hi) := by
  unfold segW restW
  rw [List.drop_eq_getElem_cons hd]
  simp only [felt, List.map_flatMap, List.filter_flatMap, List.map_map]
  congr 1; funext x
  unfold segW
  congr 3; funext h; simp
theorem rest_cons (l : Lot) (but d : Nat) (pre : List Int) (x : Int) (xs : List Int) : restW l but d pre (x :: xs) = segW l but (d + 1) (pre ++ [x]) ++ restW l but d pre xs := rfl
theorem upto_step {lo : Int} {k n : Nat} (h : k < n) : upto (lo + k) (n - k) = (lo + k) :: upto (lo + (k + 1 : Nat)) (n - (k + 1)) := by
  rw [show n - k = (n - (k + 1)) + 1 by omega, upto, show lo + (k : Int) + 1 = lo + (k + 1 : Nat) by omega]
/-! ### Each way once -/
theorem upto_nodup : ∀ (n : Nat) (lo : Int), (upto lo n).Nodup
  | 0, _ => by simp [upto]
  | n + 1, lo => by
    simp only [upto, List.nodup_cons]
    exact ⟨fun h => by have := (upto_mem n (lo + 1) lo).1 h; omega, upto_nodup n (lo + 1)⟩
theorem felt_nodup : ∀ bs : List Bunch, (felt bs).Nodup
  | [] => by simp [felt]
  | b :: bs => by
    have ih := felt_nodup bs
    have key : ∀ xs : List Int, xs.Nodup → (xs.flatMap fun n => (felt bs).map (n :: ·)).Nodup := by
      intro xs
      induction xs with
      | nil => intro _; simp
      | cons x xs ihx =>
        intro hn
        rw [List.nodup_cons] at hn
        rw [List.flatMap_cons, List.nodup_append]
        refine ⟨by unfold List.Nodup; rw [List.pairwise_map]; exact List.Pairwise.imp (fun h e => h (by simpa using e)) ih, ihx hn.2, ?_⟩
        intro a ha b hb hab
        obtain ⟨u, _, rfl⟩ := List.mem_map.1 ha
        obtain ⟨y, hy, hb⟩ := List.mem_flatMap.1 hb
        obtain ⟨v, _, rfl⟩ := List.mem_map.1 hb
        injection hab with h1 h2
        subst h1
        exact hn.1 hy
    exact key _ (upto_nodup _ _)
theorem ways_nodup (l : Lot) (but : Nat) : (ways l but).Nodup := (felt_nodup _).filter _
theorem way_len {l : Lot} {but : Nat} {h : List Int} (hw : h ∈ ways l but) : h.length = l.bunches.length := ((felt_in _ _).1 (way_felt hw)).1
theorem padw_nodup (l : Lot) (but : Nat) : ((ways l but).map pad6).Nodup := by
  have key : ∀ ws : List (List Int), (∀ h ∈ ws, h.length = l.bunches.length) → ws.Nodup → (ws.map pad6).Nodup := by
    intro ws
    induction ws with
    | nil => intro _ _; simp
    | cons x ws ih =>
      intro hl hn
      rw [List.nodup_cons] at hn
      rw [List.map_cons, List.nodup_cons]
      refine ⟨fun h => ?_, ih (fun h hh => hl h (.tail _ hh)) hn.2⟩
      obtain ⟨y, hy, he⟩ := List.mem_map.1 h
      have := pad6_inj ((hl y (.tail _ hy)).trans (hl x (.head _)).symm) he
      subst this
      exact hn.1 hy
  exact key _ (fun h hh => way_len hh) (ways_nodup l but)
theorem padw_len {l : Lot} (hok : l.Ok) {but : Nat} {h : List Int} (hw : h ∈ (ways l but).map pad6) : h.length = 6 ∧ ∀ z ∈ h, 0 ≤ z ∧ z ≤ 12 := by
  obtain ⟨x, hx, rfl⟩ := List.mem_map.1 hw
  have hl := way_len hx
  have h6 := hok.lb
  refine ⟨pad6_len (by omega), fun z hz => ?_⟩
  unfold pad6 at hz
  rcases List.mem_append.1 hz with h | h
  · have := (felt_num hok (way_felt hx)).2 z h; omega
  · have := (List.mem_replicate.1 h).2; omega
theorem pad6_at (h : List Int) (b : Nat) : (pad6 h).getD b 0 = at_ h b := by
  unfold pad6 at_
  by_cases hb : b < h.length
  · simp [List.getD, List.getElem?_append_left hb]
  · simp only [List.getD, List.getElem?_append_right (by omega : h.length ≤ b), List.getElem?_replicate]
    rw [List.getElem?_eq_none (by omega : h.length ≤ b)]
    split <;> rfl
theorem zero_notin {l : Lot} (hok : l.Ok) {but : Nat} (hn : 0 < l.bunches.length) : List.replicate 6 (0 : Int) ∉ (ways l but).map pad6 := by
  intro h
  obtain ⟨x, hx, he⟩ := List.mem_map.1 h
  have h1 := pad6_at x 0
  rw [he] at h1
  have h2 := way_at hok hx hn
  rw [← h1] at h2
  simp at h2
/-! ### Lists that are gone through -/
theorem zCu {α : Type} {l : List α} {i : Nat} {x : α} {r : List α} (h : l.drop i = x :: r) : i < l.length := by
  rcases Nat.lt_or_ge i l.length with h1 | h1
  · exact h1
  · rw [List.drop_of_length_le h1] at h; cases h
theorem drop_get {α : Type} {l : List α} {i : Nat} {x : α} {r : List α} (h : l.drop i = x :: r) : l[i]'(zCu h) = x := by
  rw [List.drop_eq_getElem_cons (zCu h)] at h
  injection h
theorem zCt {α : Type} {l : List α} {i : Nat} {x : α} {r : List α} (h : l.drop i = x :: r) : l.drop (i + 1) = r := by
  rw [List.drop_eq_getElem_cons (zCu h)] at h
  injection h
theorem drop_done {α : Type} {l : List α} {i : Nat} (hi : i ≤ l.length) (h : l.drop i = []) : i = l.length := by
  have := congrArg List.length h; simp at this; omega
theorem zCq {α : Type} {l : List α} {i : Nat} {x : α} {r : List α} (hn : l.Nodup) (h : l.drop i = x :: r) : x ∉ r := by
  have h1 : (l.drop i).Nodup := List.Sublist.nodup (List.drop_sublist _ _) hn
  rw [h, List.nodup_cons] at h1; exact h1.1
/-! ### Numbers set in a list of six -/
theorem cur_pad {cur pre : List Int} {d : Nat} (hl : cur.length = 6) (hp : pre.length = d) (hk : cur.take d = pre) (hz : ∀ j, d ≤ j → cur.getD j 0 = 0) : cur = pad6 pre := by
  apply List.ext_getElem?
  intro j
  unfold pad6
  subst hk
  have hpl : (cur.take d).length ≤ 6 := by simp; omega
  by_cases hj : j < d
  · by_cases h6 : j < 6
    · rw [List.getElem?_append_left (by simp; omega), List.getElem?_take, if_pos hj]
    · rw [List.getElem?_eq_none (by omega), List.getElem?_eq_none (by simp; omega)]
  · by_cases h6 : j < 6
    · rw [List.getElem?_append_right (by simp; omega), List.getElem?_replicate, if_pos (by simp at *; omega)]
      have := hz j (by omega)
      simpa [List.getD, show j < cur.length by omega] using this
    · rw [List.getElem?_eq_none (by omega), List.getElem?_eq_none (by simp; omega)]
theorem set_take {cur pre : List Int} {d : Nat} {x : Int} (hk : cur.take d = pre) (hd : d < cur.length) : (cur.set d x).take (d + 1) = pre ++ [x] := by
  rw [List.take_succ_eq_append_getElem (by simpa using hd), List.take_set_of_le (Nat.le_refl _), hk]; simp
theorem set_zero {cur : List Int} {d n : Nat} {x : Int} (hd : d < n) (hz : ∀ j, n ≤ j → cur.getD j 0 = 0) : ∀ j, n ≤ j → (cur.set d x).getD j 0 = 0 := by
  intro j hj
  have := hz j hj
  simp only [List.getD, List.getElem?_set_ne (show d ≠ j by omega)] at this ⊢; exact this
theorem zCm {cur pre : List Int} {d : Nat} {x : Int} (hk : cur.take (d + 1) = pre ++ [x]) (hp : pre.length = d) : cur.take d = pre := by
  have h := congrArg (List.take d) hk
  rw [List.take_take, Nat.min_eq_left (by omega)] at h
  rw [h, ← hp]; simp
end Go.Rt.Ha
/- The walking engine, part 12: ranges over functions that keep something of their own. No conditions. -/
namespace Go.Rt
open Go.RowKit
variable {r : Option Nat} {P : Program} {ops : Array Oper} {Q : Exit → Act → World → Prop} {rest : List Oper} {n : Nat} {ρ : Nat → Value} {ds : List Deferred} {w w0 : World} {L : List (Nat × Obj)}
/-- As Iter, for consumers of a kind. -/
def IterC (P : Program) (k : FuncId) (first captured : List Value) (xs : List Value) (w0 : World) (F : List (Nat × Obj)) (C : (Nat → List (Nat × Obj) → Prop) → (List (Nat × Obj) → Prop) → Prop) : Prop :=
  ∀ (J : Nat → List (Nat × Obj) → Prop) (Js : List (Nat × Obj) → Prop), C J Js → ∀ (yv : Value) (B X : List (Nat × Obj)) (w : World), (∃ f a b, yv = .func f a b) →
    (∀ i (hi : i < xs.length) B X w, J i B → St w0 w (X ++ (B ++ F)) → FCon P yv [xs[i]] w fun v w' => ∃ B', St w0 w' (X ++ (B' ++ F)) ∧ (v = .bool true ∧ J (i + 1) B' ∨ v = .bool false ∧ Js B')) →
    J 0 B → St w0 w (X ++ (B ++ F)) →
    Con P k (first ++ ([yv] ++ captured)) w fun _ w' => ∃ B', St w0 w' (X ++ (B' ++ F)) ∧ (J xs.length B' ∨ Js B')
/-- Consumers that have a memo in their keeping. -/
def ClsM (K : List (Nat × Obj) → Prop) (J : Nat → List (Nat × Obj) → Prop) (Js : List (Nat × Obj) → Prop) : Prop :=
  ∃ (J0 : Nat → List (Nat × Obj) → Prop) (Js0 : List (Nat × Obj) → Prop), (∀ i Bx, J i Bx ↔ ∃ B M, Bx = B ++ M ∧ K M ∧ J0 i B) ∧ ∀ Bx, Js Bx ↔ ∃ B M, Bx = B ++ M ∧ K M ∧ Js0 B
end Go.Rt
set_option maxRecDepth 20000
namespace Go.Proofs.Hn
open Go.Proofs.Tryz
open Go.Rt Go.Rt.Ha
attribute [local irreducible] WL WC Con Yd At Ats Sl Agree DW
theorem Try_HE_fb0 (x0 : Option Addr) (l0 c0 : Nat) (x1 : Option Addr) (l1 c1 : Nat) (x2 : Option Addr) (l2 c2 : Nat) (x3 : Int) (x4 : Option Nat) (w : World) : (Instr.build 141 [(0, .agg #[.slice x0 l0 c0, .slice x1 l1 c1, .slice x2 l2 c2]), (1, .int .i64 x3), (2, .map x4)].toArray).run Tryz.prog w = .ok (.agg #[.slice x0 l0 c0, .slice x1 l1 c1, .slice x2 l2 c2, .int .i64 x3, .map x4]) w := by kernel_rfl
/-- A lot that lies opened in memory. -/
structure LK (w0 : World) (F : List (Nat × Obj)) (l : Lot) (p : At3) (but lb mm : Nat) : Prop where
  i : LIn w0 F l p
  b : Ats w0 F lb 0 [.slice p.ag l.grades.length p.cg, .slice p.ab l.bunches.length p.cb, .slice p.ac l.counts.length p.cc, .int .i64 (but : Int), .map (some mm)]
  ok : l.Ok
  bt : but < 1000
theorem LK.mono {w0 : World} {F F' : List (Nat × Obj)} {l : Lot} {p : At3} {but lb mm : Nat} (h : LK w0 F l p but lb mm) (hs : ∀ w, St w0 w F' → St w0 w F) : LK w0 F' l p but lb mm := ⟨h.i.mono hs, h.b.mono hs, h.ok, h.bt⟩
theorem LK.cons {w0 : World} {F : List (Nat × Obj)} {x : Nat × Obj} {l : Lot} {p : At3} {but lb mm : Nat} (h : LK w0 F l p but lb mm) : LK w0 (x :: F) l p but lb mm := h.mono fun _ h => h.tail
theorem LK.app {w0 : World} {F B : List (Nat × Obj)} {l : Lot} {p : At3} {but lb mm : Nat} (h : LK w0 F l p but lb mm) : LK w0 (B ++ F) l p but lb mm := h.mono fun _ h => h.drop
theorem counted_takeD {bits : Nat} {h : List Int} {b : Nat} (hb : b < h.length) : counted bits 0 (h.take (b + 1)) = counted bits 0 (h.take b) + h.getD b 0 * ((bit bits b : Nat) : Int) := by
  rw [counted_take hb]; simp [List.getD, hb]
theorem mul_bit {a : Int} (bits b : Nat) (h0 : 0 ≤ a) (h1 : a ≤ 12) : 0 ≤ a * ((bit bits b : Nat) : Int) ∧ a * ((bit bits b : Nat) : Int) ≤ 12 := by
  rcases bit01 bits b with h | h <;> rw [h] <;> simp <;> omega
theorem getD_12 {h : List Int} (hh : ∀ z ∈ h, 0 ≤ z ∧ z ≤ 12) (b : Nat) : 0 ≤ h.getD b 0 ∧ h.getD b 0 ≤ 12 := by
  by_cases hb : b < h.length
  · simp only [List.getD, List.getElem?_eq_getElem hb, Option.getD_some]; exact hh _ (List.getElem_mem hb)
  · simp [List.getD, List.getElem?_eq_none (by omega : h.length ≤ b)]
theorem pow64 {n : Nat} (h : n ≤ 6) : (2:Int) ^ n ≤ 64 := by
  match n, h with
  | 0, _ => decide
  | 1, _ => decide
  | 2, _ => decide
  | 3, _ => decide
  | 4, _ => decide
  | 5, _ => decide
  | 6, _ => decide
theorem iv1 {a b : Int} (h : a = b) : [Value.int .i64 a] = [Value.int .i64 b] := by rw [h]
theorem iv2 {a b c d : Int} (h : a = b) (h2 : c = d) : [Value.int .i64 a, Value.int .i64 c] = [Value.int .i64 b, Value.int .i64 d] := by rw [h, h2]
theorem c81 {w0 w : World} {F : List (Nat × Obj)} (l : Lot) (p : At3) (but lb mm : Nat) (hk : LK w0 F l p but lb mm) (h : List Int) (h6 : h.length = 6) (hh : ∀ z ∈ h, 0 ≤ z ∧ z ≤ 12) (hs : St w0 w F) :
  Con Tryz.prog 81 [.pointer (some ⟨lb, 0, none⟩), ia h] w fun v w' => v = .bool (soFrom but h 0 l.counts) ∧ St w0 w' F := by
  refine zAw (n := 51) func81 rfl rfl (Nat.le_of_ble_eq_true rfl) ?_
  obtain ⟨ag, cg, ab, cb, ac, cc⟩ := p
  have hb := hk.b
  have hbt := hk.bt
  have hlg := hk.ok.lg
  have hlb := hk.ok.lb
  have hlc := hk.ok.lc
  refine zAg (fun K2 hK1 => ?_)
  refine zAb (w_boxI (l := _) zAa rfl rfl rfl hs (fun b3 w4 hs5 => ?_))
  refine w_p (zAc (v := _) rfl rfl) rfl ?_
  refine zAf (zAd (hK1 _ _ ?_))
  refine zAg (fun K7 hK6 => ?_)
  refine zAg (fun K9 hK8 => ?_)
  refine zAb (w_p (zAe (v := .pointer _) rfl rfl) rfl ?_)
  refine w_p (zBk rfl rfl) rfl ?_
  refine w_p (zAh (o := 0) (i := 0) underlying141 rfl sizeOf26 rfl rfl rfl) rfl ?_
  refine w_p (zAh (o := 2) (i := 2) underlying26 rfl sizeOf24 rfl rfl rfl) rfl ?_
  refine w_p (zAk isAgg24 hs5.tail rfl rfl (show Ats _ _ _ _ [_] from Ats.part hb 2 1)) rfl ?_
  refine w_p (zBd underlying24 rfl rfl) rfl ?_
  refine w_p (zAe (v := _) rfl rfl) rfl ?_
  refine zAf (zAd (hK8 _ _ ?_))
  refine zAy ?_
  refine zBp [4, 5, 6, 7, 8, 9, 16, 17, 18, 19, 20, 21, 22, 23, 24, 25, 26, 27, 28, 29, 30, 31, 32, 33, 34, 35, 36, 37, 38, 39, 40, 41, 42, 43, 44, 45, 46, 47, 48, 49, 50] [16] (fun k vs w => ∃ (i : Nat), vs = [.int .i64 i] ∧ i ≤ l.counts.length ∧ k = l.counts.length - i ∧ soFrom but h 0 l.counts = soFrom but h i (l.counts.drop i) ∧ St w0 w ((b3, blk 99 (iv h)) :: F)) (l.counts.length) ?_ ?_
  ·
   exact ⟨0, rfl, by omega, by omega, rfl, hs5⟩
  intro k vs μ w12 hI K11 hN10
  obtain ⟨i, rfl, hia, rfl, hinv, hs⟩ := hI
  refine zAg (fun K14 hK13 => ?_)
  refine zAb (w_p (zBt rfl rfl rfl rfl) rfl ?_)
  refine zAf (zAd (hK13 _ _ ?_))
  refine zAg (fun K16 hK15 => ?_)
  refine zAz rfl rfl (fun h17 => ?_) (fun h17 => ?_)
  ·
   try simp only [zS] at h17
   refine zAx (zAd (hK15 _ _ ?_))
   refine zAg (fun K19 hK18 => ?_)
   refine zAy ?_
   refine zAg (fun K21 hK20 => ?_)
   have hi2 : i < l.counts.length := by omega
   obtain ⟨bx, ox, hbx, hx⟩ := sl_crows hk.i.c hi2
   subst hbx
   have hcx := hk.ok.count _ (List.getElem_mem hi2)
   have hp63 := pow64 hlb
   have hb01 := bit01 but i
   refine zAb (w_p (zAe (v := .int _ _) rfl rfl) rfl ?_)
   refine w_p (zA7 underlying24 sizeOf63 rfl rfl rfl rfl (i := _) rfl (by omega)) rfl ?_
   refine w_p (zA6 (vs := [_, _]) isAgg63 sizeOf63 hs.tail rfl rfl hx) rfl ?_
   refine zA9 (cs := [_, _]) zAa zeroValue63 rfl hs (fun b22 w23 hs24 => ?_)
   refine w_p (zAc (v := .int _ _) rfl rfl) rfl ?_
   refine zA5 (i := 0) (v := .agg #[.int _ _, .int _ _]) (vs := [_, _]) zAa sizeOf63 rfl rfl rfl rfl rfl (by simp [Value.oneCell']) hs24 rfl (Nat.le_of_ble_eq_true rfl) (fun w25 hs26 => ?_)
   refine zAf (zAd (hK20 _ _ ?_))
   refine zAg (fun K28 hK27 => ?_)
   refine zAb (w_p (zAc (v := _) rfl rfl) rfl ?_)
   refine zAf (zAd (hK27 _ _ ?_))
   refine zAg (fun K30 hK29 => ?_)
   refine zAg (fun K32 hK31 => ?_)
   refine zAb (w_p (zB4 (i := 1) isAgg99 sizeOf99 (by first | omega | rfl | (simp only [h6, List.length_map, List.length_set, List.length_append, List.length_take, List.length_drop, List.length_replicate, List.length_cons, List.length_nil] <;> omega)) hs26 rfl rfl rfl) rfl ?_)
   refine w_p (zAe (v := _) rfl rfl) rfl ?_
   refine zAf (zAd (hK31 _ _ ?_))
   refine zAy ?_
   refine zBp [7, 8, 9, 22, 23, 24, 25, 26, 27, 28, 29, 30, 31, 32, 33, 34, 35] [7, 22] (fun k vs w => ∃ (b : Nat), vs = [.int .i64 (counted (l.counts[i]'hi2).bits.toNat 0 (h.take b)), .int .i64 b] ∧ b ≤ 6 ∧ k = 6 - b ∧ St w0 w ((b22, blk 63 (Count.cells (l.counts[i]'hi2))) :: (b3, blk 99 (iv h)) :: F)) (6) ?_ ?_
   ·
    exact ⟨0, rfl, by omega, by omega, hs26⟩
   intro k vs μ w35 hI K34 hN33
   obtain ⟨b, rfl, hba, rfl, hs⟩ := hI
   refine zAg (fun K37 hK36 => ?_)
   refine zAb (w_p (zBt rfl rfl rfl rfl) rfl ?_)
   refine zAf (zAd (hK36 _ _ ?_))
   refine zAg (fun K39 hK38 => ?_)
   refine zAz rfl rfl (fun h40 => ?_) (fun h40 => ?_)
   ·
    try simp only [zS] at h40
    refine zAx (zAd (hK38 _ _ ?_))
    refine zAg (fun K42 hK41 => ?_)
    refine zAy ?_
    refine zAg (fun K44 hK43 => ?_)
    have hb6 : b < 6 := by omega
    refine zAb (w_p (zAe (v := .int _ _) rfl rfl) rfl ?_)
    refine w_p (y_indexV (i := b) underlying99 underlying3 sizeOf3 rfl rfl rfl rfl rfl rfl (by omega) (by first | omega | rfl | (simp only [h6, List.length_map, List.length_set, List.length_append, List.length_take, List.length_drop, List.length_replicate, List.length_cons, List.length_nil] <;> omega))) rfl ?_
    refine w_p (zAc (v := .int _ _) rfl rfl) rfl ?_
    refine w_p (zAc (v := .int _ _) rfl rfl) rfl ?_
    refine zAf (zAd (hK43 _ _ ?_))
    have hcb := counted_bound (bits := (l.counts[i]'hi2).bits.toNat) hh b (by omega)
    have hg := getD_12 hh b
    have hmb := mul_bit (l.counts[i]'hi2).bits.toNat b hg.1 hg.2
    refine zAb (w_p (zAe (v := .int _ _) rfl rfl) rfl ?_)
    refine w_p (zAe (v := .int _ _) rfl rfl) rfl ?_
    refine w_p (zAh (o := 0) (i := 0) underlying63 rfl sizeOf3 rfl rfl rfl) rfl ?_
    refine w_p (zAk isAgg3 hs rfl rfl (zAj (i := 0) (vs := [_]) rfl rfl)) rfl ?_
    refine w_p (zAe (v := .int _ _) rfl rfl) rfl ?_
    refine w_p (y_shr (x := (l.counts[i]'hi2).bits.toNat) (y := b) rfl rfl rfl rfl (by first | rfl | omega) (by first | rfl | omega) (by first | omega | exact zB8 (by omega))) rfl ?_
    refine w_p (show Yd _ _ _ _ (.int .i64 ((bit (l.counts[i]'hi2).bits.toNat b : Nat) : Int)) from (y_and (x := _) (y := 1) rfl rfl rfl rfl rfl rfl (by first | omega | exact zB8 (by omega)) (by first | omega | exact zB8 (by omega)))) rfl ?_
    refine w_p (y_mul rfl rfl rfl rfl (by omega) (by omega)) rfl ?_
    refine w_p (zBf rfl rfl rfl rfl (by omega) (by omega)) rfl ?_
    refine w_p (zAc (v := .int _ _) rfl rfl) rfl ?_
    refine zAf (zAl (zAd (hK41 _ _ ?_)))
    refine zAb (w_p (zBf rfl rfl rfl rfl (by omega) (by omega)) rfl ?_)
    refine w_p (zAe (v := .int _ _) rfl rfl) rfl ?_
    refine zAf (zAd (hN33 _ _ (Nx.intro (6 - (b + 1)) (by omega) (by repeat (first | exact zAv | refine zAu rfl ?_ | refine zAs rfl ?_ _ | refine zAr rfl ?_)) ?_)))
    exact ⟨b + 1, iv2 (counted_takeD (by omega)).symm rfl, by omega, rfl, hs⟩
   try simp only [zS] at h40
   refine zBl (zAo (zAo (zA4 (zAd (hK29 _ _ ?_)))))
   refine zAg (fun K46 hK45 => ?_)
   have hct : counted (l.counts[i]'hi2).bits.toNat 0 (h.take b) = counted (l.counts[i]'hi2).bits.toNat 0 h := by rw [List.take_of_length_le (by omega)]
   refine zAb (w_p (zAe (v := .pointer _) rfl rfl) rfl ?_)
   refine w_p (zBk rfl rfl) rfl ?_
   refine w_p (zAh (o := 3) (i := 1) underlying141 rfl sizeOf3 rfl rfl rfl) rfl ?_
   refine w_p (zAk isAgg3 hs.tail.tail rfl rfl (show Ats _ _ _ _ [_] from Ats.part hb 3 1)) rfl ?_
   refine w_p (zAe (v := .int _ _) rfl rfl) rfl ?_
   refine w_p (y_shr (x := but) (y := i) rfl rfl rfl rfl (by first | rfl | omega) (by first | rfl | omega) (by first | omega | exact zB8 (by omega))) rfl ?_
   refine w_p (show Yd _ _ _ _ (.int .i64 ((bit but i : Nat) : Int)) from (y_and (x := _) (y := 1) rfl rfl rfl rfl rfl rfl (by first | omega | exact zB8 (by omega)) (by first | omega | exact zB8 (by omega)))) rfl ?_
   refine w_p (zBy rfl rfl rfl rfl) rfl ?_
   refine w_p (zAe (v := .bool _) rfl rfl) rfl ?_
   refine zBi (fun h47 => ?_) (fun h47 => ?_)
   ·
    try simp only [zS] at h47
    refine w_y rfl rfl rfl (zAe (v := .int _ _) rfl rfl) rfl ?_
    refine w_y rfl rfl rfl (zAh (o := 1) (i := 1) underlying63 rfl sizeOf3 rfl rfl rfl) rfl ?_
    refine w_y rfl rfl rfl (zAk isAgg3 hs rfl rfl (zAj (i := 0) (vs := [_]) rfl rfl)) rfl ?_
    refine w_y rfl rfl rfl (zCc rfl rfl rfl rfl) rfl ?_
    refine w_p (zA0 (v := .bool _) rfl rfl rfl rfl) rfl ?_
    refine zAf (zAd (hK45 _ _ ?_))
    refine zAz rfl rfl (fun h48 => ?_) (fun h48 => ?_)
    ·
     try simp only [zS] at h48
     refine zAg (fun K50 hK49 => ?_)
     refine zAb (w_p (zAc (v := _) rfl rfl) rfl ?_)
     refine zAf (zAd (hK49 _ _ ?_))
     refine zA2 (zA1 (zAm (zAm (zA1 (zAm (zA3 (l := [.tmp 4]) (vs := [_]) rfl ⟨⟨rfl, (rfl : _ = Value.bool _)⟩, trivial⟩ ?_))))))
     first
       | exact ⟨congrArg Value.bool (hinv.trans (so_no hi2 (by omega) (by omega))).symm, hs.tail.tail⟩
       | exact ⟨congrArg Value.bool (hinv.trans (so_end (by omega))).symm, hs.tail.tail⟩
    try simp only [zS] at h48
    refine zAx (zAl (zAd (hK18 _ _ ?_)))
    refine zAb (w_p (zBf rfl rfl rfl rfl (by omega) (by omega)) rfl ?_)
    refine w_p (zAe (v := .int _ _) rfl rfl) rfl ?_
    refine zAf (zAd (hN10 _ _ (Nx.intro (l.counts.length - (i + 1)) (by omega) (by repeat (first | exact zAv | refine zAu rfl ?_ | refine zAs rfl ?_ _ | refine zAr rfl ?_)) ?_)))
    exact ⟨i + 1, rfl, by omega, rfl, hinv.trans (so_yes hi2 (by omega)), hs.tail⟩
   try simp only [zS] at h47
   refine zAi rfl rfl rfl ?_
   refine zAi rfl rfl rfl ?_
   refine zAi rfl rfl rfl ?_
   refine zAi rfl rfl rfl ?_
   refine w_p (zBb (v := _) rfl rfl rfl rfl) rfl ?_
   refine zAf (zAd (hK45 _ _ ?_))
   refine zB0 rfl rfl ?_
   refine zAx (zAl (zAd (hK18 _ _ ?_)))
   refine zAb (w_p (zBf rfl rfl rfl rfl (by omega) (by omega)) rfl ?_)
   refine w_p (zAe (v := .int _ _) rfl rfl) rfl ?_
   refine zAf (zAd (hN10 _ _ (Nx.intro (l.counts.length - (i + 1)) (by omega) (by repeat (first | exact zAv | refine zAu rfl ?_ | refine zAs rfl ?_ _ | refine zAr rfl ?_)) ?_)))
   exact ⟨i + 1, rfl, by omega, rfl, hinv.trans (so_yes hi2 (by omega)), hs.tail⟩
  try simp only [zS] at h17
  refine zBl (zAo (zAo (zA4 (zAd (hK6 _ _ ?_)))))
  refine zAg (fun K52 hK51 => ?_)
  refine zAb (w_p (zAc (v := _) rfl rfl) rfl ?_)
  refine zAf (zAd (hK51 _ _ ?_))
  refine zA2 (zA3 (l := [.tmp 4]) (vs := [_]) rfl ⟨⟨rfl, (rfl : _ = Value.bool _)⟩, trivial⟩ ?_)
  first
    | exact ⟨congrArg Value.bool (hinv.trans (so_no hi2 (by omega) (by omega))).symm, hs.tail⟩
    | exact ⟨congrArg Value.bool (hinv.trans (so_end (by omega))).symm, hs.tail⟩

theorem c68 {w0 w : World} {F : List (Nat × Obj)} (l : Lot) (p : At3) (but : Nat) (hs : St w0 w F) :
  Con Tryz.prog 68 [.agg (l.cells p).toArray, .int .i64 (but : Int)] w fun v w' => ∃ lb mm, v = .pointer (some ⟨lb, 0, none⟩) ∧ St w0 w' ((lb, blk 141 [.slice p.ag l.grades.length p.cg, .slice p.ab l.bunches.length p.cb, .slice p.ac l.counts.length p.cc, .int .i64 (but : Int), .map (some mm)]) :: (mm, .map #[] 0) :: F) := by
  refine zAw (n := 10) func68 rfl rfl (Nat.le_of_ble_eq_true rfl) ?_
  refine zAg (fun K2 hK1 => ?_)
  refine zAb (zB3 (v := .agg #[.slice _ _ _, .slice _ _ _, .slice _ _ _]) (cs := [_, _, _]) zAa rfl rfl rfl hs (fun b3 w4 hs5 => ?_))
  refine w_p (zAc (v := _) rfl rfl) rfl ?_
  refine zAf (zAd (hK1 _ _ ?_))
  refine zAg (fun K7 hK6 => ?_)
  refine zAb (w_p (zA6 (vs := [_, _, _]) isAgg26 sizeOf26 hs5 rfl rfl (zAj (i := 0) (vs := [_, _, _]) rfl rfl)) rfl ?_)
  refine w_p (zAe (v := .int _ _) rfl rfl) rfl ?_
  refine w_makeMap zAa hs5 (fun b8 w9 hs10 => ?_)
  refine w_p (zBs (ps := [(0, _), (1, _), (2, _)]) (pv := [(0, .agg #[.slice _ _ _, .slice _ _ _, .slice _ _ _]), (1, .int _ _), (2, .map _)]) rfl rfl (fun w => Try_HE_fb0 _ _ _ _ _ _ _ _ _ _ _ w)) rfl ?_
  refine zB3 (v := .agg #[.slice _ _ _, .slice _ _ _, .slice _ _ _, .int _ _, .map _]) (cs := [_, _, _, _, _]) zAa rfl rfl rfl hs10 (fun b11 w12 hs13 => ?_)
  refine w_p (zAc (v := .pointer _) rfl rfl) rfl ?_
  refine zAf (zAd (hK6 _ _ ?_))
  refine zA2 (zA3 (l := [.tmp 4]) (vs := [_]) rfl ⟨⟨rfl, show _ = (.pointer _ : Value) from rfl⟩, trivial⟩ ?_)
  exact ⟨_, _, rfl, (St.perm (L := [_, _, _] ++ F) hs13 (zBe [_, _] [_] F)).tail⟩

end Go.Proofs.Hn
set_option maxRecDepth 20000
namespace Go.Proofs.Hn
open Go.Proofs.Tryz
open Go.Rt Go.Rt.Ha
attribute [local irreducible] WL WC Con Yd At Ats Sl Agree DW
theorem Try_flat99 : flatInts Tryz.prog 99 6 = true := by kernel_rfl
def NextC (l : Lot) (but lb bp bh bla bs bY bn : Nat) (Ls : List (List Int)) (J : Nat → List (Nat × Obj) → Prop) (Js : List (Nat × Obj) → Prop) (yv : Value) (w0 : World) (F : List (Nat × Obj)) (rem : Nat) : Prop :=
  ∀ (d : Nat) (pre cur last : List Int) (i : Nat) (R : List (List Int)) (B X : List (Nat × Obj)) (w : World), d + rem = l.bunches.length → pre.length = d → cur.length = 6 → (∀ z ∈ cur, 0 ≤ z ∧ z ≤ 12) → cur.take d = pre → (∀ j, l.bunches.length ≤ j → cur.getD j 0 = 0) → i ≤ Ls.length →
    Ls.drop i = segW l but d pre ++ R → last.length = 6 → (0 < l.bunches.length → last ∉ Ls.drop i) → J i B → St w0 w ((bn, blk 123 [.func (.func 82) #[] #[.pointer (some ⟨bp, 0, none⟩), .pointer (some ⟨bh, 0, none⟩), .pointer (some ⟨bla, 0, none⟩), .pointer (some ⟨bs, 0, none⟩), .pointer (some ⟨bY, 0, none⟩), .pointer (some ⟨bn, 0, none⟩)]]) :: (bla, blk 99 (iv last)) :: (bh, blk 99 (iv cur)) :: (bs, blk 138 [.func (.func 81) #[.pointer (some ⟨lb, 0, none⟩)] #[]]) :: (bY, blk 138 [yv]) :: (X ++ (B ++ F))) →
    Con Tryz.prog 82 [.int .i64 (d : Int), .pointer (some ⟨bp, 0, none⟩), .pointer (some ⟨bh, 0, none⟩), .pointer (some ⟨bla, 0, none⟩), .pointer (some ⟨bs, 0, none⟩), .pointer (some ⟨bY, 0, none⟩), .pointer (some ⟨bn, 0, none⟩)] w fun v w' => ∃ (cur' last' : List Int) (B' : List (Nat × Obj)), cur'.length = 6 ∧ (∀ z ∈ cur', 0 ≤ z ∧ z ≤ 12) ∧ last'.length = 6 ∧ cur'.take d = pre ∧ (∀ j, l.bunches.length ≤ j → cur'.getD j 0 = 0) ∧ St w0 w' ((bn, blk 123 [.func (.func 82) #[] #[.pointer (some ⟨bp, 0, none⟩), .pointer (some ⟨bh, 0, none⟩), .pointer (some ⟨bla, 0, none⟩), .pointer (some ⟨bs, 0, none⟩), .pointer (some ⟨bY, 0, none⟩), .pointer (some ⟨bn, 0, none⟩)]]) :: (bla, blk 99 (iv last')) :: (bh, blk 99 (iv cur')) :: (bs, blk 138 [.func (.func 81) #[.pointer (some ⟨lb, 0, none⟩)] #[]]) :: (bY, blk 138 [yv]) :: (X ++ (B' ++ F))) ∧
      ((v = .bool true ∧ ∃ i', i' ≤ Ls.length ∧ Ls.drop i' = R ∧ (0 < l.bunches.length → last' ∉ R) ∧ J i' B') ∨ (v = .bool false ∧ Js B'))
theorem zBj {Ls R : List (List Int)} {cur : List Int} {i : Nat} {b : Bool} (hpos : Ls.drop i = (if b = true then [cur] else []) ++ R) (h : b = false) : Ls.drop i = R := by rw [hpos, h]; rfl
theorem leaf_some {Ls R : List (List Int)} {cur : List Int} {i : Nat} {b : Bool} (hpos : Ls.drop i = (if b = true then [cur] else []) ++ R) (h : b = true) : Ls.drop i = cur :: R := by rw [hpos, h]; rfl
theorem zCn {Ls R : List (List Int)} {cur last : List Int} {i : Nat} {b : Bool} (hpos : Ls.drop i = (if b = true then [cur] else []) ++ R) (hl : last ∉ Ls.drop i) (h : cur = last) : b = false := by
  cases hb : b with
  | false => rfl
  | true => exact absurd (by rw [leaf_some hpos hb, h]; exact .head _) hl
theorem fr6 {w0 w : World} {R : List (Nat × Obj)} {a b c e f g : Nat × Obj} (hs : St w0 w (a :: b :: c :: e :: f :: g :: R)) : St w0 w (b :: c :: e :: f :: g :: a :: R) := hs.perm (zBe [a] [b, c, e, f, g] R)
theorem bk6 {w0 w : World} {R : List (Nat × Obj)} {a b c e f g : Nat × Obj} (hs : St w0 w (b :: c :: e :: f :: g :: a :: R)) : St w0 w (a :: b :: c :: e :: f :: g :: R) := hs.perm (zBe [b, c, e, f, g] [a] R)
theorem set_12 {cur : List Int} {d : Nat} {x : Int} (h : ∀ z ∈ cur, 0 ≤ z ∧ z ≤ 12) (h0 : 0 ≤ x) (h1 : x ≤ 12) : ∀ z ∈ cur.set d x, 0 ≤ z ∧ z ≤ 12 := by
  intro z hz
  rcases List.mem_or_eq_of_mem_set hz with hz | rfl
  · exact h z hz
  · exact ⟨h0, h1⟩
theorem rest_next {l : Lot} {but d : Nat} {pre : List Int} {lo : Int} {q n : Nat} (h : q < n) : restW l but d pre (upto (lo + q) (n - q)) = segW l but (d + 1) (pre ++ [lo + q]) ++ restW l but d pre (upto (lo + (q + 1 : Nat)) (n - (q + 1))) := by rw [upto_step h, rest_cons]
theorem rest_done {l : Lot} {but d : Nat} {pre : List Int} {lo : Int} {q n : Nat} (h : n ≤ q) : restW l but d pre (upto (lo + q) (n - q)) = [] := by rw [show n - q = 0 by omega]; rfl
theorem c82 {w0 : World} {F : List (Nat × Obj)} (l : Lot) (p : At3) (but lb mm : Nat) (hk : LK w0 F l p but lb mm)  (bp bh bla bs bY bn : Nat) (h1 : Ats w0 F bp 0 [.pointer (some ⟨lb, 0, none⟩)]) (Ls : List (List Int)) (hnd : Ls.Nodup) (J : Nat → List (Nat × Obj) → Prop) (Js : List (Nat × Obj) → Prop) (yv : Value) (hy : ∀ (i : Nat) (x : List Int) (R : List (List Int)) (B X : List (Nat × Obj)) (w : World), Ls.drop i = x :: R → J i B → St w0 w (X ++ (B ++ F)) → FCon Tryz.prog yv [ia x] w fun v w' => ∃ B', St w0 w' (X ++ (B' ++ F)) ∧ (v = .bool true ∧ J (i + 1) B' ∨ v = .bool false ∧ Js B')) (rem : Nat) (ih : ∀ r, rem = r + 1 → NextC l but lb bp bh bla bs bY bn Ls J Js yv w0 F r) : NextC l but lb bp bh bla bs bY bn Ls J Js yv w0 F rem := by
  intro d pre cur last i R B X w hdr hpl hcl hcr hkt hz hi hpos hll hlast hJ hs
  obtain ⟨ag, cg, ab, cb, ac, cc⟩ := p
  have hb := hk.b
  have hlb := hk.ok.lb
  refine zAw (n := 61) func82 rfl rfl (Nat.le_of_ble_eq_true rfl) ?_
  refine zAg (fun K2 hK1 => ?_)
  refine zAb (w_p (zAc (v := _) rfl rfl) rfl ?_)
  refine zAf (zAd (hK1 _ _ ?_))
  refine zAg (fun K4 hK3 => ?_)
  refine zAg (fun K6 hK5 => ?_)
  refine zAb (w_p (zAe (v := .int _ _) rfl rfl) rfl ?_)
  refine w_p (zAk isAgg90 hs.tail.tail.tail.tail.tail.drop.drop rfl rfl h1) rfl ?_
  refine w_p (zBk rfl rfl) rfl ?_
  refine w_p (zAh (o := 0) (i := 0) underlying141 rfl sizeOf26 rfl rfl rfl) rfl ?_
  refine w_p (zAh (o := 1) (i := 1) underlying26 rfl sizeOf23 rfl rfl rfl) rfl ?_
  refine w_p (zAk isAgg23 hs.tail.tail.tail.tail.tail.drop.drop rfl rfl (show Ats _ _ _ _ [_] from Ats.part hb 1 1)) rfl ?_
  refine w_p (zBd underlying23 rfl rfl) rfl ?_
  refine w_p (zBy rfl rfl rfl rfl) rfl ?_
  refine zAf (zAd (hK5 _ _ ?_))
  refine zAz rfl rfl (fun h7 => ?_) (fun h7 => ?_)
  ·
   try simp only [zS] at h7
   refine zAg (fun K9 hK8 => ?_)
   refine zAg (fun K11 hK10 => ?_)
   have hr0 : rem = 0 := by omega
   subst hr0
   have hcur := cur_pad hcl hpl hkt (by have hdn : d = l.bunches.length := (by omega); subst hdn; exact hz)
   have hsp : soFrom but pre 0 l.counts = soFrom but cur 0 l.counts := by rw [hcur, so_pad]
   rw [seg_leaf (by omega), hsp, ← hcur] at hpos
   refine zAb (w_p (zAe (v := .int _ _) rfl rfl) rfl ?_)
   refine w_p (y_gtr rfl rfl rfl rfl) rfl ?_
   refine w_p (zAe (v := .bool _) rfl rfl) rfl ?_
   refine zBi (fun h12 => ?_) (fun h12 => ?_)
   ·
    try simp only [zS] at h12
    refine w_y rfl rfl rfl (zB4 (i := 2) isAgg99 sizeOf99 (by first | omega | rfl | (simp only [hcl, hll, List.length_map, List.length_set, List.length_append, List.length_take, List.length_drop, List.length_replicate, List.length_cons, List.length_nil] <;> omega)) hs rfl rfl rfl) rfl ?_
    refine w_y rfl rfl rfl (zB4 (i := 1) isAgg99 sizeOf99 (by first | omega | rfl | (simp only [hcl, hll, List.length_map, List.length_set, List.length_append, List.length_take, List.length_drop, List.length_replicate, List.length_cons, List.length_nil] <;> omega)) hs rfl rfl rfl) rfl ?_
    refine w_y rfl rfl rfl (y_eqFlat (l := _) (m := _) eqGuardType99 Try_flat99 (by first | omega | rfl | (simp only [hcl, hll, List.length_map, List.length_set, List.length_append, List.length_take, List.length_drop, List.length_replicate, List.length_cons, List.length_nil] <;> omega)) (by first | omega | rfl | (simp only [hcl, hll, List.length_map, List.length_set, List.length_append, List.length_take, List.length_drop, List.length_replicate, List.length_cons, List.length_nil] <;> omega)) rfl rfl rfl rfl rfl rfl) rfl ?_
    refine w_p (zA0 (v := .bool _) rfl rfl rfl rfl) rfl ?_
    refine w_p (zAe (v := .bool _) rfl rfl) rfl ?_
    refine zBi (fun h13 => ?_) (fun h13 => ?_)
    ·
     try simp only [zS] at h13
     refine zAi rfl rfl rfl ?_
     refine zAi rfl rfl rfl ?_
     refine zAi rfl rfl rfl ?_
     refine zAi rfl rfl rfl ?_
     refine w_p (zA0 (v := _) rfl rfl rfl rfl) rfl ?_
     refine zAf (zAd (hK10 _ _ ?_))
     refine zCg rfl rfl ?_
     refine zAg (fun K15 hK14 => ?_)
     refine zAb (w_p (zAc (v := _) rfl rfl) rfl ?_)
     refine zAf (zAd (hK14 _ _ ?_))
     refine zA2 (zAm (zAm (zA3 (l := [.tmp 8]) (vs := [_]) rfl ⟨⟨rfl, (rfl : _ = Value.bool _)⟩, trivial⟩ ?_)))
     first
       | exact ⟨cur, last, B, hcl, hcr, hll, hkt, hz, hs, .inl ⟨rfl, i, hi, zBj hpos (zCn hpos (hlast (by omega)) (by assumption)), (by rw [← zBj hpos (zCn hpos (hlast (by omega)) (by assumption))]; exact hlast), hJ⟩⟩
       | exact ⟨cur, last, B, hcl, hcr, hll, hkt, hz, hs, .inl ⟨rfl, i, hi, zBj hpos (by assumption), (by rw [← zBj hpos (by assumption)]; exact hlast), hJ⟩⟩
       | exact ⟨cur, cur, B1, hcl, hcr, hcl, hkt, hz, hs, .inl ⟨rfl, i + 1, zCu hpos2, zCt hpos2, (fun _ => zCq hnd hpos2), hJ1⟩⟩
       | exact ⟨cur, cur, B1, hcl, hcr, hcl, hkt, hz, hs, .inr ⟨rfl, hJ1⟩⟩
       | exact ⟨cur2, last2, B2, hc2, hr2, hl2, zCm hk2 hpl, hz2, hs, .inr ⟨rfl, hJ2⟩⟩
       | (rw [rest_done (by omega), List.nil_append] at hpos
          exact ⟨cur, last, B, hcl, hcr, hll, hkt, hz, hs, .inl ⟨rfl, i, hi, hpos, (by rw [← hpos]; exact hlast), hJ⟩⟩)
    try simp only [zS] at h13
    refine w_y rfl rfl rfl (zAk isAgg138 hs rfl rfl (zAj (i := 3) (vs := [_]) rfl rfl)) rfl ?_
    refine w_y rfl rfl rfl (zB4 (i := 2) isAgg99 sizeOf99 (by first | omega | rfl | (simp only [hcl, hll, List.length_map, List.length_set, List.length_append, List.length_take, List.length_drop, List.length_replicate, List.length_cons, List.length_nil] <;> omega)) hs rfl rfl rfl) rfl ?_
    refine zAt (zAn rfl rfl rfl) call81 rfl rfl rfl rfl (c81 l _ but lb mm hk.app.app.cons.cons.cons.cons.cons cur hcl hcr hs) ?_
    rintro _ w17 ⟨rfl, hs18⟩
    refine w_y rfl rfl rfl (zDc rfl rfl) rfl ?_
    refine w_p (zBb (v := .bool _) rfl rfl rfl rfl) rfl ?_
    refine zAf (zAd (hK10 _ _ ?_))
    refine zAz rfl rfl (fun h19 => ?_) (fun h19 => ?_)
    ·
     try simp only [zS] at h19
     refine zAg (fun K21 hK20 => ?_)
     refine zAb (w_p (zAc (v := _) rfl rfl) rfl ?_)
     refine zAf (zAd (hK20 _ _ ?_))
     refine zA2 (zAm (zAm (zA3 (l := [.tmp 8]) (vs := [_]) rfl ⟨⟨rfl, (rfl : _ = Value.bool _)⟩, trivial⟩ ?_)))
     first
       | exact ⟨cur, last, B, hcl, hcr, hll, hkt, hz, hs18, .inl ⟨rfl, i, hi, zBj hpos (zCn hpos (hlast (by omega)) (by assumption)), (by rw [← zBj hpos (zCn hpos (hlast (by omega)) (by assumption))]; exact hlast), hJ⟩⟩
       | exact ⟨cur, last, B, hcl, hcr, hll, hkt, hz, hs18, .inl ⟨rfl, i, hi, zBj hpos (by assumption), (by rw [← zBj hpos (by assumption)]; exact hlast), hJ⟩⟩
       | exact ⟨cur, cur, B1, hcl, hcr, hcl, hkt, hz, hs18, .inl ⟨rfl, i + 1, zCu hpos2, zCt hpos2, (fun _ => zCq hnd hpos2), hJ1⟩⟩
       | exact ⟨cur, cur, B1, hcl, hcr, hcl, hkt, hz, hs18, .inr ⟨rfl, hJ1⟩⟩
       | exact ⟨cur2, last2, B2, hc2, hr2, hl2, zCm hk2 hpl, hz2, hs18, .inr ⟨rfl, hJ2⟩⟩
       | (rw [rest_done (by omega), List.nil_append] at hpos
          exact ⟨cur, last, B, hcl, hcr, hll, hkt, hz, hs18, .inl ⟨rfl, i, hi, hpos, (by rw [← hpos]; exact hlast), hJ⟩⟩)
    try simp only [zS] at h19
    refine zAx (zAd (hK8 _ _ ?_))
    refine zAg (fun K23 hK22 => ?_)
    have hpos2 := leaf_some hpos (by assumption)
    refine zAb (w_p (zB4 (i := 2) isAgg99 sizeOf99 (by first | omega | rfl | (simp only [hcl, hll, List.length_map, List.length_set, List.length_append, List.length_take, List.length_drop, List.length_replicate, List.length_cons, List.length_nil] <;> omega)) hs18 rfl rfl rfl) rfl ?_)
    refine zCa (i := 1) (l := _) zAa sizeOf99 (by first | omega | rfl | (simp only [hcl, hll, List.length_map, List.length_set, List.length_append, List.length_take, List.length_drop, List.length_replicate, List.length_cons, List.length_nil] <;> omega)) rfl rfl rfl rfl rfl hs18 rfl (by first | omega | rfl | (simp only [hcl, hll, List.length_map, List.length_set, List.length_append, List.length_take, List.length_drop, List.length_replicate, List.length_cons, List.length_nil] <;> omega)) (fun w24 hs25 => ?_)
    refine zAf (zAd (hK22 _ _ ?_))
    refine zAg (fun K27 hK26 => ?_)
    refine zAb (w_p (zAk isAgg138 hs25 rfl rfl (zAj (i := 4) (vs := [_]) rfl rfl)) rfl ?_)
    refine w_p (zB4 (i := 2) isAgg99 sizeOf99 (by first | omega | rfl | (simp only [hcl, hll, List.length_map, List.length_set, List.length_append, List.length_take, List.length_drop, List.length_replicate, List.length_cons, List.length_nil] <;> omega)) hs25 rfl rfl rfl) rfl ?_
    refine w_callV zAa rfl rfl rfl rfl (hy i _ R B (_ :: _ :: _ :: _ :: _ :: X) _ hpos2 hJ hs25) ?_
    rintro _ w29 ⟨B1, hs30, (⟨rfl, hJ1⟩ | ⟨rfl, hJ1⟩)⟩
    ·
     replace hs30 := (show St _ _ (_ :: _ :: _ :: _ :: _ :: X ++ (B1 ++ (F))) from hs30)
     refine w_p (zAc (v := .bool _) rfl rfl) rfl ?_
     refine zAf (zAd (hK26 _ _ ?_))
     refine zA2 (zAm (zA3 (l := [.tmp 8]) (vs := [_]) rfl ⟨⟨rfl, (rfl : _ = Value.bool _)⟩, trivial⟩ ?_))
     first
       | exact ⟨cur, last, B, hcl, hcr, hll, hkt, hz, hs30, .inl ⟨rfl, i, hi, zBj hpos (zCn hpos (hlast (by omega)) (by assumption)), (by rw [← zBj hpos (zCn hpos (hlast (by omega)) (by assumption))]; exact hlast), hJ⟩⟩
       | exact ⟨cur, last, B, hcl, hcr, hll, hkt, hz, hs30, .inl ⟨rfl, i, hi, zBj hpos (by assumption), (by rw [← zBj hpos (by assumption)]; exact hlast), hJ⟩⟩
       | exact ⟨cur, cur, B1, hcl, hcr, hcl, hkt, hz, hs30, .inl ⟨rfl, i + 1, zCu hpos2, zCt hpos2, (fun _ => zCq hnd hpos2), hJ1⟩⟩
       | exact ⟨cur, cur, B1, hcl, hcr, hcl, hkt, hz, hs30, .inr ⟨rfl, hJ1⟩⟩
       | exact ⟨cur2, last2, B2, hc2, hr2, hl2, zCm hk2 hpl, hz2, hs30, .inr ⟨rfl, hJ2⟩⟩
       | (rw [rest_done (by omega), List.nil_append] at hpos
          exact ⟨cur, last, B, hcl, hcr, hll, hkt, hz, hs30, .inl ⟨rfl, i, hi, hpos, (by rw [← hpos]; exact hlast), hJ⟩⟩)
    replace hs30 := (show St _ _ (_ :: _ :: _ :: _ :: _ :: X ++ (B1 ++ (F))) from hs30)
    refine w_p (zAc (v := .bool _) rfl rfl) rfl ?_
    refine zAf (zAd (hK26 _ _ ?_))
    refine zA2 (zAm (zA3 (l := [.tmp 8]) (vs := [_]) rfl ⟨⟨rfl, (rfl : _ = Value.bool _)⟩, trivial⟩ ?_))
    first
      | exact ⟨cur, last, B, hcl, hcr, hll, hkt, hz, hs30, .inl ⟨rfl, i, hi, zBj hpos (zCn hpos (hlast (by omega)) (by assumption)), (by rw [← zBj hpos (zCn hpos (hlast (by omega)) (by assumption))]; exact hlast), hJ⟩⟩
      | exact ⟨cur, last, B, hcl, hcr, hll, hkt, hz, hs30, .inl ⟨rfl, i, hi, zBj hpos (by assumption), (by rw [← zBj hpos (by assumption)]; exact hlast), hJ⟩⟩
      | exact ⟨cur, cur, B1, hcl, hcr, hcl, hkt, hz, hs30, .inl ⟨rfl, i + 1, zCu hpos2, zCt hpos2, (fun _ => zCq hnd hpos2), hJ1⟩⟩
      | exact ⟨cur, cur, B1, hcl, hcr, hcl, hkt, hz, hs30, .inr ⟨rfl, hJ1⟩⟩
      | exact ⟨cur2, last2, B2, hc2, hr2, hl2, zCm hk2 hpl, hz2, hs30, .inr ⟨rfl, hJ2⟩⟩
      | (rw [rest_done (by omega), List.nil_append] at hpos
         exact ⟨cur, last, B, hcl, hcr, hll, hkt, hz, hs30, .inl ⟨rfl, i, hi, hpos, (by rw [← hpos]; exact hlast), hJ⟩⟩)
   try simp only [zS] at h12
   refine zAi rfl rfl rfl ?_
   refine zAi rfl rfl rfl ?_
   refine zAi rfl rfl rfl ?_
   refine w_p (zBb (v := _) rfl rfl rfl rfl) rfl ?_
   refine w_p (zAe (v := .bool _) rfl rfl) rfl ?_
   refine w_y rfl rfl rfl (zAk isAgg138 hs rfl rfl (zAj (i := 3) (vs := [_]) rfl rfl)) rfl ?_
   refine w_y rfl rfl rfl (zB4 (i := 2) isAgg99 sizeOf99 (by first | omega | rfl | (simp only [hcl, hll, List.length_map, List.length_set, List.length_append, List.length_take, List.length_drop, List.length_replicate, List.length_cons, List.length_nil] <;> omega)) hs rfl rfl rfl) rfl ?_
   refine zAt (zAn rfl rfl rfl) call81 rfl rfl rfl rfl (c81 l _ but lb mm hk.app.app.cons.cons.cons.cons.cons cur hcl hcr hs) ?_
   rintro _ w32 ⟨rfl, hs33⟩
   refine w_y rfl rfl rfl (zDc rfl rfl) rfl ?_
   refine w_p (zBb (v := .bool _) rfl rfl rfl rfl) rfl ?_
   refine zAf (zAd (hK10 _ _ ?_))
   refine zAz rfl rfl (fun h34 => ?_) (fun h34 => ?_)
   ·
    try simp only [zS] at h34
    refine zAg (fun K36 hK35 => ?_)
    refine zAb (w_p (zAc (v := _) rfl rfl) rfl ?_)
    refine zAf (zAd (hK35 _ _ ?_))
    refine zA2 (zAm (zAm (zA3 (l := [.tmp 8]) (vs := [_]) rfl ⟨⟨rfl, (rfl : _ = Value.bool _)⟩, trivial⟩ ?_)))
    first
      | exact ⟨cur, last, B, hcl, hcr, hll, hkt, hz, hs33, .inl ⟨rfl, i, hi, zBj hpos (zCn hpos (hlast (by omega)) (by assumption)), (by rw [← zBj hpos (zCn hpos (hlast (by omega)) (by assumption))]; exact hlast), hJ⟩⟩
      | exact ⟨cur, last, B, hcl, hcr, hll, hkt, hz, hs33, .inl ⟨rfl, i, hi, zBj hpos (by assumption), (by rw [← zBj hpos (by assumption)]; exact hlast), hJ⟩⟩
      | exact ⟨cur, cur, B1, hcl, hcr, hcl, hkt, hz, hs33, .inl ⟨rfl, i + 1, zCu hpos2, zCt hpos2, (fun _ => zCq hnd hpos2), hJ1⟩⟩
      | exact ⟨cur, cur, B1, hcl, hcr, hcl, hkt, hz, hs33, .inr ⟨rfl, hJ1⟩⟩
      | exact ⟨cur2, last2, B2, hc2, hr2, hl2, zCm hk2 hpl, hz2, hs33, .inr ⟨rfl, hJ2⟩⟩
      | (rw [rest_done (by omega), List.nil_append] at hpos
         exact ⟨cur, last, B, hcl, hcr, hll, hkt, hz, hs33, .inl ⟨rfl, i, hi, hpos, (by rw [← hpos]; exact hlast), hJ⟩⟩)
   try simp only [zS] at h34
   refine zAx (zAd (hK8 _ _ ?_))
   refine zAg (fun K38 hK37 => ?_)
   have hpos2 := leaf_some hpos (by assumption)
   refine zAb (w_p (zB4 (i := 2) isAgg99 sizeOf99 (by first | omega | rfl | (simp only [hcl, hll, List.length_map, List.length_set, List.length_append, List.length_take, List.length_drop, List.length_replicate, List.length_cons, List.length_nil] <;> omega)) hs33 rfl rfl rfl) rfl ?_)
   refine zCa (i := 1) (l := _) zAa sizeOf99 (by first | omega | rfl | (simp only [hcl, hll, List.length_map, List.length_set, List.length_append, List.length_take, List.length_drop, List.length_replicate, List.length_cons, List.length_nil] <;> omega)) rfl rfl rfl rfl rfl hs33 rfl (by first | omega | rfl | (simp only [hcl, hll, List.length_map, List.length_set, List.length_append, List.length_take, List.length_drop, List.length_replicate, List.length_cons, List.length_nil] <;> omega)) (fun w39 hs40 => ?_)
   refine zAf (zAd (hK37 _ _ ?_))
   refine zAg (fun K42 hK41 => ?_)
   refine zAb (w_p (zAk isAgg138 hs40 rfl rfl (zAj (i := 4) (vs := [_]) rfl rfl)) rfl ?_)
   refine w_p (zB4 (i := 2) isAgg99 sizeOf99 (by first | omega | rfl | (simp only [hcl, hll, List.length_map, List.length_set, List.length_append, List.length_take, List.length_drop, List.length_replicate, List.length_cons, List.length_nil] <;> omega)) hs40 rfl rfl rfl) rfl ?_
   refine w_callV zAa rfl rfl rfl rfl (hy i _ R B (_ :: _ :: _ :: _ :: _ :: X) _ hpos2 hJ hs40) ?_
   rintro _ w44 ⟨B1, hs45, (⟨rfl, hJ1⟩ | ⟨rfl, hJ1⟩)⟩
   ·
    replace hs45 := (show St _ _ (_ :: _ :: _ :: _ :: _ :: X ++ (B1 ++ (F))) from hs45)
    refine w_p (zAc (v := .bool _) rfl rfl) rfl ?_
    refine zAf (zAd (hK41 _ _ ?_))
    refine zA2 (zAm (zA3 (l := [.tmp 8]) (vs := [_]) rfl ⟨⟨rfl, (rfl : _ = Value.bool _)⟩, trivial⟩ ?_))
    first
      | exact ⟨cur, last, B, hcl, hcr, hll, hkt, hz, hs45, .inl ⟨rfl, i, hi, zBj hpos (zCn hpos (hlast (by omega)) (by assumption)), (by rw [← zBj hpos (zCn hpos (hlast (by omega)) (by assumption))]; exact hlast), hJ⟩⟩
      | exact ⟨cur, last, B, hcl, hcr, hll, hkt, hz, hs45, .inl ⟨rfl, i, hi, zBj hpos (by assumption), (by rw [← zBj hpos (by assumption)]; exact hlast), hJ⟩⟩
      | exact ⟨cur, cur, B1, hcl, hcr, hcl, hkt, hz, hs45, .inl ⟨rfl, i + 1, zCu hpos2, zCt hpos2, (fun _ => zCq hnd hpos2), hJ1⟩⟩
      | exact ⟨cur, cur, B1, hcl, hcr, hcl, hkt, hz, hs45, .inr ⟨rfl, hJ1⟩⟩
      | exact ⟨cur2, last2, B2, hc2, hr2, hl2, zCm hk2 hpl, hz2, hs45, .inr ⟨rfl, hJ2⟩⟩
      | (rw [rest_done (by omega), List.nil_append] at hpos
         exact ⟨cur, last, B, hcl, hcr, hll, hkt, hz, hs45, .inl ⟨rfl, i, hi, hpos, (by rw [← hpos]; exact hlast), hJ⟩⟩)
   replace hs45 := (show St _ _ (_ :: _ :: _ :: _ :: _ :: X ++ (B1 ++ (F))) from hs45)
   refine w_p (zAc (v := .bool _) rfl rfl) rfl ?_
   refine zAf (zAd (hK41 _ _ ?_))
   refine zA2 (zAm (zA3 (l := [.tmp 8]) (vs := [_]) rfl ⟨⟨rfl, (rfl : _ = Value.bool _)⟩, trivial⟩ ?_))
   first
     | exact ⟨cur, last, B, hcl, hcr, hll, hkt, hz, hs45, .inl ⟨rfl, i, hi, zBj hpos (zCn hpos (hlast (by omega)) (by assumption)), (by rw [← zBj hpos (zCn hpos (hlast (by omega)) (by assumption))]; exact hlast), hJ⟩⟩
     | exact ⟨cur, last, B, hcl, hcr, hll, hkt, hz, hs45, .inl ⟨rfl, i, hi, zBj hpos (by assumption), (by rw [← zBj hpos (by assumption)]; exact hlast), hJ⟩⟩
     | exact ⟨cur, cur, B1, hcl, hcr, hcl, hkt, hz, hs45, .inl ⟨rfl, i + 1, zCu hpos2, zCt hpos2, (fun _ => zCq hnd hpos2), hJ1⟩⟩
     | exact ⟨cur, cur, B1, hcl, hcr, hcl, hkt, hz, hs45, .inr ⟨rfl, hJ1⟩⟩
     | exact ⟨cur2, last2, B2, hc2, hr2, hl2, zCm hk2 hpl, hz2, hs45, .inr ⟨rfl, hJ2⟩⟩
     | (rw [rest_done (by omega), List.nil_append] at hpos
        exact ⟨cur, last, B, hcl, hcr, hll, hkt, hz, hs45, .inl ⟨rfl, i, hi, hpos, (by rw [← hpos]; exact hlast), hJ⟩⟩)
  try simp only [zS] at h7
  refine zAx (zAd (hK3 _ _ ?_))
  refine zAg (fun K47 hK46 => ?_)
  obtain ⟨r, rfl⟩ : ∃ r, rem = r + 1 := ⟨rem - 1, by omega⟩
  have ih2 := ih r rfl
  have hd2 : d < l.bunches.length := by omega
  rw [seg_node hd2] at hpos
  have hbb := hk.ok.bunch _ (List.getElem_mem hd2)
  obtain ⟨bx, ox, hbx, hx⟩ := sl_brows hk.i.b hd2
  subst hbx
  refine zAb (w_p (zAk isAgg90 hs.tail.tail.tail.tail.tail.drop.drop rfl rfl h1) rfl ?_)
  refine w_p (zBk rfl rfl) rfl ?_
  refine w_p (zAh (o := 0) (i := 0) underlying141 rfl sizeOf26 rfl rfl rfl) rfl ?_
  refine w_p (zAh (o := 1) (i := 1) underlying26 rfl sizeOf23 rfl rfl rfl) rfl ?_
  refine w_p (zAk isAgg23 hs.tail.tail.tail.tail.tail.drop.drop rfl rfl (show Ats _ _ _ _ [_] from Ats.part hb 1 1)) rfl ?_
  refine w_p (zAe (v := .int _ _) rfl rfl) rfl ?_
  refine w_p (zA7 underlying23 sizeOf61 rfl rfl rfl rfl (i := d) (by omega) (by omega)) rfl ?_
  refine w_p (zAh (o := 0) (i := 0) underlying61 rfl sizeOf28 rfl rfl rfl) rfl ?_
  refine w_p (zA6 (vs := [_, _]) isAgg28 sizeOf28 hs.tail.tail.tail.tail.tail.drop.drop rfl rfl (show Ats _ _ _ _ [_, _] from Ats.part hx 0 2)) rfl ?_
  refine zA9 (cs := [_, _]) zAa zeroValue28 rfl hs (fun b48 w49 hs50 => ?_)
  refine zA5 (i := 0) (v := .agg #[.int _ _, .int _ _]) (vs := [_, _]) zAa sizeOf28 rfl rfl rfl rfl rfl (by simp [Value.oneCell']) hs50 rfl (Nat.le_of_ble_eq_true rfl) (fun w51 hs52 => ?_)
  refine zAf (zAd (hK46 _ _ ?_))
  refine zAg (fun K54 hK53 => ?_)
  refine zAg (fun K56 hK55 => ?_)
  refine zAb (w_p (zAh (o := 0) (i := 0) underlying28 rfl sizeOf3 rfl rfl rfl) rfl ?_)
  refine w_p (zAk isAgg3 hs52 rfl rfl (zAj (i := 0) (vs := [_]) rfl rfl)) rfl ?_
  refine w_p (zAc (v := .int _ _) rfl rfl) rfl ?_
  refine zAf (zAd (hK55 _ _ ?_))
  refine zAy ?_
  refine zBp [8, 10, 47, 48, 49, 50, 51, 52, 53, 54, 55, 56, 57, 58, 59, 60] [10] (fun k vs w => ∃ (q : Nat) (cur last : List Int) (i : Nat) (B : List (Nat × Obj)), vs = [.int .i64 ((l.bunches[d]'hd2).lo + q)] ∧ (q : Int) ≤ (l.bunches[d]'hd2).hi + 1 - (l.bunches[d]'hd2).lo ∧ k = ((l.bunches[d]'hd2).hi + 1 - (l.bunches[d]'hd2).lo).toNat - q ∧ cur.length = 6 ∧ (∀ z ∈ cur, 0 ≤ z ∧ z ≤ 12) ∧ last.length = 6 ∧ cur.take d = pre ∧ (∀ j, l.bunches.length ≤ j → cur.getD j 0 = 0) ∧ i ≤ Ls.length ∧ Ls.drop i = restW l but d pre (upto ((l.bunches[d]'hd2).lo + q) (((l.bunches[d]'hd2).hi + 1 - (l.bunches[d]'hd2).lo).toNat - q)) ++ R ∧ (0 < l.bunches.length → last ∉ Ls.drop i) ∧ J i B ∧ St w0 w ((b48, blk 28 [.int .i64 (l.bunches[d]'hd2).lo, .int .i64 (l.bunches[d]'hd2).hi]) :: (bn, blk 123 [.func (.func 82) #[] #[.pointer (some ⟨bp, 0, none⟩), .pointer (some ⟨bh, 0, none⟩), .pointer (some ⟨bla, 0, none⟩), .pointer (some ⟨bs, 0, none⟩), .pointer (some ⟨bY, 0, none⟩), .pointer (some ⟨bn, 0, none⟩)]]) :: (bla, blk 99 (iv last)) :: (bh, blk 99 (iv cur)) :: (bs, blk 138 [.func (.func 81) #[.pointer (some ⟨lb, 0, none⟩)] #[]]) :: (bY, blk 138 [yv]) :: (X ++ (B ++ F)))) (((l.bunches[d]'hd2).hi + 1 - (l.bunches[d]'hd2).lo).toNat) ?_ ?_
  ·
   exact ⟨0, cur, last, i, B, iv1 (by omega), by omega, by omega, hcl, hcr, hll, hkt, hz, hi, by rw [show (l.bunches[d]'hd2).lo + ((0 : Nat) : Int) = (l.bunches[d]'hd2).lo by omega, Nat.sub_zero]; exact hpos, hlast, hJ, hs52⟩
  intro k vs μ w59 hI K58 hN57
  clear hkt hz hi hpos hll hlast hJ hs hcl hcr
  obtain ⟨q, cur, last, i, B, rfl, hq, rfl, hcl, hcr, hll, hkt, hz, hi, hpos, hlast, hJ, hs⟩ := hI
  refine zAg (fun K61 hK60 => ?_)
  refine zAg (fun K63 hK62 => ?_)
  refine zAb (w_p (zAe (v := .int _ _) rfl rfl) rfl ?_)
  refine w_p (zAh (o := 1) (i := 1) underlying28 rfl sizeOf3 rfl rfl rfl) rfl ?_
  refine w_p (zAk isAgg3 hs rfl rfl (zAj (i := 0) (vs := [_]) rfl rfl)) rfl ?_
  refine w_p (y_leq rfl rfl rfl rfl) rfl ?_
  refine zAf (zAd (hK62 _ _ ?_))
  refine zAz rfl rfl (fun h64 => ?_) (fun h64 => ?_)
  ·
   try simp only [zS] at h64
   refine zAx (zAd (hK60 _ _ ?_))
   refine zAg (fun K66 hK65 => ?_)
   refine zAy ?_
   refine zAg (fun K68 hK67 => ?_)
   refine zAb (w_p (zAe (v := .int _ _) rfl rfl) rfl ?_)
   refine w_p (zAe (v := .int _ _) rfl rfl) rfl ?_
   refine w_p (zB2 underlying99 sizeOf3 rfl rfl rfl rfl (i := d) (by first | rfl | omega) (by omega)) rfl ?_
   refine w_storeAtI (i := 3) (j := d) zAa sizeOf3 rfl rfl rfl rfl hs rfl (by first | omega | rfl | (simp only [hcl, hll, List.length_map, List.length_set, List.length_append, List.length_take, List.length_drop, List.length_replicate, List.length_cons, List.length_nil] <;> omega)) (fun w69 hs70 => ?_)
   refine zAf (zAd (hK67 _ _ ?_))
   refine zAg (fun K72 hK71 => ?_)
   refine zAb (w_p (zAk isAgg123 hs70 rfl rfl (zAj (i := 1) (vs := [_]) rfl rfl)) rfl ?_)
   refine w_p (zAe (v := .int _ _) rfl rfl) rfl ?_
   refine w_p (zBf rfl rfl rfl rfl (by omega) (by omega)) rfl ?_
   refine zAt zAa call82 rfl rfl rfl rfl (ih2 (d + 1) (pre ++ [(l.bunches[d]'hd2).lo + (q : Int)]) _ last i _ B (_ :: X) _ (by omega) (by simp; omega) (by rw [List.length_set]; exact hcl) (set_12 hcr (by omega) (by omega)) (set_take hkt (by omega)) (set_zero (by omega) hz) hi (by rw [rest_next (by omega), List.append_assoc] at hpos; exact hpos) hll hlast hJ (fr6 hs70)) ?_
   rintro _ w74 ⟨cur2, last2, B2, hc2, hr2, hl2, hk2, hz2, hs75, (⟨rfl, i2, hi2, hp2, hn2, hJ2⟩ | ⟨rfl, hJ2⟩)⟩
   ·
    replace hs75 := bk6 (show St _ _ (_ :: _ :: _ :: _ :: _ :: _ :: (X ++ (B2 ++ F))) from hs75)
    refine w_p (zDc rfl rfl) rfl ?_
    refine zAf (zAd (hK71 _ _ ?_))
    refine zB0 rfl rfl ?_
    refine zAx (zAl (zAd (hK65 _ _ ?_)))
    refine zAb (w_p (zAe (v := .int _ _) rfl rfl) rfl ?_)
    refine w_p (zBf rfl rfl rfl rfl (by omega) (by omega)) rfl ?_
    refine w_p (zAc (v := .int _ _) rfl rfl) rfl ?_
    refine zAf (zAd (hN57 _ _ (Nx.intro (((l.bunches[d]'hd2).hi + 1 - (l.bunches[d]'hd2).lo).toNat - (q + 1)) (by omega) (by repeat (first | exact zAv | refine zAu rfl ?_ | refine zAs rfl ?_ _ | refine zAr rfl ?_)) ?_)))
    exact ⟨q + 1, cur2, last2, i2, B2, iv1 (by omega), by omega, rfl, hc2, hr2, hl2, zCm hk2 hpl, hz2, hi2, hp2, (by rw [hp2]; exact hn2), hJ2, hs75⟩
   replace hs75 := bk6 (show St _ _ (_ :: _ :: _ :: _ :: _ :: _ :: (X ++ (B2 ++ F))) from hs75)
   refine w_p (zDc rfl rfl) rfl ?_
   refine zAf (zAd (hK71 _ _ ?_))
   refine zCg rfl rfl ?_
   refine zAg (fun K77 hK76 => ?_)
   refine zAb (w_p (zAc (v := _) rfl rfl) rfl ?_)
   refine zAf (zAd (hK76 _ _ ?_))
   refine zA2 (zA1 (zAm (zAm (zA1 (zAm (zA3 (l := [.tmp 8]) (vs := [_]) rfl ⟨⟨rfl, (rfl : _ = Value.bool _)⟩, trivial⟩ ?_))))))
   first
     | exact ⟨cur, last, B, hcl, hcr, hll, hkt, hz, hs75.tail, .inl ⟨rfl, i, hi, zBj hpos (zCn hpos (hlast (by omega)) (by assumption)), (by rw [← zBj hpos (zCn hpos (hlast (by omega)) (by assumption))]; exact hlast), hJ⟩⟩
     | exact ⟨cur, last, B, hcl, hcr, hll, hkt, hz, hs75.tail, .inl ⟨rfl, i, hi, zBj hpos (by assumption), (by rw [← zBj hpos (by assumption)]; exact hlast), hJ⟩⟩
     | exact ⟨cur, cur, B1, hcl, hcr, hcl, hkt, hz, hs75.tail, .inl ⟨rfl, i + 1, zCu hpos2, zCt hpos2, (fun _ => zCq hnd hpos2), hJ1⟩⟩
     | exact ⟨cur, cur, B1, hcl, hcr, hcl, hkt, hz, hs75.tail, .inr ⟨rfl, hJ1⟩⟩
     | exact ⟨cur2, last2, B2, hc2, hr2, hl2, zCm hk2 hpl, hz2, hs75.tail, .inr ⟨rfl, hJ2⟩⟩
     | (rw [rest_done (by omega), List.nil_append] at hpos
        exact ⟨cur, last, B, hcl, hcr, hll, hkt, hz, hs75.tail, .inl ⟨rfl, i, hi, hpos, (by rw [← hpos]; exact hlast), hJ⟩⟩)
  try simp only [zS] at h64
  refine zBl (zAo (zAo (zA4 (zAd (hK53 _ _ ?_)))))
  refine zAg (fun K79 hK78 => ?_)
  refine zAb (w_p (zAc (v := _) rfl rfl) rfl ?_)
  refine zAf (zAd (hK78 _ _ ?_))
  refine zA2 (zA3 (l := [.tmp 8]) (vs := [_]) rfl ⟨⟨rfl, (rfl : _ = Value.bool _)⟩, trivial⟩ ?_)
  first
    | exact ⟨cur, last, B, hcl, hcr, hll, hkt, hz, hs.tail, .inl ⟨rfl, i, hi, zBj hpos (zCn hpos (hlast (by omega)) (by assumption)), (by rw [← zBj hpos (zCn hpos (hlast (by omega)) (by assumption))]; exact hlast), hJ⟩⟩
    | exact ⟨cur, last, B, hcl, hcr, hll, hkt, hz, hs.tail, .inl ⟨rfl, i, hi, zBj hpos (by assumption), (by rw [← zBj hpos (by assumption)]; exact hlast), hJ⟩⟩
    | exact ⟨cur, cur, B1, hcl, hcr, hcl, hkt, hz, hs.tail, .inl ⟨rfl, i + 1, zCu hpos2, zCt hpos2, (fun _ => zCq hnd hpos2), hJ1⟩⟩
    | exact ⟨cur, cur, B1, hcl, hcr, hcl, hkt, hz, hs.tail, .inr ⟨rfl, hJ1⟩⟩
    | exact ⟨cur2, last2, B2, hc2, hr2, hl2, zCm hk2 hpl, hz2, hs.tail, .inr ⟨rfl, hJ2⟩⟩
    | (rw [rest_done (by omega), List.nil_append] at hpos
       exact ⟨cur, last, B, hcl, hcr, hll, hkt, hz, hs.tail, .inl ⟨rfl, i, hi, hpos, (by rw [← hpos]; exact hlast), hJ⟩⟩)

end Go.Proofs.Hn
set_option maxRecDepth 20000
namespace Go.Proofs.Hn
open Go.Proofs.Tryz
open Go.Rt Go.Rt.Ha
attribute [local irreducible] WL WC Con Yd At Ats Sl Agree DW

theorem next_all {w0 : World} {F : List (Nat × Obj)} (l : Lot) (p : At3) (but lb mm : Nat) (hk : LK w0 F l p but lb mm)  (bp bh bla bs bY bn : Nat) (h1 : Ats w0 F bp 0 [.pointer (some ⟨lb, 0, none⟩)]) (Ls : List (List Int)) (hnd : Ls.Nodup) (J : Nat → List (Nat × Obj) → Prop) (Js : List (Nat × Obj) → Prop) (yv : Value) (hy : ∀ (i : Nat) (x : List Int) (R : List (List Int)) (B X : List (Nat × Obj)) (w : World), Ls.drop i = x :: R → J i B → St w0 w (X ++ (B ++ F)) → FCon Tryz.prog yv [ia x] w fun v w' => ∃ B', St w0 w' (X ++ (B' ++ F)) ∧ (v = .bool true ∧ J (i + 1) B' ∨ v = .bool false ∧ Js B')) (rem : Nat) : NextC l but lb bp bh bla bs bY bn Ls J Js yv w0 F rem := by
  induction rem with
  | zero => exact c82 l p but lb mm hk bp bh bla bs bY bn h1 Ls hnd J Js yv hy 0 (fun r h => by omega)
  | succ r ih => exact c82 l p but lb mm hk bp bh bla bs bY bn h1 Ls hnd J Js yv hy (r + 1) (fun q h => by have : q = r := (by omega); subst this; exact ih)
theorem iter_lists {w0 : World} {F : List (Nat × Obj)} {Ls : List (List Int)} {J : Nat → List (Nat × Obj) → Prop} {Js : List (Nat × Obj) → Prop} {yv : Value}
    (hy : ∀ i (hi : i < (Ls.map ia).length) B X w, J i B → St w0 w (X ++ (B ++ F)) → FCon Tryz.prog yv [(Ls.map ia)[i]] w fun v w' => ∃ B', St w0 w' (X ++ (B' ++ F)) ∧ (v = .bool true ∧ J (i + 1) B' ∨ v = .bool false ∧ Js B')) :
    ∀ (i : Nat) (x : List Int) (R : List (List Int)) (B X : List (Nat × Obj)) (w : World), Ls.drop i = x :: R → J i B → St w0 w (X ++ (B ++ F)) → FCon Tryz.prog yv [ia x] w fun v w' => ∃ B', St w0 w' (X ++ (B' ++ F)) ∧ (v = .bool true ∧ J (i + 1) B' ∨ v = .bool false ∧ Js B') := by
  intro i x R B X w hd hJ hs
  have := hy i (by simpa using zCu hd) B X w hJ hs
  rw [List.getElem_map, drop_get hd] at this
  exact this
theorem ways_iter {w0 : World} {F : List (Nat × Obj)} (l : Lot) (p : At3) (but lb mm : Nat) (hk : LK w0 F l p but lb mm)  (bp : Nat) (h1 : Ats w0 F bp 0 [.pointer (some ⟨lb, 0, none⟩)]) : Iter Tryz.prog 80 [] [.pointer (some ⟨bp, 0, none⟩)] (((Ha.ways l but).map pad6).map ia) w0 F := by
  intro J Js yv B X w hyv hy hJ hs
  obtain ⟨yf, ya, yb, rfl⟩ := hyv
  have hlb := hk.ok.lb
  show Con Tryz.prog 80 [.func yf ya yb, .pointer (some ⟨bp, 0, none⟩)] w _
  refine zAw (n := 12) func80 rfl rfl (Nat.le_of_ble_eq_true rfl) ?_
  refine zAg (fun K2 hK1 => ?_)
  refine zAb (zB3 (v := .func _ _ _) (cs := [_]) zAa rfl rfl rfl hs (fun b3 w4 hs5 => ?_))
  refine zAf (zAd (hK1 _ _ ?_))
  refine zAg (fun K7 hK6 => ?_)
  refine zAb (w_p (zAk isAgg90 hs5.tail.drop.drop rfl rfl h1) rfl ?_)
  refine w_p (zB9 (fv := [_]) (cv := []) rfl rfl rfl rfl) rfl ?_
  refine zA9 (cs := [_]) zAa zeroValue138 rfl hs5 (fun b8 w9 hs10 => ?_)
  refine zA5 (i := 0) (v := .func _ _ _) (vs := [_]) zAa sizeOf138 rfl rfl rfl rfl rfl (by simp [Value.oneCell']) hs10 rfl (Nat.le_of_ble_eq_true rfl) (fun w11 hs12 => ?_)
  refine zAf (zAd (hK6 _ _ ?_))
  refine zAg (fun K14 hK13 => ?_)
  refine zAb (zA9 (cs := iv [0, 0, 0, 0, 0, 0]) zAa zeroValue99 rfl hs12 (fun b15 w16 hs17 => ?_))
  refine zA9 (cs := iv [0, 0, 0, 0, 0, 0]) zAa zeroValue99 rfl hs17 (fun b18 w19 hs20 => ?_)
  refine zAf (zAd (hK13 _ _ ?_))
  refine zAg (fun K22 hK21 => ?_)
  refine zAb (zA9 (cs := [_]) zAa zeroValue123 rfl hs20 (fun b23 w24 hs25 => ?_))
  refine zAf (zAd (hK21 _ _ ?_))
  refine zAg (fun K27 hK26 => ?_)
  refine zAb (w_p (zB9 (fv := []) (cv := [_, _, _, _, _, _]) rfl rfl rfl rfl) rfl ?_)
  refine zA5 (i := 0) (v := .func _ _ _) (vs := [_]) zAa sizeOf123 rfl rfl rfl rfl rfl (by simp [Value.oneCell']) hs25 rfl (Nat.le_of_ble_eq_true rfl) (fun w28 hs29 => ?_)
  refine zAf (zAd (hK26 _ _ ?_))
  refine zAb (w_p (zAk isAgg123 hs29 rfl rfl (zAj (i := 0) (vs := [_]) rfl rfl)) rfl ?_)
  refine zAt zAa call82 rfl rfl rfl rfl (next_all l p but lb mm hk bp b15 b18 b8 b3 b23 h1 ((Ha.ways l but).map pad6) (padw_nodup l but) J Js (.func yf ya yb) (iter_lists hy) l.bunches.length 0 [] (List.replicate 6 0) (List.replicate 6 0) 0 [] B X _ (by omega) rfl rfl (fun z h => by have := (List.mem_replicate.1 h).2; omega) rfl (fun j _ => by match j with | 0 => rfl | 1 => rfl | 2 => rfl | 3 => rfl | 4 => rfl | 5 => rfl | _ + 6 => rfl) (by omega) (by rw [List.append_nil, seg_all]; rfl) rfl (fun hn => by rw [List.drop_zero]; exact zero_notin hk.ok hn) hJ hs29) ?_
  rintro _ w31 ⟨cur2, last2, B2, _, _, _, _, _, hs32, hB2⟩
  refine zAf (q_end (l := []) (vs := []) rfl trivial ?_)
  refine ⟨B2, hs32.tail.tail.tail.tail.tail, ?_⟩
  rcases hB2 with ⟨_, i', hi', hd', _, hJ'⟩ | ⟨_, hJ'⟩
  · left; rw [List.length_map, ← drop_done hi' hd']; exact hJ'
  · exact .inr hJ'

theorem c46 {w0 w : World} {F : List (Nat × Obj)} (lb : Nat) (hs : St w0 w F) :
  Con Tryz.prog 46 [.pointer (some ⟨lb, 0, none⟩)] w fun v w' => ∃ bp, v = .func (.func 80) #[] #[.pointer (some ⟨bp, 0, none⟩)] ∧ St w0 w' ((bp, blk 90 [.pointer (some ⟨lb, 0, none⟩)]) :: F) := by
  refine zAw (n := 4) func46 rfl rfl (Nat.le_of_ble_eq_true rfl) ?_
  refine zAg (fun K2 hK1 => ?_)
  refine zAb (zB3 (v := .pointer _) (cs := [_]) zAa rfl rfl rfl hs (fun b3 w4 hs5 => ?_))
  refine w_p (zAc (v := _) rfl rfl) rfl ?_
  refine zAf (zAd (hK1 _ _ ?_))
  refine zAg (fun K7 hK6 => ?_)
  refine zAb (w_p (zB9 (fv := []) (cv := [_]) rfl rfl rfl rfl) rfl ?_)
  refine w_p (zAc (v := .func _ _ _) rfl rfl) rfl ?_
  refine zAf (zAd (hK6 _ _ ?_))
  refine zA2 (zA3 (l := [.tmp 2]) (vs := [_]) rfl ⟨⟨rfl, show _ = (.func _ _ _ : Value) from rfl⟩, trivial⟩ ?_)
  exact ⟨_, rfl, hs5⟩

theorem c69 {w0 w : World} {F : List (Nat × Obj)} (l : Lot) (p : At3) (but lb mm : Nat) (hk : LK w0 F l p but lb mm)  (hs : St w0 w F) :
  Con Tryz.prog 69 [.pointer (some ⟨lb, 0, none⟩)] w fun v w' => v = .bool (!(Ha.ways l but).isEmpty) ∧ St w0 w' F := by
  refine zDe (n := 6) func69 rfl rfl (Nat.le_of_ble_eq_true rfl) ?_
  refine zAg (fun K2 hK1 => ?_)
  refine zAb (zA9 (cs := [_]) zAa zeroValue4 rfl hs (fun b3 w4 hs5 => ?_))
  refine zAf (zAd (hK1 _ _ ?_))
  refine zAg (fun K7 hK6 => ?_)
  refine zAg (fun K9 hK8 => ?_)
  refine zAb (w_p (zAe (v := .pointer _) rfl rfl) rfl ?_)
  refine zAt zAa call46 rfl rfl rfl rfl (c46 _ hs5) ?_
  rintro _ w11 ⟨bp, rfl, hs12⟩
  refine zAf (zAd (hK8 _ _ ?_))
  refine zAy ?_
  refine w_range ([_]) (fun i Bx => i = 0 ∧ Bx = [(b3, blk 4 [.bool false])]) (fun c Bx => c = .ret ∧ Bx = [(b3, blk 4 [.bool true])] ∧ 0 < (Ha.ways l but).length) rfl rfl rfl call80 (ways_iter l p but lb mm hk.cons bp (zAj (i := 0) (vs := [_]) rfl rfl)) hs12 (List.Perm.swap _ _ _) ⟨rfl, rfl⟩ ?_ ?_ ?_
  ·
   intro lp i hi Bx Xr Xr2 w14 hJ hs K hK13
   obtain ⟨rfl, rfl⟩ := hJ
   have hi0 : 0 < (Ha.ways l but).length := by simpa using hi
   replace hs := (show St _ _ (_ :: (Xr ++ (_ :: F))) from hs)
   refine zAx (zAd (hK13 _ _ (_ :: []) hs (fun w15 hs16 => ?_)))
   replace hs16 := (show St _ _ (_ :: Xr2 ++ (_ :: F)) from hs16)
   refine zAy ?_
   refine zAg (fun K18 hK17 => ?_)
   refine zAb (zA5 (i := 0) (v := .bool _) (vs := [_]) zAa sizeOf4 rfl rfl rfl rfl rfl (by simp [Value.oneCell']) hs16 rfl (Nat.le_of_ble_eq_true rfl) (fun w19 hs20 => ?_))
   refine zAf (zAd (hK17 _ _ ?_))
   refine zA2 (zA1 (rd_ret (_ :: []) hs20 ?_))
   exact ⟨rfl, rfl, hi0⟩
  ·
   intro bd Bx w21 hJ hs
   obtain ⟨h0, rfl⟩ := hJ
   rw [List.length_map, List.length_map] at h0
   refine zAl (zAd (hK6 _ _ ?_))
   refine zAg (fun K23 hK22 => ?_)
   refine zAb (zA5 (i := 1) (v := .bool _) (vs := [_]) zAa sizeOf4 rfl rfl rfl rfl rfl (by simp [Value.oneCell']) hs rfl (Nat.le_of_ble_eq_true rfl) (fun w24 hs25 => ?_))
   refine zAf (zAd (hK22 _ _ ?_))
   refine zA2 (q_retM (i := 0) (l := [.cell 2 4]) (vs := [_]) hs25 rfl rfl (fun w26 hs27 => ⟨⟨⟨rfl, _, rfl, zBo isAgg4 hs27 (zAj (i := 1) (vs := [_]) rfl rfl)⟩, trivial⟩, ?_⟩))
   first
     | exact ⟨congrArg Value.bool (by rw [List.length_eq_zero_iff.1 h0]; rfl), hs27.tail.tail.tail⟩
     | exact ⟨congrArg Value.bool (by cases hd : Ha.ways l but with | nil => rw [hd] at h0; simp at h0 | cons _ _ => rfl), hs27.tail.tail.tail⟩
  intro bd c Bx w28 hJ hs
  obtain ⟨rfl, rfl, h0⟩ := hJ
  refine zA2 (zA1 (zAm (q_retM (i := 0) (l := [.cell 2 4]) (vs := [_]) hs rfl rfl (fun w29 hs30 => ⟨⟨⟨rfl, _, rfl, zBo isAgg4 hs30 (zAj (i := 1) (vs := [_]) rfl rfl)⟩, trivial⟩, ?_⟩))))
  first
    | exact ⟨congrArg Value.bool (by rw [List.length_eq_zero_iff.1 h0]; rfl), hs30.tail.tail.tail⟩
    | exact ⟨congrArg Value.bool (by cases hd : Ha.ways l but with | nil => rw [hd] at h0; simp at h0 | cons _ _ => rfl), hs30.tail.tail.tail⟩

end Go.Proofs.Hn
/- Plain words of the hand layer: grades as bits, one number of scars after the other. No conditions. -/
namespace Go.Rt.Ha
theorem upto_snoc : ∀ (n : Nat) (lo : Int), upto lo (n + 1) = upto lo n ++ [lo + n]
  | 0, lo => by simp [upto]
  | n + 1, lo => by
    rw [upto, upto_snoc n (lo + 1)]
    simp only [upto, List.cons_append]
    rw [show lo + 1 + (n : Int) = lo + (n + 1 : Nat) by omega]
theorem orG_snoc (gs : List Grade) (h s : Int) : ∀ l, orG gs h (l ++ [s]) = orG gs h l ||| 1 <<< (ofG gs 0 h s + 1).toNat
  | [] => by simp [orG]
  | x :: l => by simp only [List.cons_append, orG, orG_snoc gs h s l, Nat.or_assoc]
theorem ofG_to {gs : List Grade} {h s : Int} (hl : gs.length ≤ 4) : 0 ≤ ofG gs 0 h s + 1 ∧ (ofG gs 0 h s + 1).toNat ≤ 4 ∧ ofG gs 0 h s ≤ 3 := by
  rcases ofG_range h s gs 0 (by omega) with e | e <;> omega
theorem shl_5 {x : Nat} (h : x ≤ 4) : 1 <<< x < 32 ∧ 0 < 1 <<< x := by
  match x, h with
  | 0, _ => decide
  | 1, _ => decide
  | 2, _ => decide
  | 3, _ => decide
  | 4, _ => decide
theorem orG_lt {gs : List Grade} {h : Int} (hl : gs.length ≤ 4) : ∀ l, orG gs h l < 32
  | [] => by simp [orG]
  | x :: l => by
    simp only [orG]
    exact Nat.or_lt_two_pow (n := 5) (shl_5 (ofG_to hl).2.1).1 (orG_lt hl l)
theorem orG_pos {gs : List Grade} {h : Int} (hl : gs.length ≤ 4) {l : List Int} (hne : l ≠ []) : 0 < orG gs h l := by
  cases l with
  | nil => exact absurd rfl hne
  | cons x l =>
    simp only [orG]
    have h1 := (shl_5 (ofG_to (gs := gs) (h := h) (s := x) hl).2.1).2
    have h2 := Nat.left_le_or (n := 1 <<< (ofG gs 0 h x + 1).toNat) (m := orG gs h l)
    omega
theorem gradesB_in {l : Lot} (hok : l.Ok) {b : Nat} (hb : b < l.bunches.length) (h : Int) : 0 < gradesB l (bunchOf l b) h ∧ gradesB l (bunchOf l b) h < 32 := by
  have hne := scars_ne hok hb
  exact ⟨orG_pos hok.lg.2 hne, orG_lt hok.lg.2 _⟩
theorem setW_lt {l : Lot} (hok : l.Ok) (b : Nat) (ws : List (List Int)) : setW l b ws < 32 := by
  have key : ∀ (ws : List (List Int)) (s : Nat), s < 32 → ws.foldl (fun s h => s ||| gradesB l (bunchOf l b) (at_ h b)) s < 32 := by
    intro ws
    induction ws with
    | nil => intro s h; exact h
    | cons x ws ih => intro s h; exact ih _ (Nat.or_lt_two_pow (n := 5) h (orG_lt hok.lg.2 _))
  exact key ws 0 (by omega)
theorem fold_take {α β : Type} (f : β → α → β) (s : β) {l : List α} {i : Nat} (h : i < l.length) : (l.take (i + 1)).foldl f s = f ((l.take i).foldl f s) l[i] := by
  rw [List.take_succ_eq_append_getElem h, List.foldl_append]; rfl
theorem way_in {l : Lot} (hok : l.Ok) {but : Nat} {h : List Int} (hw : h ∈ ways l but) (b : Nat) : 0 ≤ at_ h b ∧ at_ h b ≤ 12 := by
  have hl := way_len hw
  unfold at_
  by_cases hb : b < h.length
  · have := (felt_num hok (way_felt hw)).2 h[b] (List.getElem_mem hb)
    simp only [List.getD, List.getElem?_eq_getElem hb, Option.getD_some]; omega
  · simp [List.getD, List.getElem?_eq_none (by omega : h.length ≤ b)]
theorem span_in {l : Lot} (hok : l.Ok) {but : Nat} (b i : Nat) : 0 ≤ (spanW b ((ways l but).take i)).1 ∧ (spanW b ((ways l but).take i)).1 ≤ 12 ∧ 0 ≤ (spanW b ((ways l but).take i)).2 ∧ (spanW b ((ways l but).take i)).2 ≤ 12 := by
  have key : ∀ (ws : List (List Int)) (s : Int × Int), (∀ h ∈ ws, 0 ≤ at_ h b ∧ at_ h b ≤ 12) → 0 ≤ s.1 → s.1 ≤ 12 → 0 ≤ s.2 → s.2 ≤ 12 → 0 ≤ (ws.foldl (joinS b) s).1 ∧ (ws.foldl (joinS b) s).1 ≤ 12 ∧ 0 ≤ (ws.foldl (joinS b) s).2 ∧ (ws.foldl (joinS b) s).2 ≤ 12 := by
    intro ws
    induction ws with
    | nil => intro s _ h1 h2 h3 h4; exact ⟨h1, h2, h3, h4⟩
    | cons x ws ih =>
      intro s hh h1 h2 h3 h4
      have hx := hh x (.head _)
      refine ih _ (fun h hm => hh h (.tail _ hm)) ?_ ?_ ?_ ?_ <;> simp only [joinS] <;> omega
  exact key _ _ (fun h hh => way_in hok (List.mem_of_mem_take hh) b) (by decide) (by decide) (by decide) (by decide)
end Go.Rt.Ha
/- The walking engine, part 13: whole quotients. Plain theorems over the kit's fenced calculus. No conditions. -/
namespace Go.Rt
variable {r : Option Nat} {P : Program} {ops : Array Oper} {Q : Exit → Act → World → Prop} {rest : List Oper} {n : Nat} {ρ : Nat → Value} {ds : List Deferred} {w w0 : World} {d : Option Nat} {ty : TypeId} {p : String} {e : Array Edge} {g : Option (Nat × Bool)} {L : List (Nat × Obj)}
theorem y_quo {t t2 : TypeId} {x y : Operand} {a b : Int} (ho : okO n x = true) (ho1 : okO n y = true) (hx : ev ρ x = .int .i64 a) (hy : ev ρ y = .int .i64 b) (ha : 0 ≤ a) (hb : 0 < b) (hm : a ≤ 9223372036854775807) :
    Yd P (A n ρ ds) ⟨d, .binOp .quo t x y t2, ty, p, e, g⟩ w (.int .i64 (a / b)) := y_bin ho ho1 hx hy fun w => by
  have h0 : b ≠ 0 := by omega
  have h1 : 0 ≤ a / b := Int.ediv_nonneg ha (by omega)
  have h2 : a / b ≤ a := Int.ediv_le_self _ ha
  have hw : IntKind.i64.wrap (a / b) = a / b := wrap_in (by omega) (by omega)
  simp [binOp_quo, Op.intDiv, h0, Int.tdiv_eq_ediv_of_nonneg ha, hw]
/-- A region that draws its order: more is known at first than what stays. -/
theorem w_drawD {id : Nat} {l : List Oper} {Q : Exit → Act → World → Prop} {C0 C : World → Prop} (late : List Nat) (ord : List (Nat × Nat)) (hm : P.follows .mixedOrders = true) (hB : drawOK l.toArray late ord = true) (hC : C0 w) (h0 : ∀ w, C0 w → C w)
    (hdrew : ∀ w, C0 w → C0 { w with drawn := w.drawn + 1 }) (h : ∀ w', C0 w' → DW r P l.toArray (fun a w => Q .normal a w) C ord (A n ρ ds) w') : WC r P (.region id l.toArray true) Q (A n ρ ds) w := by
  unfold drawOK at hB
  simp only [Bool.and_eq_true] at hB
  obtain ⟨⟨⟨h1, h2⟩, h3⟩, h4⟩ := hB
  have hst' := hdrew _ hC
  have hsz : ord.length = l.toArray.size := Nat.eq_of_beq_eq_true h3
  have := wAH_of_DW h1 h2 ord (Array.replicate l.toArray.size false) (A n ρ ds) _ (by simp) h4 (fun _ => h0 _ hst') (h _ hst')
  have hany := wAny_of_wAH _ _ _ _ this
  rw [hsz] at hany
  refine wpIn_mono (wpIn_region_any hm hany) ?_
  intro e a w hq
  cases e <;> first | exact hq | exact hq.elim
end Go.Rt
/- The walking engine, part 14: lookups that ask for the value alone. No conditions. -/
namespace Go.Rt
open Go.RowKit
variable {r : Option Nat} {P : Program} {ops : Array Oper} {Q : Exit → Act → World → Prop} {rest : List Oper} {n : Nat} {ρ : Nat → Value} {ds : List Deferred} {d : Option Nat} {ty : TypeId} {p : String} {e : Array Edge} {g : Option (Nat × Bool)} {w w0 : World} {L : List (Nat × Obj)}
theorem K_look1S {mt kt el : TypeId} {x y : Operand} {l : List Int} {a : Value} {m i k j : Nat} {es : Array MapEntry} {ck : Nat} {v : Value} (hU : P.underlying mt = some (.map kt el)) (hK : KeyTy P kt k) (hkl : l.length = k)
    (hst : St w0 w L) (ho : okO n x = true) (ho1 : okO n y = true) (hx : ev ρ x = .map (some m)) (hy : ev ρ y = a) (ha : a = ia l) (hi : L[i]? = some (m, .map es ck)) (hf : ∀ w, (Instr.findKey kt (ia l) es.toList).run P w = .ok (some (j, v)) w) :
    Yd P (A n ρ ds) ⟨d, .lookup mt x y false, ty, p, e, g⟩ w v := by
  unfold Yd
  have hc := hK.chk es.isEmpty l w hkl
  have : (Instr.lookup mt (.map (some m)) (ia l) false).run P w = .ok v w := by
    simp only [Instr.lookup, Sem.run_bind, run_underlying hU, Result.andThen_ok, hst.obj hi, Sem.run_pure, hc, hf, if_true]
    rfl
  simp only [execOp, zBw ho, zBw ho1, hx, hy, ha, Sem.run_bind, this]
  rfl
theorem K_look1N {mt kt el : TypeId} {x y : Operand} {l : List Int} {a : Value} {m i k : Nat} {es : Array MapEntry} {ck : Nat} {z : Value} (hU : P.underlying mt = some (.map kt el)) (hK : KeyTy P kt k) (hkl : l.length = k)
    (hz : ∀ w, (zeroValue el).run P w = .ok z w) (hst : St w0 w L) (ho : okO n x = true) (ho1 : okO n y = true) (hx : ev ρ x = .map (some m)) (hy : ev ρ y = a) (ha : a = ia l) (hi : L[i]? = some (m, .map es ck))
    (hf : ∀ w, (Instr.findKey kt (ia l) es.toList).run P w = .ok none w) : Yd P (A n ρ ds) ⟨d, .lookup mt x y false, ty, p, e, g⟩ w z := by
  unfold Yd
  have hc := hK.chk es.isEmpty l w hkl
  have : (Instr.lookup mt (.map (some m)) (ia l) false).run P w = .ok z w := by
    simp only [Instr.lookup, Sem.run_bind, run_underlying hU, Result.andThen_ok, hst.obj hi, Sem.run_pure, hc, hf, hz, if_true]
    rfl
  simp only [execOp, zBw ho, zBw ho1, hx, hy, ha, Sem.run_bind, this]
  rfl
end Go.Rt
set_option maxRecDepth 20000
namespace Go.Proofs.Hn
open Go.Proofs.Tryz
open Go.Rt Go.Rt.Ha
attribute [local irreducible] WL WC Con Yd At Ats Sl Agree DW
theorem Try_HI_fb1 (x0 : Int) (w : World) : (Instr.buildSlice 43 1 [(0, .int .i64 x0)].toArray).run Tryz.prog w = .ok (.slice (some ⟨w.heap.size, 0, none⟩) 1 1) (w.alloc (Go.Rt.blk 3 [.int .i64 x0])) := by kernel_rfl
theorem zC9 : Tryz.prog.info? 3 = some Tryz.t3 := by kernel_rfl
theorem key_zip {P : Program} {t k : Nat} {fs : Array Field} (ks : List Nat) (hu : P.underlying t = some (.struct fs)) (hp : P.stoodInHeld t = false) (h1 : fs.toList = (fs.toList.zip ks).map Prod.fst) (h2 : ∀ q ∈ fs.toList.zip ks, FF P q.1 q.2 ∧ q.1.offset + q.2 ≤ k)
    (h3 : ∀ q ∈ fs.toList.zip ks, P.underlying q.1.type = some (.int .i64) ∨ ∃ el, P.underlying q.1.type = some (.array q.2 el) ∧ P.underlying el = some (.int .i64) ∧ ∀ w, (sizeOf el).run P w = .ok 1 w)
    (h4 : ∀ l m : List Int, l.length = k → m.length = k → ((fs.toList.zip ks).all fun q => decide ((l.drop q.1.offset).take q.2 = (m.drop q.1.offset).take q.2)) = decide (l = m)) : KeyTy P t k := keyTy_struct _ hu hp h1 h2 h3 h4
theorem key124_cov : ∀ l m : List Int, l.length = 2 → m.length = 2 → (decide ((l.drop 0).take 1 = (m.drop 0).take 1) && (decide ((l.drop 1).take 1 = (m.drop 1).take 1) && true)) = decide (l = m) := by
  intro l m hl hm
  match l, hl with
  | [a, b], _ =>
    match m, hm with
    | [a', b'], _ => rw [Bool.eq_iff_iff]; simp
theorem key102 : KeyTy Tryz.prog 102 2 := by
  refine key_zip [1, 1] underlying102 (by kernel_rfl) rfl ?_ ?_ ?_
  · intro q hq
    simp only [List.zip_cons_cons, List.zip_nil_right, List.mem_cons, List.not_mem_nil, or_false] at hq
    rcases hq with rfl | rfl
    · exact ⟨⟨by decide, .inl ⟨underlying3, rfl⟩⟩, by decide⟩
    · exact ⟨⟨by decide, .inl ⟨underlying3, rfl⟩⟩, by decide⟩
  · intro q hq
    simp only [List.zip_cons_cons, List.zip_nil_right, List.mem_cons, List.not_mem_nil, or_false] at hq
    rcases hq with rfl | rfl
    · exact .inl underlying3
    · exact .inl underlying3
  · exact key124_cov
/-- What the memo of a lot that is looked at holds. -/
def Memo (l : Lot) (mm : Nat) (M : List (Nat × Obj)) : Prop := ∃ es ck, M = [(mm, .map es ck)] ∧ ∀ e ∈ es.toList, ∃ (b : Nat) (h : Int), b < l.bunches.length ∧ e.key = ia [(b : Int), h] ∧ e.val = .int .i64 ((gradesB l (bunchOf l b) h : Nat) : Int)
theorem memo_new (l : Lot) (mm : Nat) : Memo l mm [(mm, .map #[] 0)] := ⟨#[], 0, rfl, fun e he => by simp at he⟩
theorem drop_2nd {w0 w : World} {F : List (Nat × Obj)} {a b : Nat × Obj} (h : St w0 w (a :: b :: F)) : St w0 w (a :: F) := (h.perm (zBe [a] [b] F)).tail
theorem ptr_i {b : Nat} {z z' : Int} (h : z = z') : [Value.int .i64 z, Value.pointer (some ⟨b, 0, none⟩)] = [Value.int .i64 z', Value.pointer (some ⟨b, 0, none⟩)] := by rw [h]
theorem c84 {w0 w : World} {F : List (Nat × Obj)} (g : Grade) (bx bs : Nat) (b : Int) (h s : Int) (h1 : Ats w0 F bx 0 [.int .i64 b, .int .i64 h]) (h2 : Ats w0 F bs 0 [.int .i64 s]) (hs : St w0 w F) :
  Con Tryz.prog 84 [.agg g.cells.toArray, .pointer (some ⟨bx, 0, none⟩), .pointer (some ⟨bs, 0, none⟩)] w fun v w' => v = .bool (decide (g.hands ≤ h ∧ s ≤ g.scars)) ∧ St w0 w' F := by
  refine zAw (n := 16) func84 rfl rfl (Nat.le_of_ble_eq_true rfl) ?_
  refine zAg (fun K2 hK1 => ?_)
  refine zAb (zB3 (v := .agg #[.string _, .int _ _, .int _ _]) (cs := [_, _, _]) zAa rfl rfl rfl hs (fun b3 w4 hs5 => ?_))
  refine w_p (zAc (v := _) rfl rfl) rfl ?_
  refine zAf (zAd (hK1 _ _ ?_))
  refine zAg (fun K7 hK6 => ?_)
  refine zAb (w_p (zAh (o := 1) (i := 1) underlying102 rfl sizeOf3 rfl rfl rfl) rfl ?_)
  refine w_p (zAk isAgg3 hs5.tail rfl rfl (show Ats _ _ _ _ [_] from Ats.part h1 1 1)) rfl ?_
  refine w_p (zAh (o := 1) (i := 1) underlying57 rfl sizeOf3 rfl rfl rfl) rfl ?_
  refine w_p (zAk isAgg3 hs5 rfl rfl (zAj (i := 0) (vs := [_]) rfl rfl)) rfl ?_
  refine w_p (y_geq rfl rfl rfl rfl) rfl ?_
  refine w_p (zAe (v := .bool _) rfl rfl) rfl ?_
  refine zBi (fun h8 => ?_) (fun h8 => ?_)
  ·
   try simp only [zS] at h8
   refine w_y rfl rfl rfl (zAk isAgg3 hs5.tail rfl rfl h2) rfl ?_
   refine w_y rfl rfl rfl (zAh (o := 2) (i := 2) underlying57 rfl sizeOf3 rfl rfl rfl) rfl ?_
   refine w_y rfl rfl rfl (zAk isAgg3 hs5 rfl rfl (zAj (i := 0) (vs := [_]) rfl rfl)) rfl ?_
   refine w_y rfl rfl rfl (y_leq rfl rfl rfl rfl) rfl ?_
   refine w_p (zA0 (v := .bool _) rfl rfl rfl rfl) rfl ?_
   refine w_p (zAc (v := .bool _) rfl rfl) rfl ?_
   refine zAf (zAd (hK6 _ _ ?_))
   refine zA2 (zA3 (l := [.tmp 4]) (vs := [_]) rfl ⟨⟨rfl, (rfl : _ = Value.bool _)⟩, trivial⟩ ?_)
   exact ⟨congrArg Value.bool (by rw [Bool.eq_iff_iff]; simp [h8] <;> omega), hs5.tail⟩
  try simp only [zS] at h8
  refine zAi rfl rfl rfl ?_
  refine zAi rfl rfl rfl ?_
  refine zAi rfl rfl rfl ?_
  refine zAi rfl rfl rfl ?_
  refine w_p (zBb (v := _) rfl rfl rfl rfl) rfl ?_
  refine w_p (zAc (v := .bool _) rfl rfl) rfl ?_
  refine zAf (zAd (hK6 _ _ ?_))
  refine zA2 (zA3 (l := [.tmp 4]) (vs := [_]) rfl ⟨⟨rfl, (rfl : _ = Value.bool _)⟩, trivial⟩ ?_)
  exact ⟨congrArg Value.bool (by rw [Bool.eq_iff_iff]; simp [h8] <;> omega), hs5.tail⟩

theorem c47f {w0 w : World} {F : List (Nat × Obj)} (l : Lot) (p : At3) (but lb mm : Nat) (hk : LK w0 F l p but lb mm) (b : Nat) (hb2 : b < l.bunches.length) (h : Int) (es : Array MapEntry) (ck : Nat) (j : Nat) (z : Int) (hz : 0 < z) (hf : ∀ w, (Instr.findKey 102 (ia [(b : Int), h]) es.toList).run Tryz.prog w = .ok (some (j, .int .i64 z)) w) (hs : St w0 w ((mm, .map es ck) :: F)) :
  Con Tryz.prog 47 [.pointer (some ⟨lb, 0, none⟩), .agg #[.int .i64 (b : Int), .int .i64 h]] w fun v w' => v = .int .i64 z ∧ St w0 w' ((mm, .map es ck) :: F) := by
  refine zAw (n := 57) func47 rfl rfl (Nat.le_of_ble_eq_true rfl) ?_
  have hb := hk.b
  refine zAg (fun K2 hK1 => ?_)
  refine zAb (zB3 (v := .agg #[.int _ _, .int _ _]) (cs := [_, _]) zAa rfl rfl rfl hs (fun b3 w4 hs5 => ?_))
  refine w_p (zAc (v := _) rfl rfl) rfl ?_
  refine zAf (zAd (hK1 _ _ ?_))
  refine zAg (fun K7 hK6 => ?_)
  refine zAg (fun K9 hK8 => ?_)
  refine zB7 [] [(0, 0), (1, 0), (2, 0), (3, 1), (4, 1), (5, 1), (6, 0)] zBu (by kernel_rfl) hs5 (fun w10 hs11 => ?_)
  refine zAp rfl zAa rfl (fun _ => (zAe (v := .pointer _) rfl rfl)) ?_
  refine zAp rfl zAa rfl (fun _ => (zBk rfl rfl)) ?_
  refine zAp rfl zAa rfl (fun _ => (zAh (o := 4) (i := 2) underlying141 rfl sizeOf139 rfl rfl rfl)) ?_
  refine zBa rfl zAa rfl hs11 (fun _ hq => (zAk isAgg139 hq.tail.tail rfl rfl (show Ats _ _ _ _ [_] from Ats.part hb 4 1))) ?_
  refine zBa rfl zAa rfl hs11 (fun _ hq => (zA6 (vs := [_, _]) isAgg102 sizeOf102 hq rfl rfl (zAj (i := 0) (vs := [_, _]) rfl rfl))) ?_
  refine zBa rfl zAa rfl hs11 (fun _ hq => (K_look1S (i := 1) (l := [(b : Int), h]) underlying139 key102 rfl hq rfl rfl rfl rfl rfl rfl hf)) ?_
  refine zAp rfl zAa rfl (fun _ => (zAc (v := .int _ _) rfl rfl)) ?_
  refine zB1 ?_
  refine zAd (hK8 _ _ ?_)
  refine zAg (fun K13 hK12 => ?_)
  refine zAb (w_p (zAe (v := .int _ _) rfl rfl) rfl ?_)
  refine w_p (y_gtr rfl rfl rfl rfl) rfl ?_
  refine zAf (zAd (hK12 _ _ ?_))
  refine zAz rfl rfl (fun h14 => ?_) (fun h14 => ?_)
  ·
   try simp only [zS] at h14
   refine zAg (fun K16 hK15 => ?_)
   refine zAb (w_p (zAe (v := .int _ _) rfl rfl) rfl ?_)
   refine w_p (zAc (v := .int _ _) rfl rfl) rfl ?_
   refine zAf (zAd (hK15 _ _ ?_))
   refine zA2 (zAm (zA3 (l := [.tmp 4]) (vs := [_]) rfl ⟨⟨rfl, (rfl : _ = Value.int _ _)⟩, trivial⟩ ?_))
   exact ⟨rfl, hs11.tail⟩
  exfalso
  try simp only [zS] at h14
  omega

theorem c47n {w0 w : World} {F : List (Nat × Obj)} (l : Lot) (p : At3) (but lb mm : Nat) (hk : LK w0 F l p but lb mm) (b : Nat) (hb2 : b < l.bunches.length) (h : Int) (es : Array MapEntry) (ck : Nat) (hf : ∀ w, (Instr.findKey 102 (ia [(b : Int), h]) es.toList).run Tryz.prog w = .ok none w) (hs : St w0 w ((mm, .map es ck) :: F)) :
  Con Tryz.prog 47 [.pointer (some ⟨lb, 0, none⟩), .agg #[.int .i64 (b : Int), .int .i64 h]] w fun v w' => v = .int .i64 ((gradesB l (bunchOf l b) h : Nat) : Int) ∧ St w0 w' ((mm, .map (es.push { key := ia [(b : Int), h], val := .int .i64 ((gradesB l (bunchOf l b) h : Nat) : Int), born := ck }) (ck + 1)) :: F) := by
  refine zAw (n := 57) func47 rfl rfl (Nat.le_of_ble_eq_true rfl) ?_
  obtain ⟨ag, cg, ab, cb, ac, cc⟩ := p
  have hb := hk.b
  have hbt := hk.bt
  have hlg := hk.ok.lg
  have hlb := hk.ok.lb
  have hlc := hk.ok.lc
  obtain ⟨bx, ox, hbx, hx⟩ := sl_brows hk.i.b hb2
  subst hbx
  have hbu := hk.ok.bunch _ (List.getElem_mem hb2)
  have hgb := gradesB_in hk.ok hb2 h
  refine zAg (fun K2 hK1 => ?_)
  refine zAb (zB3 (v := .agg #[.int _ _, .int _ _]) (cs := [_, _]) zAa rfl rfl rfl hs (fun b3 w4 hs5 => ?_))
  refine w_p (zAc (v := _) rfl rfl) rfl ?_
  refine zAf (zAd (hK1 _ _ ?_))
  refine zAg (fun K7 hK6 => ?_)
  refine zAg (fun K9 hK8 => ?_)
  refine zB7 [] [(0, 0), (1, 0), (2, 0), (3, 1), (4, 1), (5, 1), (6, 0)] zBu (by kernel_rfl) hs5 (fun w10 hs11 => ?_)
  refine zAp rfl zAa rfl (fun _ => (zAe (v := .pointer _) rfl rfl)) ?_
  refine zAp rfl zAa rfl (fun _ => (zBk rfl rfl)) ?_
  refine zAp rfl zAa rfl (fun _ => (zAh (o := 4) (i := 2) underlying141 rfl sizeOf139 rfl rfl rfl)) ?_
  refine zBa rfl zAa rfl hs11 (fun _ hq => (zAk isAgg139 hq.tail.tail rfl rfl (show Ats _ _ _ _ [_] from Ats.part hb 4 1))) ?_
  refine zBa rfl zAa rfl hs11 (fun _ hq => (zA6 (vs := [_, _]) isAgg102 sizeOf102 hq rfl rfl (zAj (i := 0) (vs := [_, _]) rfl rfl))) ?_
  refine zBa rfl zAa rfl hs11 (fun _ hq => (K_look1N (i := 1) (l := [(b : Int), h]) (z := .int .i64 0) underlying139 key102 rfl zeroValue3 hq rfl rfl rfl rfl rfl rfl hf)) ?_
  refine zAp rfl zAa rfl (fun _ => (zAc (v := .int _ _) rfl rfl)) ?_
  refine zB1 ?_
  refine zAd (hK8 _ _ ?_)
  refine zAg (fun K13 hK12 => ?_)
  refine zAb (w_p (zAe (v := .int _ _) rfl rfl) rfl ?_)
  refine w_p (y_gtr rfl rfl rfl rfl) rfl ?_
  refine zAf (zAd (hK12 _ _ ?_))
  refine zAz rfl rfl (fun h14 => ?_) (fun h14 => ?_)
  ·
   exfalso
   try simp only [zS] at h14
   omega
  try simp only [zS] at h14
  refine zAx (zAd (hK6 _ _ ?_))
  refine zAg (fun K16 hK15 => ?_)
  refine zAb (w_p (zAc (v := _) rfl rfl) rfl ?_)
  refine zAf (zAd (hK15 _ _ ?_))
  refine zAg (fun K18 hK17 => ?_)
  refine zB7 [11] [(0, 0), (1, 0), (2, 0), (3, 0), (4, 1), (5, 0), (6, 1), (7, 0), (8, 0), (9, 1), (10, 2), (11, 3)] zBu (by kernel_rfl) hs11 (fun w19 hs20 => ?_)
  refine zAp rfl zAa rfl (fun _ => (zAe (v := .pointer _) rfl rfl)) ?_
  refine zAp rfl zAa rfl (fun _ => (zBk rfl rfl)) ?_
  refine zAp rfl zAa rfl (fun _ => (zAh (o := 0) (i := 0) underlying141 rfl sizeOf26 rfl rfl rfl)) ?_
  refine zAp rfl zAa rfl (fun _ => (zAh (o := 1) (i := 1) underlying26 rfl sizeOf23 rfl rfl rfl)) ?_
  refine zBa rfl zAa rfl hs20 (fun _ hq => (zAk isAgg23 hq.tail.tail rfl rfl (show Ats _ _ _ _ [_] from Ats.part hb 1 1))) ?_
  refine zAp rfl zAa rfl (fun _ => (zAh (o := 0) (i := 0) underlying102 rfl sizeOf3 rfl rfl rfl)) ?_
  refine zBa rfl zAa rfl hs20 (fun _ hq => (zAk isAgg3 hq rfl rfl (zAj (i := 0) (vs := [_]) rfl rfl))) ?_
  refine zAp rfl zAa rfl (fun _ => (zA7 underlying23 sizeOf61 rfl rfl rfl rfl (i := b) rfl (by omega))) ?_
  refine zAp rfl zAa rfl (fun _ => (zAh (o := 2) (i := 1) underlying61 rfl sizeOf28 rfl rfl rfl)) ?_
  refine zBa rfl zAa rfl hs20 (fun _ hq => (zA6 (vs := [_, _]) isAgg28 sizeOf28 hq.tail.tail rfl rfl (show Ats _ _ _ _ [_, _] from Ats.part hx 2 2))) ?_
  refine zCl rfl ?_
  refine zA9 (cs := [_, _]) zAa zeroValue28 rfl hs20 (fun b21 w22 hs23 => ?_)
  refine zAf (qn ⟨hs23.tail, ?_⟩)
  refine zC8 rfl ?_
  refine zA5 (i := 0) (v := .agg #[.int _ _, .int _ _]) (vs := [_, _]) zAa sizeOf28 rfl rfl rfl rfl rfl (by simp [Value.oneCell']) hs23 rfl (Nat.le_of_ble_eq_true rfl) (fun w24 hs25 => ?_)
  refine zAf (qn ?_)
  refine zB1 ?_
  refine zAd (hK17 _ _ ?_)
  refine zAg (fun K27 hK26 => ?_)
  refine zAg (fun K29 hK28 => ?_)
  refine zAb (w_p (zAh (o := 0) (i := 0) underlying28 rfl sizeOf3 rfl rfl rfl) rfl ?_)
  refine w_p (zAk isAgg3 hs25 rfl rfl (zAj (i := 0) (vs := [_]) rfl rfl)) rfl ?_
  refine zA9 (cs := [_]) zAa zeroValue3 rfl hs25 (fun b30 w31 hs32 => ?_)
  refine zA5 (i := 0) (v := .int _ _) (vs := [_]) zAa sizeOf3 rfl rfl rfl rfl rfl (by simp [Value.oneCell']) hs32 rfl (Nat.le_of_ble_eq_true rfl) (fun w33 hs34 => ?_)
  refine zAf (zAd (hK28 _ _ ?_))
  refine zAy ?_
  refine zBp [6, 8, 9, 31, 32, 33, 34, 35, 36, 37, 38, 39, 40, 41, 42, 43, 44, 45, 46, 47, 48, 49] [6, 8] (fun k vs w => ∃ (q b8 : Nat), vs = [.int .i64 ((orG l.grades h (upto (l.bunches[b]'hb2).slo q) : Nat) : Int), .pointer (some ⟨b8, 0, none⟩)] ∧ (q : Int) ≤ (l.bunches[b]'hb2).shi + 1 - (l.bunches[b]'hb2).slo ∧ k = ((l.bunches[b]'hb2).shi + 1 - (l.bunches[b]'hb2).slo).toNat - q ∧ St w0 w ((b8, blk 3 [.int .i64 ((l.bunches[b]'hb2).slo + q)]) :: (b21, blk 28 [.int .i64 (l.bunches[b]'hb2).slo, .int .i64 (l.bunches[b]'hb2).shi]) :: (b3, blk 102 [.int .i64 (b : Int), .int .i64 h]) :: (mm, .map es ck) :: F)) (((l.bunches[b]'hb2).shi + 1 - (l.bunches[b]'hb2).slo).toNat) ?_ ?_
  ·
   exact ⟨0, _, rfl, by omega, by omega, by rw [show (l.bunches[b]'hb2).slo + ((0 : Nat) : Int) = (l.bunches[b]'hb2).slo by omega]; exact hs34⟩
  intro k vs μ w37 hI K36 hN35
  obtain ⟨q, b8, rfl, hq, rfl, hs⟩ := hI
  refine zAg (fun K39 hK38 => ?_)
  refine zAg (fun K41 hK40 => ?_)
  refine zAb (w_p (zAk isAgg3 hs rfl rfl (zAj (i := 0) (vs := [_]) rfl rfl)) rfl ?_)
  refine w_p (zAh (o := 1) (i := 1) underlying28 rfl sizeOf3 rfl rfl rfl) rfl ?_
  refine w_p (zAk isAgg3 hs rfl rfl (zAj (i := 1) (vs := [_]) rfl rfl)) rfl ?_
  refine w_p (y_leq rfl rfl rfl rfl) rfl ?_
  refine zAf (zAd (hK40 _ _ ?_))
  refine zAz rfl rfl (fun h42 => ?_) (fun h42 => ?_)
  ·
   try simp only [zS] at h42
   refine zAx (zAd (hK38 _ _ ?_))
   refine zAg (fun K44 hK43 => ?_)
   refine zAy ?_
   refine zAg (fun K46 hK45 => ?_)
   have ho := ofG_to (gs := l.grades) (h := h) (s := (l.bunches[b]'hb2).slo + q) hlg.2
   have hol := orG_lt (gs := l.grades) (h := h) hlg.2 (upto (l.bunches[b]'hb2).slo q)
   have hsl := (shl_5 ho.2.1).1
   refine zAb (w_p (zAe (v := .pointer _) rfl rfl) rfl ?_)
   refine w_p (zBk rfl rfl) rfl ?_
   refine w_p (zAh (o := 0) (i := 0) underlying141 rfl sizeOf26 rfl rfl rfl) rfl ?_
   refine w_p (zAh (o := 0) (i := 0) underlying26 rfl sizeOf22 rfl rfl rfl) rfl ?_
   refine w_p (zAk isAgg22 hs.tail.tail.tail.tail rfl rfl (show Ats _ _ _ _ [_] from Ats.part hb 0 1)) rfl ?_
   refine w_p (zB9 (fv := []) (cv := [_, _]) rfl rfl rfl rfl) rfl ?_
   refine zAt zAa call83 rfl rfl rfl rfl ((c83 _ l.grades _ (by omega) hk.i.g.cons.cons.cons.cons call84 #[] #[.pointer (some ⟨b3, 0, none⟩), .pointer (some ⟨b8, 0, none⟩)] (fun g => decide (g.hands ≤ h ∧ (l.bunches[b]'hb2).slo + q ≤ g.scars)) (fun g _ w hs => c84 g _ _ (b : Int) h ((l.bunches[b]'hb2).slo + q) (zAj (i := 2) (vs := [_, _]) rfl rfl) (zAj (i := 0) (vs := [_]) rfl rfl) hs) hs).mono (fun v w' h => by rw [fidx_of] at h; exact h)) ?_
   rintro _ w48 ⟨rfl, hs49⟩
   refine w_p (zAc (v := .int _ _) rfl rfl) rfl ?_
   refine zAf (zAd (hK45 _ _ ?_))
   refine zAb (w_p (zAe (v := .int _ _) rfl rfl) rfl ?_)
   refine w_p (zAe (v := .int _ _) rfl rfl) rfl ?_
   refine w_p (zBf rfl rfl rfl rfl (by omega) (by omega)) rfl ?_
   refine w_p (y_shl (x := 1) (y := (ofG l.grades 0 h ((l.bunches[b]'hb2).slo + q) + 1).toNat) rfl rfl rfl rfl rfl (by first | rfl | omega) (by first | omega | exact zB8 (by omega)) (by first | omega | exact zB8 (by omega))) rfl ?_
   refine w_p (y_or (x := orG l.grades h (upto (l.bunches[b]'hb2).slo q)) (y := 1 <<< (ofG l.grades 0 h ((l.bunches[b]'hb2).slo + q) + 1).toNat) rfl rfl rfl rfl (by first | rfl | omega) (by first | rfl | omega) (by first | omega | exact zB8 (by omega)) (by first | omega | exact zB8 (by omega))) rfl ?_
   refine w_p (zAc (v := .int _ _) rfl rfl) rfl ?_
   refine zAf (zAl (zAd (hK43 _ _ ?_)))
   refine zAg (fun K51 hK50 => ?_)
   refine zAg (fun K53 hK52 => ?_)
   refine zAb (w_p (zAk isAgg3 hs49 rfl rfl (zAj (i := 0) (vs := [_]) rfl rfl)) rfl ?_)
   refine zAf (zAd (hK52 _ _ ?_))
   refine zAb (zA9 (cs := [_]) zAa zeroValue3 rfl hs49 (fun b54 w55 hs56 => ?_))
   refine zA5 (i := 0) (v := .int _ _) (vs := [_]) zAa sizeOf3 rfl rfl rfl rfl rfl (by simp [Value.oneCell']) hs56 rfl (Nat.le_of_ble_eq_true rfl) (fun w57 hs58 => ?_)
   refine zAf (zAd (hK50 _ _ ?_))
   refine zAb (w_p (zAk isAgg3 hs58 rfl rfl (zAj (i := 0) (vs := [_]) rfl rfl)) rfl ?_)
   refine w_p (zBf rfl rfl rfl rfl (by omega) (by omega)) rfl ?_
   refine zA5 (i := 0) (v := .int _ _) (vs := [_]) zAa sizeOf3 rfl rfl rfl rfl rfl (by simp [Value.oneCell']) hs58 rfl (Nat.le_of_ble_eq_true rfl) (fun w59 hs60 => ?_)
   refine zAf (zAd (hN35 _ _ (Nx.intro (((l.bunches[b]'hb2).shi + 1 - (l.bunches[b]'hb2).slo).toNat - (q + 1)) (by omega) (by repeat (first | exact zAv | refine zAu rfl ?_ | refine zAs rfl ?_ _ | refine zAr rfl ?_)) ?_)))
   exact ⟨q + 1, _, ptr_i (by rw [upto_snoc, orG_snoc]), by omega, rfl, by rw [show (l.bunches[b]'hb2).slo + ((q + 1 : Nat) : Int) = (l.bunches[b]'hb2).slo + q + 1 by omega]; exact drop_2nd hs60⟩
  try simp only [zS] at h42
  refine zBl (zAo (zAo (zA4 (zAd (hK26 _ _ ?_)))))
  refine zAg (fun K62 hK61 => ?_)
  have hqc : q = ((l.bunches[b]'hb2).shi + 1 - (l.bunches[b]'hb2).slo).toNat := by omega
  have hgr : gradesB l (bunchOf l b) h = orG l.grades h (upto (l.bunches[b]'hb2).slo q) := by rw [bunch_at hb2, hqc]; rfl
  refine zB7 [6] [(0, 0), (1, 0), (2, 0), (3, 1), (4, 1), (5, 0), (6, 3)] zBu (by kernel_rfl) hs (fun w63 hs64 => ?_)
  refine zAp rfl zAa rfl (fun _ => (zAe (v := .pointer _) rfl rfl)) ?_
  refine zAp rfl zAa rfl (fun _ => (zBk rfl rfl)) ?_
  refine zAp rfl zAa rfl (fun _ => (zAh (o := 4) (i := 2) underlying141 rfl sizeOf139 rfl rfl rfl)) ?_
  refine zBa rfl zAa rfl hs64 (fun _ hq => (zAk isAgg139 hq.tail.tail.tail.tail rfl rfl (show Ats _ _ _ _ [_] from Ats.part hb 4 1))) ?_
  refine zBa rfl zAa rfl hs64 (fun _ hq => (zA6 (vs := [_, _]) isAgg102 sizeOf102 hq rfl rfl (zAj (i := 2) (vs := [_, _]) rfl rfl))) ?_
  refine zAp rfl zAa rfl (fun _ => (zAe (v := .int _ _) rfl rfl)) ?_
  refine zC8 rfl ?_
  refine K_mapAdd (i := 3) (l := [(b : Int), h]) zAa underlying139 key102 rfl rfl rfl rfl rfl rfl rfl rfl hs64 rfl hf (fun w65 hs66 => ?_)
  refine zAf (qn ?_)
  refine zB1 ?_
  refine zAd (hK61 _ _ ?_)
  refine zAg (fun K68 hK67 => ?_)
  refine zAb (w_p (zAe (v := .int _ _) rfl rfl) rfl ?_)
  refine w_p (zAc (v := .int _ _) rfl rfl) rfl ?_
  refine zAf (zAd (hK67 _ _ ?_))
  refine zA2 (zA3 (l := [.tmp 4]) (vs := [_]) rfl ⟨⟨rfl, (rfl : _ = Value.int _ _)⟩, trivial⟩ ?_)
  exact ⟨by rw [hgr]; rfl, by rw [hgr]; exact hs66.tail.tail.tail⟩

theorem grades_con {w0 w : World} {X M F : List (Nat × Obj)} (l : Lot) (p : At3) (but lb mm : Nat) (hk : LK w0 F l p but lb mm) (b : Nat) (hb2 : b < l.bunches.length) (h : Int) (hM : Memo l mm M) (hs : St w0 w (X ++ (M ++ F))) :
    Con Tryz.prog 47 [.pointer (some ⟨lb, 0, none⟩), .agg #[.int .i64 (b : Int), .int .i64 h]] w fun v w' => v = .int .i64 ((gradesB l (bunchOf l b) h : Nat) : Int) ∧ ∃ M', Memo l mm M' ∧ St w0 w' (X ++ (M' ++ F)) := by
  obtain ⟨es, ck, rfl, hes⟩ := hM
  have hs1 : St w0 w ((mm, .map es ck) :: (X ++ F)) := hs.perm (zBe X [(mm, .map es ck)] F)
  rcases K_findKey key102 (l := [(b : Int), h]) rfl es.toList (fun e he => by obtain ⟨b', h', _, h2, _⟩ := hes e he; exact ⟨_, rfl, h2⟩) with ⟨hf, hne⟩ | ⟨j, e, hf, hmem, hkey⟩
  · refine (c47n l p but lb mm hk.app b hb2 h es ck hf hs1).mono ?_
    rintro v w' ⟨rfl, hs2⟩
    refine ⟨rfl, _, ⟨_, _, rfl, fun e he => ?_⟩, hs2.perm (zBe [_] X F)⟩
    rw [Array.toList_push, List.mem_append] at he
    rcases he with he | he
    · exact hes e he
    · rw [List.mem_singleton] at he
      subst he
      exact ⟨b, h, hb2, rfl, rfl⟩
  · obtain ⟨b', h', hb', h2, h3⟩ := hes e hmem
    have e1 := ia_inj (h2.symm.trans hkey)
    injection e1 with e1 e2
    injection e2 with e2 _
    have e3 : b' = b := by omega
    subst e2 e3
    rw [h3] at hf
    refine (c47f l p but lb mm hk.app b' hb2 h' es ck j _ (by have := gradesB_in hk.ok hb2 h'; omega) hf hs1).mono ?_
    rintro v w' ⟨rfl, hs2⟩
    exact ⟨rfl, _, ⟨es, ck, rfl, hes⟩, hs2.perm (zBe [_] X F)⟩
theorem own_snoc {v : Value} {l : List Int} {z : Int} {B : List (Nat × Obj)} (h : Rt.Own v 3 1 (l.length + 1) (iv l ++ [[Value.int .i64 z]].flatten) B) : Rt.Own v 3 1 (l ++ [z]).length (iv (l ++ [z])) B := by simpa [iv] using h
theorem listL_yes {x i : Nat} (h : ((bit x i : Nat) : Int) = 1) : listL x (i + 1) = listL x i ++ [(i : Int)] := by simp only [listL]; rw [if_pos (by omega)]
theorem listL_no {x i : Nat} (h : ¬ ((bit x i : Nat) : Int) = 1) : listL x (i + 1) = listL x i := by simp only [listL]; rw [if_neg (by omega), List.append_nil]
theorem listL_le (x : Nat) : ∀ n, (listL x n).length ≤ n
  | 0 => by simp [listL]
  | n + 1 => by have := listL_le x n; simp only [listL, List.length_append]; split <;> simp <;> omega
theorem c59 {w0 w : World} {F : List (Nat × Obj)} (x n : Nat) (hx : x < 1000) (hn : n ≤ 40) (hs : St w0 w F) :
  Con Tryz.prog 59 [.int .i64 x, .int .i64 n] w fun v w' => ∃ B, Rt.Own v 3 1 (listL x n).length (iv (listL x n)) B ∧ St w0 w' (B ++ F) := by
  refine zAw (n := 21) func59 rfl rfl (Nat.le_of_ble_eq_true rfl) ?_
  refine zAg (fun K2 hK1 => ?_)
  refine zAb (w_p (zAc (v := _) rfl rfl) rfl ?_)
  refine zAf (zAd (hK1 _ _ ?_))
  refine zAg (fun K4 hK3 => ?_)
  refine zAg (fun K6 hK5 => ?_)
  refine zAb (w_p (zAe (v := .int _ _) rfl rfl) rfl ?_)
  refine w_p (zAe (v := _) rfl rfl) rfl ?_
  refine zAf (zAd (hK5 _ _ ?_))
  refine zAy ?_
  refine zBp [4, 5, 7, 8, 9, 10, 11, 12, 13, 14, 15, 16, 17, 18, 19] [4, 7] (fun k vs w => ∃ (i : Nat) (v : Value) (B : List (Nat × Obj)), vs = [v, .int .i64 i] ∧ i ≤ n ∧ k = n - i ∧ Rt.Own v 3 1 (listL x i).length (iv (listL x i)) B ∧ St w0 w (B ++ F)) (n) ?_ ?_
  ·
   exact ⟨0, _, [], rfl, by omega, by omega, own_nil 3 1, hs⟩
  intro k vs μ w9 hI K8 hN7
  obtain ⟨i, v, B, rfl, hia, rfl, hown, hs⟩ := hI
  have hll := listL_le x i
  refine zAg (fun K11 hK10 => ?_)
  refine zAb (w_p (zBt rfl rfl rfl rfl) rfl ?_)
  refine zAf (zAd (hK10 _ _ ?_))
  refine zAg (fun K13 hK12 => ?_)
  refine zAz rfl rfl (fun h14 => ?_) (fun h14 => ?_)
  ·
   try simp only [zS] at h14
   refine zAx (zAd (hK12 _ _ ?_))
   refine zAg (fun K16 hK15 => ?_)
   refine zAy ?_
   refine zAg (fun K18 hK17 => ?_)
   refine zAb (w_p (zAe (v := .int _ _) rfl rfl) rfl ?_)
   refine w_p (zAc (v := .int _ _) rfl rfl) rfl ?_
   refine zAf (zAd (hK17 _ _ ?_))
   refine zAg (fun K20 hK19 => ?_)
   refine zAb (w_p (zAe (v := .int _ _) rfl rfl) rfl ?_)
   refine w_p (zAe (v := .int _ _) rfl rfl) rfl ?_
   refine w_p (y_shr (x := x) (y := i) rfl rfl rfl rfl (by first | rfl | omega) (by first | rfl | omega) (by first | omega | exact zB8 (by omega))) rfl ?_
   refine w_p (show Yd _ _ _ _ (.int .i64 ((bit x i : Nat) : Int)) from (y_and (x := _) (y := 1) rfl rfl rfl rfl rfl rfl (by first | omega | exact zB8 (by omega)) (by first | omega | exact zB8 (by omega)))) rfl ?_
   refine w_p (zBy rfl rfl rfl rfl) rfl ?_
   refine zAf (zAd (hK19 _ _ ?_))
   refine zAz rfl rfl (fun h21 => ?_) (fun h21 => ?_)
   ·
    try simp only [zS] at h21
    refine zAb (w_p (zAe (v := v) rfl rfl) rfl ?_)
    refine w_p (zAe (v := .int _ _) rfl rfl) rfl ?_
    refine zBh (ps := [(0, _)]) (pv := [(0, .int _ _)]) (cs := [_]) zAa rfl rfl (fun w => Try_HI_fb1 _ w) hs (fun b22 w23 hs24 => ?_)
    refine zCw (X := (_ :: [])) (B := B) (rows := [[_]]) (sz := 1) (bytes := 8) zAa underlying43 zC9 rfl rfl rfl rfl rfl rfl rfl rfl rfl hs24 hown (zBr (i := 0) rfl (by simp) rfl) rfl (by simp) (by simp [Value.oneCell']) (by simp only [maxLen]; omega) (by omega) (fun v25 w26 B27 ho28 hs29 => ?_)
    replace hs29 := (show St _ _ (_ :: B27 ++ (F)) from hs29)
    refine w_p (zAc (v := v25) rfl rfl) rfl ?_
    refine zAf (zAl (zAd (hK15 _ _ ?_)))
    refine zAb (w_p (zBf rfl rfl rfl rfl (by omega) (by omega)) rfl ?_)
    refine w_p (zAe (v := .int _ _) rfl rfl) rfl ?_
    refine zAf (zAd (hN7 _ _ (Nx.intro (n - (i + 1)) (by omega) (by repeat (first | exact zAv | refine zAu rfl ?_ | refine zAs rfl ?_ _ | refine zAr rfl ?_)) ?_)))
    exact ⟨i + 1, _, _, rfl, by omega, rfl, by rw [listL_yes (by assumption)]; exact own_snoc ho28, hs29.tail⟩
   try simp only [zS] at h21
   refine zAx (zAl (zAd (hK15 _ _ ?_)))
   refine zAb (w_p (zBf rfl rfl rfl rfl (by omega) (by omega)) rfl ?_)
   refine w_p (zAe (v := .int _ _) rfl rfl) rfl ?_
   refine zAf (zAd (hN7 _ _ (Nx.intro (n - (i + 1)) (by omega) (by repeat (first | exact zAv | refine zAu rfl ?_ | refine zAs rfl ?_ _ | refine zAr rfl ?_)) ?_)))
   exact ⟨i + 1, v, B, rfl, by omega, rfl, by rw [listL_no (by assumption)]; exact hown, hs⟩
  try simp only [zS] at h14
  refine zBl (zAo (zAo (zA4 (zAd (hK3 _ _ ?_)))))
  refine zAg (fun K31 hK30 => ?_)
  refine zAb (w_p (zAe (v := v) rfl rfl) rfl ?_)
  refine w_p (zAc (v := v) rfl rfl) rfl ?_
  refine zAf (zAd (hK30 _ _ ?_))
  refine zA2 (zA3 (l := [.tmp 4]) (vs := [_]) rfl ⟨⟨rfl, show _ = (v : Value) from rfl⟩, trivial⟩ ?_)
  have hin : i = n := by omega
  subst hin
  exact ⟨B, hown, hs⟩

end Go.Proofs.Hn
