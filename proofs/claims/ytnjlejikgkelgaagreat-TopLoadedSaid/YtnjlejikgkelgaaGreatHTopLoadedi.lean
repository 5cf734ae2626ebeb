/- Own texts of this claim, joined. No conditions. -/
import GoSem.Core.Value
import Derived.Test.YtnjlejikgkelgaaGreatHTopLoadeda
import Derived.Test.YtnjlejikgkelgaaGreatHTopLoadedb
import Derived.Test.YtnjlejikgkelgaaGreatHTopLoadedc
import Derived.Test.YtnjlejikgkelgaaGreatHTopLoadedd
import Derived.Test.YtnjlejikgkelgaaGreatHTopLoadede
import Derived.Test.YtnjlejikgkelgaaGreatHTopLoadedf
import Derived.Test.YtnjlejikgkelgaaGreatHTopLoadedg
import Derived.Test.YtnjlejikgkelgaaGreatHTopLoadedh
set_option linter.unusedVariables false
set_option linter.unusedSimpArgs false
set_option maxRecDepth 20000
namespace Go.Proofs.Kb
open Go.Proofs.Tryz
open Go.Rt Go.Rt.Ch
open Go.Rt.Ha (firstE zBv zBf zBo failE nameE felt spanL upto zCi listL fewest fewTo bit before fewStep zCo zDg zCb zCx zCj zC5 zCv zB2)
attribute [local irreducible] WL WC Con Yd At Ats Sl Agree DW
theorem Try_KN_fb3 (x0 : Int) (w : World) : (Instr.buildSlice 34 1 [(0, .int .i64 x0)].toArray).run Tryz.prog w = .ok (.slice (some ⟨w.heap.size, 0, none⟩) 1 1) (w.alloc (Go.Rt.blk 3 [.int .i64 x0])) := by kernel_rfl
theorem zF2 {b k : Nat} (h : ¬ ((bit b k : Nat) : Int) = 1) : ¬ bit b k = 1 := fun e => h (by rw [e]; rfl)
theorem bit_one {b k : Nat} (h : ((bit b k : Nat) : Int) = 1) : bit b k = 1 := by omega
theorem listL_sl {w0 : World} {L : List (Nat × Obj)} {i b : Nat} {t : TypeId} {x n : Nat} (hi : L[i]? = some (b, blk t (iv (listTo x n n)))) (hc : listL x n ≠ []) : Sl w0 L (some ⟨b, 0, none⟩) 1 ((listL x n).map fun x => [Value.int .i64 x]) := by
  have h := Sl.cut (w0 := w0) (l' := 0) (h' := (listL x n).length) (c := n) (zEa hi) (Nat.zero_le _) (by have := zFv x n; simp [zIo x n n (Nat.le_refl _)]; omega) (by simp [zIo x n n (Nat.le_refl _)])
  rw [← List.map_drop, List.drop_zero, Nat.sub_zero, ← List.map_take, listTo_take] at h
  have hn : n ≠ 0 := by rintro rfl; exact hc rfl
  rw [if_neg hn] at h
  have e : (some (⟨b, 0, none⟩ : Addr)).map (·.add (0 * 1)) = some ⟨b, 0, none⟩ := rfl
  rwa [e] at h
theorem listL_slc {w0 : World} {L : List (Nat × Obj)} {b : Nat} {t : TypeId} {x n : Nat} (hi : L[0]? = some (b, blk t (iv (listTo x n n)))) : Sl w0 L (if n = 0 then some ⟨b, 0, none⟩ else (some (⟨b, 0, none⟩ : Addr)).map (·.add (0 * 1))) 1 ((listL x n).map fun x => [Value.int .i64 x]) := by
  by_cases hc : listL x n = []
  · rw [hc]; exact Sl.nil _ _
  · have hn : n ≠ 0 := by rintro rfl; exact hc rfl
    rw [if_neg hn]
    exact listL_sl hi hc
theorem zEp {a b : List Int} {i : Nat} (h : a.take i = b.take i) (ha : i < a.length) (hb : i < b.length) (hne : ¬ cmpI a[i] b[i] = 0) : decide (0 < cmpI a[i] b[i]) = less b a := by
  have hn : a[i] ≠ b[i] := fun e => hne (by unfold cmpI; rw [e]; simp)
  rw [zDo h.symm hb ha (fun e => hn e.symm)]
  unfold cmpI
  rw [Bool.eq_iff_iff]
  simp only [decide_eq_true_eq]
  split
  · simp; omega
  · split <;> simp <;> omega
theorem c85 {w0 w : World} {F : List (Nat × Obj)} (x n : Nat) (hx : x < 1000) (hn : n ≤ 40) (hs : St w0 w F) :
  Con Tryz.prog 85 [.int .i64 x, .int .i64 n] w fun v w' => ∃ B a c, v = .slice a (listL x n).length c ∧ Sl w0 B a 1 ((listL x n).map fun x => [Value.int .i64 x]) ∧ St w0 w' (B ++ F) := by
  refine zAu (n := 31) func85 rfl rfl (zNl rfl) ?_
  refine zAf (fun K2 g8 => (zAa (zBg rfl rfl (zAe (zAc (g8 _ _ (zAf (fun K4 g9 => (zAa (zBa rfl rfl (zIf (k := n) zAb underlying34 zCk rfl rfl (by omega) rfl rfl rfl rfl rfl hs (fun b5 w6 ga => ?_))))))))))))
  refine w_p (zAm (v := .slice _ _ _) rfl rfl) rfl (zAe (zAc (g9 _ _ (zAf (fun K9 gb => (zAa (zBg rfl rfl (zAe (zAc (gb _ _ (zAf (fun gk gc => (zAf (fun gl gd => (zAa (zBa rfl rfl ?_))))))))))))))))
  refine w_p (zAi (v := _) rfl rfl) rfl (zAe (zAc (gd _ _ (zAz ?_))))
  refine zB3 [6,7,11,12,13,14,15,16,17,18,19,20,21,22,23,24,25,26,27] [6,11] (fun k vs w => ∃ i : Nat, vs = [.int .i64 (listL x i).length, .int .i64 i] ∧ i ≤ n ∧ k = n - i ∧ St w0 w ((b5, blk 3 (iv (listTo x n i))) :: F)) (n) ?_ ?_
  ·
   exact ⟨0, rfl, by omega, by omega, by rw [listTo_zero]; exact ga⟩
  intro k vs μ gm hI gn g5
  obtain ⟨i, rfl, hia, rfl, hs⟩ := hI
  have hll := zFv x i
  refine zAf (fun go ge => (zAa (w_p (zCl rfl rfl rfl rfl) rfl (zAe (zAc (ge _ _ (zAf (fun gp gf => (zAy rfl rfl (fun g0 => ?_) (fun g0 => ?_))))))))))
  ·
   try simp only [zS] at g0
   refine zAv (zAc (gf _ _ (zAf (fun gq g6 => (zAz ?_)))))
   refine zAf (fun gr gg => (zAa (zBa rfl rfl (zBl rfl rfl (zAe (zAc (gg _ _ (zAf (fun gt gh => (zAa (zBa rfl rfl (zBa rfl rfl (w_p (y_shr (x := _) (y := _) rfl rfl rfl rfl rfl rfl (by first | omega | exact zGa (by omega))) rfl ?_)))))))))))))
   refine w_p (show Yd _ _ _ _ (.int .i64 ((bit x i : Nat) : Int)) from (y_and (x := _) (y := 1) rfl rfl rfl rfl rfl rfl (by first | omega | exact zGa (by omega)) (by first | omega | exact zGa (by omega)))) rfl ?_
   refine w_p (zBw rfl rfl rfl rfl) rfl (zAe (zAc (gh _ _ (zAy rfl rfl (fun g4 => ?_) (fun g4 => ?_)))))
   ·
    try simp only [zS] at g4
    refine zAa (zBa rfl rfl (w_p (zAi (v := .slice _ _ _) rfl rfl) rfl (zBa rfl rfl (w_p (zHi (l' := (listL x i).length) (h' := _) underlying34 sizeOf3 rfl rfl ⟨rfl, _,_, rfl, rfl⟩ rfl (by omega) (by omega)) rfl ?_))))
    refine zBa rfl rfl (zA0 (ps := [(0, _)]) (pv := [(0, .int _ _)]) (cs := [_]) zAb rfl rfl (fun w => Try_KN_fb3 _ w) hs (fun gu gv gi => ?_))
    refine w_copy1 (i := 1) (i2 := 0) zAb underlying34 sizeOf3 rfl rfl rfl rfl gi rfl rfl (by omega) (by first | omega | rfl | (simp only [zIo x n i (by omega), zL] <;> omega)) (fun gw g7 => ?_)
    refine w_p (zBj rfl rfl rfl rfl (by omega) (by omega)) rfl (zBl rfl rfl (zAe (zAl (zAc (g6 _ _ (zAa (w_p (zBj rfl rfl rfl rfl (by omega) (by omega)) rfl ?_)))))))
    refine zBa rfl rfl (zAe (zAc (g5 _ _ (nxI (n - (i + 1)) (by omega) ?_))))
    first
      | exact ⟨i + 1, iv2 (by rw [listL_yes (bit_one (by assumption)), List.length_append]; rfl) rfl, by omega, rfl, by have hq := g7.tail; rw [listTo_yes (by omega) (bit_one (by assumption))] at hq; exact hq⟩
      | exact ⟨i + 1, iv2 (by rw [listL_no (zF2 (by assumption))]) rfl, by omega, rfl, by rw [← listTo_no (zF2 (by assumption))]; exact g7⟩
   try simp only [zS] at g4
   refine zAv (zAl (zAc (g6 _ _ (zAa (w_p (zBj rfl rfl rfl rfl (by omega) (by omega)) rfl (zBa rfl rfl (zAe (zAc (g5 _ _ (nxI (n - (i + 1)) (by omega) ?_))))))))))
   first
     | exact ⟨i + 1, iv2 (by rw [listL_yes (bit_one (by assumption)), List.length_append]; rfl) rfl, by omega, rfl, by have hq := hs.tail; rw [listTo_yes (by omega) (bit_one (by assumption))] at hq; exact hq⟩
     | exact ⟨i + 1, iv2 (by rw [listL_no (zF2 (by assumption))]) rfl, by omega, rfl, by rw [← listTo_no (zF2 (by assumption))]; exact hs⟩
  try simp only [zS] at g0
  refine zBq (zAo (zAo (zA8 (zAc (gc _ _ (zAf (fun gx gj => (zAa (w_p (zAi (v := .slice _ _ _) rfl rfl) rfl (zBa rfl rfl (w_p (zHi (l' := 0) (h' := (listL x i).length) underlying34 sizeOf3 rfl rfl rfl ⟨rfl, _,_, rfl, rfl⟩ (by omega) (by omega)) rfl ?_)))))))))))
  refine w_p (zAm (v := .slice _ _ _) rfl rfl) rfl (zAe (zAc (gj _ _ (zA2 (zA9 (l := [.tmp 4]) (vs := [_]) rfl ⟨⟨rfl, show _ = (.slice _ _ _ : Value) from rfl⟩, trivial⟩ ?_)))))
  have hin : i = n := by omega
  subst hin
  exact ⟨[_], _,_, rfl, listL_slc (L := [_]) rfl, hs⟩

theorem c108 {w0 w : World} {F : List (Nat × Obj)} (x : Int) (hs : St w0 w F) :
  Con Tryz.prog 108 [.int .i64 x] w fun v w' => v = .bool false ∧ St w0 w' F := by
  refine zAu (n := 6) func108 rfl rfl (zNl rfl) ?_
  refine zAf (fun K2 g0 => (zAa (zBg rfl rfl (zAe (zAc (g0 _ _ (zAf (fun K4 g4 => (zAa (zBa rfl rfl (zBa rfl rfl (w_p (zCt rfl rfl rfl rfl) rfl ?_))))))))))))
  refine w_p (zAm (v := .bool _) rfl rfl) rfl (zAe (zAc (g4 _ _ (zA2 (zA9 (l := [.tmp 2]) (vs := [_]) rfl ⟨⟨rfl, (rfl : _ = Value.bool _)⟩, trivial⟩ ?_)))))
  exact ⟨by simp [retV], hs⟩

theorem c103 {w0 w : World} {F : List (Nat × Obj)} (a b : Int) (hs : St w0 w F) :
  Con Tryz.prog 103 [.int .i64 a, .int .i64 b] w fun v w' => v = .int .i64 (cmpI a b) ∧ St w0 w' F := by
  refine zAu (n := 20) func103 rfl rfl (zNl rfl) ?_
  refine zAf (fun K2 g6 => (zAa (zBg rfl rfl (zAe (zAc (g6 _ _ (zAf (fun K4 g7 => (zAa (zBa rfl rfl (zAs zAb call108 rfl rfl rfl rfl (c108 _ hs) ?_)))))))))))
  rintro _ w6 ⟨rfl, g8⟩
  refine w_p (zAm (v := .bool _) rfl rfl) rfl (zAe (zAc (g7 _ _ (zAf (fun K9 g9 => (zAa (zBa rfl rfl (zAs zAb call108 rfl rfl rfl rfl (c108 _ g8) ?_))))))))
  rintro _ gl ⟨rfl, g0⟩
  refine w_p (zAm (v := .bool _) rfl rfl) rfl (zAe (zAc (g9 _ _ (zAf (fun gm ga => (zAf (fun gn gb => (zAa (w_p (zAi (v := .bool _) rfl rfl) rfl ?_)))))))))
  refine zAe (zAc (gb _ _ (zCc rfl rfl ?_)))
  refine zAv (zAc (ga _ _ (zAf (fun go gc => (zAf (fun gp gd => (zAa (w_p (zAi (v := .bool _) rfl rfl) rfl (zAe (zAc (gd _ _ (zCc rfl rfl ?_))))))))))))
  refine zAv (zAc (gc _ _ (zAf (fun gq ge => (zAf (fun gr gf => (zAa (zBa rfl rfl (zBa rfl rfl (w_p (zCl rfl rfl rfl rfl) rfl (zAe (zAc (gf _ _ (zAy rfl rfl (fun g4 => ?_) (fun g4 => ?_)))))))))))))))
  ·
   try simp only [zS] at g4
   refine zAf (fun gt gg => (zAa (zBg rfl rfl (zAe (zAc (gg _ _ (zA2 (zAk (zA9 (l := [.tmp 4]) (vs := [_]) rfl ⟨⟨rfl, (rfl : _ = Value.int _ _)⟩, trivial⟩ ?_)))))))))
   exact ⟨congrArg (Value.int .i64) (by unfold cmpI; (repeat' split) <;> first | rfl | omega), g0⟩
  try simp only [zS] at g4
  refine zAv (zAc (ge _ _ (zAf (fun gu gh => (zAf (fun gv gi => (zAa (zBa rfl rfl (zBa rfl rfl (w_p (zFa rfl rfl rfl rfl) rfl (zAe (zAc (gi _ _ (zAy rfl rfl (fun g5 => ?_) (fun g5 => ?_)))))))))))))))
  ·
   try simp only [zS] at g5
   refine zAf (fun gw gj => (zAa (zBg rfl rfl (zAe (zAc (gj _ _ (zA2 (zAk (zA9 (l := [.tmp 4]) (vs := [_]) rfl ⟨⟨rfl, (rfl : _ = Value.int _ _)⟩, trivial⟩ ?_)))))))))
   exact ⟨congrArg (Value.int .i64) (by unfold cmpI; (repeat' split) <;> first | rfl | omega), g0⟩
  try simp only [zS] at g5
  refine zAv (zAc (gh _ _ (zAf (fun gx gk => (zAa (zBg rfl rfl (zAe (zAc (gk _ _ (zA2 (zA9 (l := [.tmp 4]) (vs := [_]) rfl ⟨⟨rfl, (rfl : _ = Value.int _ _)⟩, trivial⟩ ?_)))))))))))
  exact ⟨congrArg (Value.int .i64) (by unfold cmpI; (repeat' split) <;> first | rfl | omega), g0⟩

theorem c77 {w0 w : World} {F : List (Nat × Obj)} (aa ab : Option Addr) (a b : List Int) (ca cb : Nat) (hla : a.length ≤ 9223372036854775807) (hlb : b.length ≤ 9223372036854775807) (ha : Sl w0 F aa 1 (a.map fun x => [Value.int .i64 x])) (hb : Sl w0 F ab 1 (b.map fun x => [Value.int .i64 x])) (hs : St w0 w F) :
  Con Tryz.prog 77 [.slice aa a.length ca, .slice ab b.length cb] w fun v w' => (∃ z, v = .int .i64 z ∧ decide (0 < z) = less b a) ∧ St w0 w' F := by
  refine zAu (n := 36) func77 rfl rfl (zNl rfl) ?_
  refine zAf (fun K2 g8 => (zAa (zBg rfl rfl (zAe (zAc (g8 _ _ (zAf (fun K4 g9 => (zAf (fun K6 ga => (zAa (w_p (zAi (v := .slice _ _ _) rfl rfl) rfl ?_))))))))))))
  refine w_p (zBm underlying34 rfl rfl) rfl (w_p (zAi (v := _) rfl rfl) rfl (zAe (zAc (ga _ _ (zAz ?_)))))
  refine zB3 [4,5,6,7,8,11,12,13,14,15,16,17,18,19,20,21,22,23,24,25,26,27,28,29,30] [11] (fun k vs w => ∃ i : Nat, vs = [.int .i64 i] ∧ i ≤ a.length ∧ i ≤ b.length ∧ k = a.length - i ∧ a.take i = b.take i ∧ St w0 w F) (a.length) ?_ ?_
  ·
   exact ⟨0, rfl, by omega, by omega, by omega, rfl, hs⟩
  intro k vs μ w9 hI K8 gb
  obtain ⟨i, rfl, hia, hib, rfl, hpre, hs⟩ := hI
  refine zAf (fun gr gc => (zAa (w_p (zCl rfl rfl rfl rfl) rfl (zAe (zAc (gc _ _ (zAf (fun gt gd => (zAy rfl rfl (fun g4 => ?_) (fun g4 => ?_))))))))))
  ·
   try simp only [zS] at g4
   refine zAv (zAc (gd _ _ (zAf (fun gu ge => (zAz ?_)))))
   refine zAf (fun gv gf => ?_)
   have hia2 : i < a.length := by omega
   obtain ⟨ba, oa, rfl, hxa⟩ := zDk ha hia2
   refine zAa (zBa rfl rfl (w_p (zBc underlying34 sizeOf3 rfl rfl rfl rfl (i := _) rfl (by omega)) rfl (w_p (zAj isAgg3 hs rfl rfl hxa) rfl (zBl rfl rfl (zBl rfl rfl (zAe (zAc (gf _ _ (zAf (fun gw gg => (zAf (fun gx gh => (zAa (zBa rfl rfl ?_))))))))))))))
   refine w_p (zAi (v := .slice _ _ _) rfl rfl) rfl (w_p (zBm underlying34 rfl rfl) rfl (w_p (zF5 rfl rfl rfl rfl) rfl (zAe (zAc (gh _ _ (zAy rfl rfl (fun g5 => ?_) (fun g5 => ?_)))))))
   ·
    try simp only [zS] at g5
    refine zAf (fun gy gi => (zAa (zBg rfl rfl (zAe (zAc (gi _ _ (zA2 (zAk (zAt (zAk (zAk (zAt (zAk (zA9 (l := [.tmp 4]) (vs := [_]) rfl ⟨⟨rfl, (rfl : _ = Value.int _ _)⟩, trivial⟩ ?_))))))))))))))
    first
      | exact ⟨⟨_, rfl, zEp hpre hia2 hib2 (by assumption)⟩, hs⟩
      | exact ⟨⟨_, rfl, by rw [zCq hpre.symm (by omega) (by omega)]; rfl⟩, hs⟩
      | exact ⟨⟨_, rfl, by rw [zC6 hpre.symm hib (by omega)]; rfl⟩, hs⟩
   try simp only [zS] at g5
   refine zAv (zAc (gg _ _ (zAf (fun gz gj => ?_))))
   have hib2 : i < b.length := by omega
   obtain ⟨bb, ob, rfl, hxb⟩ := zDk hb hib2
   refine zAa (w_p (zAi (v := .slice _ _ _) rfl rfl) rfl (zBa rfl rfl (w_p (zBc underlying34 sizeOf3 rfl rfl rfl rfl (i := _) rfl (by omega)) rfl (w_p (zAj isAgg3 hs rfl rfl hxb) rfl (zBl rfl rfl (zAe (zAc (gj _ _ (zAf (fun gA gk => (zAa (zBa rfl rfl ?_))))))))))))
   refine zBa rfl rfl (zAs zAb call103 rfl rfl rfl rfl (c103 _ _ hs) ?_)
   rintro _ gB ⟨rfl, g0⟩
   refine zBl rfl rfl (zAe (zAc (gk _ _ (zAf (fun gC gl => (zAa (zBa rfl rfl (w_p (zCt rfl rfl rfl rfl) rfl (zAe (zAc (gl _ _ (zAy rfl rfl (fun g6 => ?_) (fun g6 => ?_)))))))))))))
   ·
    try simp only [zS] at g6
    refine zAf (fun gD gm => (zAa (zBa rfl rfl (zBl rfl rfl (zAe (zAc (gm _ _ (zA2 (zAt (zAk (zAk (zAt (zAk (zA9 (l := [.tmp 4]) (vs := [_]) rfl ⟨⟨rfl, (rfl : _ = Value.int _ _)⟩, trivial⟩ ?_))))))))))))))
    first
      | exact ⟨⟨_, rfl, zEp hpre hia2 hib2 (by assumption)⟩, g0⟩
      | exact ⟨⟨_, rfl, by rw [zCq hpre.symm (by omega) (by omega)]; rfl⟩, g0⟩
      | exact ⟨⟨_, rfl, by rw [zC6 hpre.symm hib (by omega)]; rfl⟩, g0⟩
   try simp only [zS] at g6
   refine zAv (zAl (zAc (ge _ _ (zAa (w_p (zBj rfl rfl rfl rfl (by omega) (by omega)) rfl (zBa rfl rfl (zAe (zAc (gb _ _ (nxI (a.length - (i + 1)) (by omega) ?_))))))))))
   exact ⟨i + 1, rfl, by omega, by omega, rfl, zF9 hpre (by omega) (by omega) (cmp_zero (by assumption)), g0⟩
  try simp only [zS] at g4
  refine zBq (zAo (zAo (zA8 (zAc (g9 _ _ (zAf (fun gE gn => (zAf (fun gF go => (zAa (w_p (zAi (v := .slice _ _ _) rfl rfl) rfl ?_)))))))))))
  refine w_p (zBm underlying34 rfl rfl) rfl (w_p (zAi (v := .slice _ _ _) rfl rfl) rfl (w_p (zBm underlying34 rfl rfl) rfl (w_p (zCl rfl rfl rfl rfl) rfl (zAe (zAc (go _ _ (zAy rfl rfl (fun g7 => ?_) (fun g7 => ?_))))))))
  ·
   try simp only [zS] at g7
   refine zAf (fun gG gp => (zAa (zBg rfl rfl (zAe (zAc (gp _ _ (zA2 (zAk (zA9 (l := [.tmp 4]) (vs := [_]) rfl ⟨⟨rfl, (rfl : _ = Value.int _ _)⟩, trivial⟩ ?_)))))))))
   first
     | exact ⟨⟨_, rfl, zEp hpre hia2 hib2 (by assumption)⟩, hs⟩
     | exact ⟨⟨_, rfl, by rw [zCq hpre.symm (by omega) (by omega)]; rfl⟩, hs⟩
     | exact ⟨⟨_, rfl, by rw [zC6 hpre.symm hib (by omega)]; rfl⟩, hs⟩
  try simp only [zS] at g7
  refine zAv (zAc (gn _ _ (zAf (fun gH gq => (zAa (zBg rfl rfl (zAe (zAc (gq _ _ (zA2 (zA9 (l := [.tmp 4]) (vs := [_]) rfl ⟨⟨rfl, (rfl : _ = Value.int _ _)⟩, trivial⟩ ?_)))))))))))
  first
    | exact ⟨⟨_, rfl, zEp hpre hia2 hib2 (by assumption)⟩, hs⟩
    | exact ⟨⟨_, rfl, by rw [zCq hpre.symm (by omega) (by omega)]; rfl⟩, hs⟩
    | exact ⟨⟨_, rfl, by rw [zC6 hpre.symm hib (by omega)]; rfl⟩, hs⟩

theorem c63 {w0 w : World} {M F : List (Nat × Obj)} (n : Nat) (hn : n ≤ 8) (fv : Value) (d : Nat → Bool) (I : List (Nat × Obj) → Prop) (hd : ∀ (s : Nat) (M X : List (Nat × Obj)) (w : World), s < 1 <<< n → I M → St w0 w (X ++ (M ++ F)) → FCon Tryz.prog fv [.int .i64 (s : Int)] w fun v w' => v = .bool (d s) ∧ ∃ M', I M' ∧ St w0 w' (X ++ (M' ++ F))) (hI0 : I M) (hs : St w0 w (M ++ F)) :
  Con Tryz.prog 63 [.int .i64 (n : Int), fv] w fun v w' => ∃ B M' a c, v = .slice a (fewest d n).1.length c ∧ Sl w0 B a 1 ((fewest d n).1.map fun x => [Value.int .i64 x]) ∧ I M' ∧ St w0 w' (B ++ (M' ++ F)) := by
  refine zAu (n := 43) func63 rfl rfl (zNl rfl) ?_
  have hsh := shl_256 hn
  refine zAf (fun K2 gk => (zAa (zBg rfl rfl (zAe (zAc (gk _ _ (zAf (fun K4 gl => (zAa (zBg rfl rfl (zAe (zAc (gl _ _ (zAf (fun K6 gm => (zAf (fun K8 gn => (zAa (zBa rfl rfl ?_)))))))))))))))))))
  refine w_p (y_shl (x := 1) (y := n) rfl rfl rfl rfl rfl (by first | rfl | omega) (by first | omega | exact zGa (by omega)) (by first | omega | exact zGa (by omega))) rfl ?_
  refine w_p (zAi (v := _) rfl rfl) rfl (zAe (zAc (gn _ _ (zAz ?_))))
  refine zB3 [4,5,6,7,10,11,12,13,14,15,16,17,18,19,20,21,22,23,24,25,26,27,28,29,30,31,32,33,34,35,36,37,38,39,40,41] [4,5,10] (fun k vs w => ∃ (s : Nat) (av : Option Addr) (cv : Nat) (B M : List (Nat × Obj)), vs = [.slice av (fewTo d n s).1.length cv, .bool (fewTo d n s).2, .int .i64 s] ∧ s ≤ 1 <<< n ∧ k = (1 <<< n) - s ∧ Sl w0 B av 1 ((fewTo d n s).1.map fun x => [Value.int .i64 x]) ∧ I M ∧ St w0 w (B ++ (M ++ F))) (1 <<< n) ?_ ?_
  ·
   exact ⟨0, _,_, [], M, rfl, by omega, by omega, Sl.nil _ _, hI0, hs⟩
  intro k vs μ gx hI gy g7
  clear hs
  obtain ⟨s, av, cv, B, M, rfl, hba, rfl, hslv, hIM, hs⟩ := hI
  generalize hfd : (fewTo d n s).2 = fd
  refine zAf (fun gz go => (zAa (w_p (zCl rfl rfl rfl rfl) rfl (zAe (zAc (go _ _ (zAf (fun gA gp => (zAy rfl rfl (fun gb => ?_) (fun gb => ?_))))))))))
  ·
   try simp only [zS] at gb
   refine zAv (zAc (gp _ _ (zAf (fun gB g8 => (zAz ?_)))))
   refine zAf (fun gC gq => (zAa (zBa rfl rfl (zBl rfl rfl (zAe (zAc (gq _ _ (zAf (fun gD gr => (zAa (zBa rfl rfl (zBa rfl rfl (zAs zAb call85 rfl rfl rfl rfl (c85 _ _ (by omega) (by omega) hs) ?_)))))))))))))
   rintro _ gE ⟨B1, a1, c1, rfl, hsl1, g0⟩
   replace g0 := (show St _ _ (B1 ++ (B ++ (M ++ (F)))) from g0)
   have hle1 := zFv s n
   have hle2 := few_len d n s
   refine w_p (zAm (v := .slice _ _ _) rfl rfl) rfl (zAe (zAc (gr _ _ (zAf (fun gF gc => (zAf (fun gG ga => (zAa (w_p (zAi (v := .bool _) rfl rfl) rfl ?_)))))))))
   refine w_p (zAi (v := .bool _) rfl rfl) rfl (zBk (fun gd => ?_) (fun gd => ?_))
   ·
    subst gd
    refine w_y rfl rfl rfl (zAi (v := .slice _ _ _) rfl rfl) rfl ?_
    refine w_y rfl rfl rfl (zBm underlying34 rfl rfl) rfl ?_
    refine w_y rfl rfl rfl (zAi (v := .slice _ _ _) rfl rfl) rfl ?_
    refine w_y rfl rfl rfl (zBm underlying34 rfl rfl) rfl ?_
    refine w_y rfl rfl rfl (zFa rfl rfl rfl rfl) rfl ?_
    refine w_y rfl rfl rfl (zAi (v := .bool _) rfl rfl) rfl ?_
    refine zBk (fun ge => ?_) (fun ge => ?_)
    ·
     try simp only [zS] at ge
     refine zAg rfl rfl rfl ?_
     refine zAg rfl rfl rfl ?_
     refine zAg rfl rfl rfl ?_
     refine zAg rfl rfl rfl ?_
     refine zAg rfl rfl rfl ?_
     refine zAg rfl rfl rfl ?_
     refine zBe rfl rfl rfl ?_
     refine zBe rfl rfl rfl ?_
     refine zBe rfl rfl rfl ?_
     refine zBe rfl rfl rfl ?_
     refine zAg rfl rfl rfl ?_
     refine w_y rfl rfl rfl (zAx (v := _) rfl rfl rfl rfl) rfl ?_
     refine w_p (zAx (v := .bool _) rfl rfl rfl rfl) rfl (zAe (zAc (ga _ _ (zCh rfl rfl ?_))))
     refine zBq (zAo (zA8 (zAc (g8 _ _ (zAa (w_p (zBj rfl rfl rfl rfl (by omega) (by omega)) rfl (zBa rfl rfl (zAe (zAc (g7 _ _ (nxI ((1 <<< n) - (s + 1)) (by omega) ?_)))))))))))
     first
       | (have hq := zDe hfd (by unfold before; simp; omega)
          exact ⟨s + 1, av, cv, B1 ++ B, M, zB4 (by rw [hq] <;> rfl) (by rw [hq, hfd] <;> rfl) rfl, by omega, rfl, by rw [hq]; exact hslv.app, hIM, (by rw [List.append_assoc]; exact g0)⟩)
       | (have hq := zDe hfd (by unfold before; rw [Bool.or_eq_true, Bool.and_eq_true]; exact .inr ⟨by simp; omega, by rw [← hz]; simp; omega⟩)
          exact ⟨s + 1, av, cv, B1 ++ B, M, zB4 (by rw [hq] <;> rfl) (by rw [hq, hfd] <;> rfl) rfl, by omega, rfl, by rw [hq]; exact hslv.app, hIM, (by rw [List.append_assoc]; exact g0)⟩)
       | (have hq := zGo (d := d) (n := n) (s := s) (by first | exact .inl hfd | exact .inr (zBs (by omega) (by omega)) | exact .inr (zBs (by omega) (fun e => by rw [← hz]; exact decide_eq_false (by omega)))) (by assumption)
          exact ⟨s + 1, a1, c1, B1 ++ B, M2, zB4 (by rw [hq] <;> rfl) (by rw [hq] <;> rfl) rfl, by omega, rfl, by rw [hq]; exact hsl1.top, hIM2, (by rw [List.append_assoc]; exact g0)⟩)
       | (have hq := zI3 (d := d) (n := n) (s := s) (by first | exact .inl hfd | exact .inr (zBs (by omega) (by omega)) | exact .inr (zBs (by omega) (fun e => by rw [← hz]; exact decide_eq_false (by omega)))) (by assumption)
          exact ⟨s + 1, av, cv, B1 ++ B, M2, zB4 (by rw [hq] <;> rfl) (by rw [hq, hfd] <;> rfl) rfl, by omega, rfl, by rw [hq]; exact hslv.app, hIM2, (by rw [List.append_assoc]; exact g0)⟩)
    try simp only [zS] at ge
    refine w_y rfl rfl rfl (zAi (v := .slice _ _ _) rfl rfl) rfl ?_
    refine w_y rfl rfl rfl (zBm underlying34 rfl rfl) rfl ?_
    refine w_y rfl rfl rfl (zAi (v := .slice _ _ _) rfl rfl) rfl ?_
    refine w_y rfl rfl rfl (zBm underlying34 rfl rfl) rfl ?_
    refine w_y rfl rfl rfl (zBw rfl rfl rfl rfl) rfl ?_
    refine w_y rfl rfl rfl (zAi (v := .bool _) rfl rfl) rfl ?_
    refine zBk (fun gf => ?_) (fun gf => ?_)
    ·
     try simp only [zS] at gf
     refine w_y rfl rfl rfl (zAi (v := .slice _ _ _) rfl rfl) rfl ?_
     refine w_y rfl rfl rfl (zAi (v := .slice _ _ _) rfl rfl) rfl ?_
     refine zAs (zAp rfl rfl rfl) call77 rfl rfl rfl rfl (c77 _ _ _ _ _ _ (by omega) (by omega) hsl1.top hslv.top.app g0) ?_
     rintro _ gH ⟨⟨z, rfl, hz⟩, g9⟩
     refine w_y rfl rfl rfl (zFa rfl rfl rfl rfl) rfl ?_
     refine w_y rfl rfl rfl (zAx (v := .bool _) rfl rfl rfl rfl) rfl ?_
     refine w_y rfl rfl rfl (zBd (v := .bool _) rfl rfl rfl rfl) rfl ?_
     refine w_p (zAx (v := .bool _) rfl rfl rfl rfl) rfl (zAe (zAc (ga _ _ (zAy rfl rfl (fun gg => ?_) (fun gg => ?_)))))
     ·
      try simp only [zS] at gg
      refine zBq (zAo (zA8 (zAc (g8 _ _ (zAa (w_p (zBj rfl rfl rfl rfl (by omega) (by omega)) rfl (zBa rfl rfl (zAe (zAc (g7 _ _ (nxI ((1 <<< n) - (s + 1)) (by omega) ?_)))))))))))
      first
        | (have hq := zDe hfd (by unfold before; simp; omega)
           exact ⟨s + 1, av, cv, B1 ++ B, M, zB4 (by rw [hq] <;> rfl) (by rw [hq, hfd] <;> rfl) rfl, by omega, rfl, by rw [hq]; exact hslv.app, hIM, (by rw [List.append_assoc]; exact g9)⟩)
        | (have hq := zDe hfd (by unfold before; rw [Bool.or_eq_true, Bool.and_eq_true]; exact .inr ⟨by simp; omega, by rw [← hz]; simp; omega⟩)
           exact ⟨s + 1, av, cv, B1 ++ B, M, zB4 (by rw [hq] <;> rfl) (by rw [hq, hfd] <;> rfl) rfl, by omega, rfl, by rw [hq]; exact hslv.app, hIM, (by rw [List.append_assoc]; exact g9)⟩)
        | (have hq := zGo (d := d) (n := n) (s := s) (by first | exact .inl hfd | exact .inr (zBs (by omega) (by omega)) | exact .inr (zBs (by omega) (fun e => by rw [← hz]; exact decide_eq_false (by omega)))) (by assumption)
           exact ⟨s + 1, a1, c1, B1 ++ B, M2, zB4 (by rw [hq] <;> rfl) (by rw [hq] <;> rfl) rfl, by omega, rfl, by rw [hq]; exact hsl1.top, hIM2, (by rw [List.append_assoc]; exact g9)⟩)
        | (have hq := zI3 (d := d) (n := n) (s := s) (by first | exact .inl hfd | exact .inr (zBs (by omega) (by omega)) | exact .inr (zBs (by omega) (fun e => by rw [← hz]; exact decide_eq_false (by omega)))) (by assumption)
           exact ⟨s + 1, av, cv, B1 ++ B, M2, zB4 (by rw [hq] <;> rfl) (by rw [hq, hfd] <;> rfl) rfl, by omega, rfl, by rw [hq]; exact hslv.app, hIM2, (by rw [List.append_assoc]; exact g9)⟩)
     try simp only [zS] at gg
     refine zAv (zAc (gc _ _ (zAf (fun gI gt => (zAa (w_p (zAi (v := fv) rfl rfl) rfl (zBa rfl rfl (zEt zAb rfl rfl rfl rfl (hd s M (B1 ++ B) _ (by omega) hIM (St.cast (by simp only [List.append_assoc]) g9)) ?_))))))))
     rintro _ gJ ⟨rfl, M2, hIM2, g4⟩
     rw [List.append_assoc] at g4
     refine zAe (zAc (gt _ _ (zAy rfl rfl (fun gh => ?_) (fun gh => ?_))))
     ·
      try simp only [zS] at gh
      refine zAa (w_p (zAi (v := .slice _ _ _) rfl rfl) rfl (w_p (zAm (v := .slice _ _ _) rfl rfl) rfl (zBg rfl rfl (zAe (zAl (zAc (g8 _ _ (zAa (w_p (zBj rfl rfl rfl rfl (by omega) (by omega)) rfl ?_)))))))))
      refine zBa rfl rfl (zAe (zAc (g7 _ _ (nxI ((1 <<< n) - (s + 1)) (by omega) ?_))))
      first
        | (have hq := zDe hfd (by unfold before; simp; omega)
           exact ⟨s + 1, av, cv, B1 ++ B, M, zB4 (by rw [hq] <;> rfl) (by rw [hq, hfd] <;> rfl) rfl, by omega, rfl, by rw [hq]; exact hslv.app, hIM, (by rw [List.append_assoc]; exact g4)⟩)
        | (have hq := zDe hfd (by unfold before; rw [Bool.or_eq_true, Bool.and_eq_true]; exact .inr ⟨by simp; omega, by rw [← hz]; simp; omega⟩)
           exact ⟨s + 1, av, cv, B1 ++ B, M, zB4 (by rw [hq] <;> rfl) (by rw [hq, hfd] <;> rfl) rfl, by omega, rfl, by rw [hq]; exact hslv.app, hIM, (by rw [List.append_assoc]; exact g4)⟩)
        | (have hq := zGo (d := d) (n := n) (s := s) (by first | exact .inl hfd | exact .inr (zBs (by omega) (by omega)) | exact .inr (zBs (by omega) (fun e => by rw [← hz]; exact decide_eq_false (by omega)))) (by assumption)
           exact ⟨s + 1, a1, c1, B1 ++ B, M2, zB4 (by rw [hq] <;> rfl) (by rw [hq] <;> rfl) rfl, by omega, rfl, by rw [hq]; exact hsl1.top, hIM2, (by rw [List.append_assoc]; exact g4)⟩)
        | (have hq := zI3 (d := d) (n := n) (s := s) (by first | exact .inl hfd | exact .inr (zBs (by omega) (by omega)) | exact .inr (zBs (by omega) (fun e => by rw [← hz]; exact decide_eq_false (by omega)))) (by assumption)
           exact ⟨s + 1, av, cv, B1 ++ B, M2, zB4 (by rw [hq] <;> rfl) (by rw [hq, hfd] <;> rfl) rfl, by omega, rfl, by rw [hq]; exact hslv.app, hIM2, (by rw [List.append_assoc]; exact g4)⟩)
     try simp only [zS] at gh
     refine zAv (zAl (zAc (g8 _ _ (zAa (w_p (zBj rfl rfl rfl rfl (by omega) (by omega)) rfl (zBa rfl rfl (zAe (zAc (g7 _ _ (nxI ((1 <<< n) - (s + 1)) (by omega) ?_))))))))))
     first
       | (have hq := zDe hfd (by unfold before; simp; omega)
          exact ⟨s + 1, av, cv, B1 ++ B, M, zB4 (by rw [hq] <;> rfl) (by rw [hq, hfd] <;> rfl) rfl, by omega, rfl, by rw [hq]; exact hslv.app, hIM, (by rw [List.append_assoc]; exact g4)⟩)
       | (have hq := zDe hfd (by unfold before; rw [Bool.or_eq_true, Bool.and_eq_true]; exact .inr ⟨by simp; omega, by rw [← hz]; simp; omega⟩)
          exact ⟨s + 1, av, cv, B1 ++ B, M, zB4 (by rw [hq] <;> rfl) (by rw [hq, hfd] <;> rfl) rfl, by omega, rfl, by rw [hq]; exact hslv.app, hIM, (by rw [List.append_assoc]; exact g4)⟩)
       | (have hq := zGo (d := d) (n := n) (s := s) (by first | exact .inl hfd | exact .inr (zBs (by omega) (by omega)) | exact .inr (zBs (by omega) (fun e => by rw [← hz]; exact decide_eq_false (by omega)))) (by assumption)
          exact ⟨s + 1, a1, c1, B1 ++ B, M2, zB4 (by rw [hq] <;> rfl) (by rw [hq] <;> rfl) rfl, by omega, rfl, by rw [hq]; exact hsl1.top, hIM2, (by rw [List.append_assoc]; exact g4)⟩)
       | (have hq := zI3 (d := d) (n := n) (s := s) (by first | exact .inl hfd | exact .inr (zBs (by omega) (by omega)) | exact .inr (zBs (by omega) (fun e => by rw [← hz]; exact decide_eq_false (by omega)))) (by assumption)
          exact ⟨s + 1, av, cv, B1 ++ B, M2, zB4 (by rw [hq] <;> rfl) (by rw [hq, hfd] <;> rfl) rfl, by omega, rfl, by rw [hq]; exact hslv.app, hIM2, (by rw [List.append_assoc]; exact g4)⟩)
    try simp only [zS] at gf
    refine zAg rfl rfl rfl ?_
    refine zAg rfl rfl rfl ?_
    refine zAg rfl rfl rfl ?_
    refine zAg rfl rfl rfl ?_
    refine w_y rfl rfl rfl (zBd (v := _) rfl rfl rfl rfl) rfl ?_
    refine w_y rfl rfl rfl (zBd (v := .bool _) rfl rfl rfl rfl) rfl ?_
    refine w_p (zAx (v := .bool _) rfl rfl rfl rfl) rfl (zAe (zAc (ga _ _ (zCc rfl rfl ?_))))
    refine zAv (zAc (gc _ _ (zAf (fun gK gu => (zAa (w_p (zAi (v := fv) rfl rfl) rfl (zBa rfl rfl (zEt zAb rfl rfl rfl rfl (hd s M (B1 ++ B) _ (by omega) hIM (St.cast (by simp only [List.append_assoc]) g0)) ?_))))))))
    rintro _ gL ⟨rfl, M2, hIM2, g5⟩
    rw [List.append_assoc] at g5
    refine zAe (zAc (gu _ _ (zAy rfl rfl (fun gi => ?_) (fun gi => ?_))))
    ·
     try simp only [zS] at gi
     refine zAa (w_p (zAi (v := .slice _ _ _) rfl rfl) rfl (w_p (zAm (v := .slice _ _ _) rfl rfl) rfl (zBg rfl rfl (zAe (zAl (zAc (g8 _ _ (zAa (w_p (zBj rfl rfl rfl rfl (by omega) (by omega)) rfl ?_)))))))))
     refine zBa rfl rfl (zAe (zAc (g7 _ _ (nxI ((1 <<< n) - (s + 1)) (by omega) ?_))))
     first
       | (have hq := zDe hfd (by unfold before; simp; omega)
          exact ⟨s + 1, av, cv, B1 ++ B, M, zB4 (by rw [hq] <;> rfl) (by rw [hq, hfd] <;> rfl) rfl, by omega, rfl, by rw [hq]; exact hslv.app, hIM, (by rw [List.append_assoc]; exact g5)⟩)
       | (have hq := zDe hfd (by unfold before; rw [Bool.or_eq_true, Bool.and_eq_true]; exact .inr ⟨by simp; omega, by rw [← hz]; simp; omega⟩)
          exact ⟨s + 1, av, cv, B1 ++ B, M, zB4 (by rw [hq] <;> rfl) (by rw [hq, hfd] <;> rfl) rfl, by omega, rfl, by rw [hq]; exact hslv.app, hIM, (by rw [List.append_assoc]; exact g5)⟩)
       | (have hq := zGo (d := d) (n := n) (s := s) (by first | exact .inl hfd | exact .inr (zBs (by omega) (by omega)) | exact .inr (zBs (by omega) (fun e => by rw [← hz]; exact decide_eq_false (by omega)))) (by assumption)
          exact ⟨s + 1, a1, c1, B1 ++ B, M2, zB4 (by rw [hq] <;> rfl) (by rw [hq] <;> rfl) rfl, by omega, rfl, by rw [hq]; exact hsl1.top, hIM2, (by rw [List.append_assoc]; exact g5)⟩)
       | (have hq := zI3 (d := d) (n := n) (s := s) (by first | exact .inl hfd | exact .inr (zBs (by omega) (by omega)) | exact .inr (zBs (by omega) (fun e => by rw [← hz]; exact decide_eq_false (by omega)))) (by assumption)
          exact ⟨s + 1, av, cv, B1 ++ B, M2, zB4 (by rw [hq] <;> rfl) (by rw [hq, hfd] <;> rfl) rfl, by omega, rfl, by rw [hq]; exact hslv.app, hIM2, (by rw [List.append_assoc]; exact g5)⟩)
    try simp only [zS] at gi
    refine zAv (zAl (zAc (g8 _ _ (zAa (w_p (zBj rfl rfl rfl rfl (by omega) (by omega)) rfl (zBa rfl rfl (zAe (zAc (g7 _ _ (nxI ((1 <<< n) - (s + 1)) (by omega) ?_))))))))))
    first
      | (have hq := zDe hfd (by unfold before; simp; omega)
         exact ⟨s + 1, av, cv, B1 ++ B, M, zB4 (by rw [hq] <;> rfl) (by rw [hq, hfd] <;> rfl) rfl, by omega, rfl, by rw [hq]; exact hslv.app, hIM, (by rw [List.append_assoc]; exact g5)⟩)
      | (have hq := zDe hfd (by unfold before; rw [Bool.or_eq_true, Bool.and_eq_true]; exact .inr ⟨by simp; omega, by rw [← hz]; simp; omega⟩)
         exact ⟨s + 1, av, cv, B1 ++ B, M, zB4 (by rw [hq] <;> rfl) (by rw [hq, hfd] <;> rfl) rfl, by omega, rfl, by rw [hq]; exact hslv.app, hIM, (by rw [List.append_assoc]; exact g5)⟩)
      | (have hq := zGo (d := d) (n := n) (s := s) (by first | exact .inl hfd | exact .inr (zBs (by omega) (by omega)) | exact .inr (zBs (by omega) (fun e => by rw [← hz]; exact decide_eq_false (by omega)))) (by assumption)
         exact ⟨s + 1, a1, c1, B1 ++ B, M2, zB4 (by rw [hq] <;> rfl) (by rw [hq] <;> rfl) rfl, by omega, rfl, by rw [hq]; exact hsl1.top, hIM2, (by rw [List.append_assoc]; exact g5)⟩)
      | (have hq := zI3 (d := d) (n := n) (s := s) (by first | exact .inl hfd | exact .inr (zBs (by omega) (by omega)) | exact .inr (zBs (by omega) (fun e => by rw [← hz]; exact decide_eq_false (by omega)))) (by assumption)
         exact ⟨s + 1, av, cv, B1 ++ B, M2, zB4 (by rw [hq] <;> rfl) (by rw [hq, hfd] <;> rfl) rfl, by omega, rfl, by rw [hq]; exact hslv.app, hIM2, (by rw [List.append_assoc]; exact g5)⟩)
   subst gd
   refine zAg rfl rfl rfl ?_
   refine zAg rfl rfl rfl ?_
   refine zAg rfl rfl rfl ?_
   refine zAg rfl rfl rfl ?_
   refine zAg rfl rfl rfl ?_
   refine zAg rfl rfl rfl ?_
   refine zBe rfl rfl rfl ?_
   refine zBe rfl rfl rfl ?_
   refine zBe rfl rfl rfl ?_
   refine zBe rfl rfl rfl ?_
   refine zBe rfl rfl rfl ?_
   refine zBe rfl rfl rfl ?_
   refine zBe rfl rfl rfl ?_
   refine zBe rfl rfl rfl ?_
   refine zBe rfl rfl rfl ?_
   refine zBe rfl rfl rfl ?_
   refine zBe rfl rfl rfl ?_
   refine zAg rfl rfl rfl ?_
   refine w_p (zBd (v := _) rfl rfl rfl rfl) rfl (zAe (zAc (ga _ _ (zCc rfl rfl ?_))))
   refine zAv (zAc (gc _ _ (zAf (fun gM gv => (zAa (w_p (zAi (v := fv) rfl rfl) rfl (zBa rfl rfl (zEt zAb rfl rfl rfl rfl (hd s M (B1 ++ B) _ (by omega) hIM (St.cast (by simp only [List.append_assoc]) g0)) ?_))))))))
   rintro _ gN ⟨rfl, M2, hIM2, g6⟩
   rw [List.append_assoc] at g6
   refine zAe (zAc (gv _ _ (zAy rfl rfl (fun gj => ?_) (fun gj => ?_))))
   ·
    try simp only [zS] at gj
    refine zAa (w_p (zAi (v := .slice _ _ _) rfl rfl) rfl (w_p (zAm (v := .slice _ _ _) rfl rfl) rfl (zBg rfl rfl (zAe (zAl (zAc (g8 _ _ (zAa (w_p (zBj rfl rfl rfl rfl (by omega) (by omega)) rfl ?_)))))))))
    refine zBa rfl rfl (zAe (zAc (g7 _ _ (nxI ((1 <<< n) - (s + 1)) (by omega) ?_))))
    first
      | (have hq := zDe hfd (by unfold before; simp; omega)
         exact ⟨s + 1, av, cv, B1 ++ B, M, zB4 (by rw [hq] <;> rfl) (by rw [hq, hfd] <;> rfl) rfl, by omega, rfl, by rw [hq]; exact hslv.app, hIM, (by rw [List.append_assoc]; exact g6)⟩)
      | (have hq := zDe hfd (by unfold before; rw [Bool.or_eq_true, Bool.and_eq_true]; exact .inr ⟨by simp; omega, by rw [← hz]; simp; omega⟩)
         exact ⟨s + 1, av, cv, B1 ++ B, M, zB4 (by rw [hq] <;> rfl) (by rw [hq, hfd] <;> rfl) rfl, by omega, rfl, by rw [hq]; exact hslv.app, hIM, (by rw [List.append_assoc]; exact g6)⟩)
      | (have hq := zGo (d := d) (n := n) (s := s) (by first | exact .inl hfd | exact .inr (zBs (by omega) (by omega)) | exact .inr (zBs (by omega) (fun e => by rw [← hz]; exact decide_eq_false (by omega)))) (by assumption)
         exact ⟨s + 1, a1, c1, B1 ++ B, M2, zB4 (by rw [hq] <;> rfl) (by rw [hq] <;> rfl) rfl, by omega, rfl, by rw [hq]; exact hsl1.top, hIM2, (by rw [List.append_assoc]; exact g6)⟩)
      | (have hq := zI3 (d := d) (n := n) (s := s) (by first | exact .inl hfd | exact .inr (zBs (by omega) (by omega)) | exact .inr (zBs (by omega) (fun e => by rw [← hz]; exact decide_eq_false (by omega)))) (by assumption)
         exact ⟨s + 1, av, cv, B1 ++ B, M2, zB4 (by rw [hq] <;> rfl) (by rw [hq, hfd] <;> rfl) rfl, by omega, rfl, by rw [hq]; exact hslv.app, hIM2, (by rw [List.append_assoc]; exact g6)⟩)
   try simp only [zS] at gj
   refine zAv (zAl (zAc (g8 _ _ (zAa (w_p (zBj rfl rfl rfl rfl (by omega) (by omega)) rfl (zBa rfl rfl (zAe (zAc (g7 _ _ (nxI ((1 <<< n) - (s + 1)) (by omega) ?_))))))))))
   first
     | (have hq := zDe hfd (by unfold before; simp; omega)
        exact ⟨s + 1, av, cv, B1 ++ B, M, zB4 (by rw [hq] <;> rfl) (by rw [hq, hfd] <;> rfl) rfl, by omega, rfl, by rw [hq]; exact hslv.app, hIM, (by rw [List.append_assoc]; exact g6)⟩)
     | (have hq := zDe hfd (by unfold before; rw [Bool.or_eq_true, Bool.and_eq_true]; exact .inr ⟨by simp; omega, by rw [← hz]; simp; omega⟩)
        exact ⟨s + 1, av, cv, B1 ++ B, M, zB4 (by rw [hq] <;> rfl) (by rw [hq, hfd] <;> rfl) rfl, by omega, rfl, by rw [hq]; exact hslv.app, hIM, (by rw [List.append_assoc]; exact g6)⟩)
     | (have hq := zGo (d := d) (n := n) (s := s) (by first | exact .inl hfd | exact .inr (zBs (by omega) (by omega)) | exact .inr (zBs (by omega) (fun e => by rw [← hz]; exact decide_eq_false (by omega)))) (by assumption)
        exact ⟨s + 1, a1, c1, B1 ++ B, M2, zB4 (by rw [hq] <;> rfl) (by rw [hq] <;> rfl) rfl, by omega, rfl, by rw [hq]; exact hsl1.top, hIM2, (by rw [List.append_assoc]; exact g6)⟩)
     | (have hq := zI3 (d := d) (n := n) (s := s) (by first | exact .inl hfd | exact .inr (zBs (by omega) (by omega)) | exact .inr (zBs (by omega) (fun e => by rw [← hz]; exact decide_eq_false (by omega)))) (by assumption)
        exact ⟨s + 1, av, cv, B1 ++ B, M2, zB4 (by rw [hq] <;> rfl) (by rw [hq, hfd] <;> rfl) rfl, by omega, rfl, by rw [hq]; exact hslv.app, hIM2, (by rw [List.append_assoc]; exact g6)⟩)
  try simp only [zS] at gb
  refine zBq (zAo (zAo (zA8 (zAc (gm _ _ (zAf (fun gO gw => (zAa (w_p (zAi (v := .slice _ _ _) rfl rfl) rfl (w_p (zAm (v := .slice _ _ _) rfl rfl) rfl ?_))))))))))
  refine zAe (zAc (gw _ _ (zA2 (zA9 (l := [.tmp 4]) (vs := [_]) rfl ⟨⟨rfl, show _ = (.slice _ _ _ : Value) from rfl⟩, trivial⟩ ?_))))
  have hin : s = 1 <<< n := by omega
  subst hin
  exact ⟨B, M, av, cv, rfl, hslv, hIM, hs⟩

end Go.Proofs.Kb
set_option maxRecDepth 20000
namespace Go.Proofs.Kb
open Go.Proofs.Tryz
open Go.Rt Go.Rt.Ch
open Go.Rt.Ha (firstE zBv zBf zBo failE nameE felt spanL upto zCi listL fewest fewTo bit before fewStep zCo zDg zCb zCx zCj zC5 zCv zB2)
attribute [local irreducible] WL WC Con Yd At Ats Sl Agree DW
theorem zIw (x0 : Int) (x1 : Int) (w : World) : (Instr.build 23 [(0, .int .i64 x0),(1, .int .i64 x1)].toArray).run Tryz.prog w = .ok (.agg #[.int .i64 x0, .int .i64 x1]) w := by kernel_rfl
theorem nodup_inj {α : Type} : ∀ {es : List (α × Value × Nat)}, (es.map (·.2.2)).Nodup → ∀ {a b : α × Value × Nat}, a ∈ es → b ∈ es → a.2.2 = b.2.2 → a = b
  | [], _, a, _, h, _, _ => by cases h
  | x :: es, hn, a, b, ha, hb, e => by
    rw [List.map_cons, List.nodup_cons] at hn
    have hnot : ∀ r ∈ es, r.2.2 ≠ x.2.2 := fun r hr e => hn.1 (by rw [← e]; exact List.mem_map_of_mem (f := fun r : α × Value × Nat => r.2.2) hr)
    rcases List.mem_cons.1 ha with ea | ha2
    · rcases List.mem_cons.1 hb with eb | hb2
      · rw [ea, eb]
      · exact absurd (by rw [← ea]; exact e.symm) (hnot b hb2)
    · rcases List.mem_cons.1 hb with eb | hb2
      · exact absurd (by rw [← eb]; exact e) (hnot a ha2)
      · exact nodup_inj hn.2 ha2 hb2 e
theorem key93 : KeyTy Tryz.prog 93 4 := keyTy_array underlying93 underlying3 sizeOf3 (by kernel_rfl)
theorem spm_step {b : Board} {s i ck : Nat} {f : List Int → Int} {es : List (List Int × Value × Nat)} {lo hi : Int} (hi2 : i < (truths b).length) (hsp : SpM s f ((truths b).take i) es) (hn : (es.map (·.1)).Nodup)
    (h : (mask s (pad4 (truths b)[i]) ∉ es.map (·.1) ∧ lo = min (f (truths b)[i]) (f (truths b)[i]) ∧ hi = max (f (truths b)[i]) (f (truths b)[i])) ∨ (mask s (pad4 (truths b)[i]) ∈ es.map (·.1) ∧ lo = min (gS s f ((truths b).take i) (mask s (pad4 (truths b)[i]))).1 (f (truths b)[i]) ∧ hi = max (gS s f ((truths b).take i) (mask s (pad4 (truths b)[i]))).2 (f (truths b)[i]))) :
    SpM s f ((truths b).take (i + 1)) (putA (mask s (pad4 (truths b)[i])) (.agg #[.int .i64 lo, .int .i64 hi]) ck es) := by
  rw [List.take_succ_eq_append_getElem hi2]
  refine hsp.put hn (p := (lo, hi)) ?_ ck
  rcases h with ⟨h1, rfl, rfl⟩ | ⟨h1, rfl, rfl⟩
  · rw [gS_new hsp h1]
  · rw [gS_more hsp h1]
theorem mul_40 {a : Int} (s k : Nat) (h : 0 ≤ a ∧ a ≤ 40) : 0 ≤ a * ((bit s k : Nat) : Int) ∧ a * ((bit s k : Nat) : Int) ≤ 40 := by
  rcases bit_lt2 s k with e | e <;> rw [e] <;> simp <;> omega
theorem tells_no {b : Board} (hok : b.Ok) {hold within : Int} {s : Nat} {es : List (List Int × Value × Nat)} (h : SpM s (inH b hold) (truths b) es) {q : List Int × Value × Nat} (hq : q ∈ es) (hn : within < (gS s (inH b hold) (truths b) q.1).2 - (gS s (inH b hold) (truths b) q.1).1) : false = tellsS b hold within s := by
  cases ht : tellsS b hold within s with
  | false => rfl
  | true => have := (tells_map hok h).1 ht q hq; omega
theorem looksP_e {b : Board} {h n : Int} (e : ¬ enterE b (looksE b h n) = 0) : looksP b h n = ([], enterE b (looksE b h n)) := by unfold looksP; rw [if_pos e]
theorem looksP_y {b : Board} {h n : Int} (e : enterE b (looksE b h n) = 0) : looksP b h n = ((fewest (tellsS b h n) b.hours.length).1,0) := by unfold looksP; rw [if_neg (by simp [e])]
theorem zFj {w0 w : World} {B M P F : List (Nat × Obj)} (h : St w0 w (B ++ (M ++ (P ++ F)))) : St w0 w (B ++ F) := by
  have e : B ++ (M ++ (P ++ F)) = B ++ ((M ++ P) ++ F) := by simp only [List.append_assoc]
  rw [e] at h
  exact (h.perm (zAq B (M ++ P) F)).drop
theorem c64 {w0 w : World} {X M F : List (Nat × Obj)} (b : Board) (p : AtB) (bb mm : Nat) (hk : BK w0 F b p bb mm) (s : Nat) (hs1k : s < 1000) (hold within : Int) (bq bh bw : Nat) (h1 : Ats w0 F bq 0 [.pointer (some ⟨bb, 0, none⟩)]) (h2 : Ats w0 F bh 0 [.int .i64 hold]) (h3 : Ats w0 F bw 0 [.int .i64 within]) (hM : Memo w0 b mm M) (hs : St w0 w (X ++ (M ++ F))) :
  Con Tryz.prog 64 [.int .i64 (s : Int), .pointer (some ⟨bq, 0, none⟩), .pointer (some ⟨bh, 0, none⟩), .pointer (some ⟨bw, 0, none⟩)] w fun v w' => v = .bool (tellsS b hold within s) ∧ ∃ M', Memo w0 b mm M' ∧ St w0 w' (X ++ (M' ++ F)) := by
  refine zDr (n := 70) func64 rfl rfl (zNl rfl) ?_
  have hlh := hk.ok.lh
  refine zAf (fun K2 gk => (zAa (zCa (v := .int _ _) (cs := [_]) zAb rfl rfl rfl hs (fun b3 w4 gl => ?_))))
  refine zBg rfl rfl (zAe (zAc (gk _ _ (zAf (fun K7 gm => (zAa (zF6 zAb gl (fun b8 w9 gn => ?_))))))))
  refine zBb (cs := [_]) zAb zeroValue121 rfl gn (fun g8 gY go => ?_)
  refine zA4 (i := 0) (v := .map _) (vs := [_]) zAb sizeOf121 rfl rfl rfl rfl rfl (by simp [Value.oneCell']) go rfl (zNl rfl) (fun gZ ge => ?_)
  refine zAe (zAc (gm _ _ (zAf (fun hD gp => (zAf (fun hO gq => (zAa (w_p (zAj isAgg88 ge.tail.tail.tail.drop.drop rfl rfl h1) rfl (zAs zAb call65 rfl rfl rfl rfl (c65 _ ge) ?_)))))))))
  rintro _ hP ⟨bp, rfl, gr⟩
  refine zAe (zAc (gq _ _ (zAz ?_)))
  refine zJa ([_,_] ++ M) (fun i Bx => ∃ B M, Bx = B ++ M ∧ Memo w0 b mm M ∧ ∃ (es : List (List Int × Value × Nat)) (ck : Nat), MOk es ck ∧ SpM s (inH b hold) ((truths b).take (i)) es ∧ B = [(g8, blk 121 [.map (some b8)]), (b8, .map (ents (fun l : List Int => ia l) es).toArray (ck))]) (fun c Bx => ∃ B M, Bx = B ++ M ∧ Memo w0 b mm M ∧ False) rfl rfl rfl call86 (zFn b p bb mm hk.app.cons.cons bp (zAh (i := 0) (vs := [_]) rfl rfl)) (zG0 (fun i B => ∃ (es : List (List Int × Value × Nat)) (ck : Nat), MOk es ck ∧ SpM s (inH b hold) ((truths b).take (i)) es ∧ B = [(g8, blk 121 [.map (some b8)]), (b8, .map (ents (fun l : List Int => ia l) es).toArray (ck))]) (fun c B => False) (fun i Bx => Iff.rfl) (fun c Bx => Iff.rfl)) gr (hull_perm _ _ _ _ _ _ _) ⟨_, M, rfl, hM, [], 0, mok_nil, spm_nil _ _, rfl⟩ ?_ ?_ ?_
  ·
   intro lp i hi Bx Xr Xr2 hX hJ hs K gt
   obtain ⟨BB, M3, rfl, g0, es, ck, hmk, hsp, rfl⟩ := hJ
   have hi2 : i < (truths b).length := by simpa using hi
   rw [List.getElem_map, List.getElem_map]
   have htm := List.getElem_mem hi2
   have hpl := zB6 hk.ok htm
   have g9 : ∀ k, 0 ≤ ld (pad4 (truths b)[i]) k ∧ ld (pad4 (truths b)[i]) k ≤ 40 := fun k => by rw [zI2]; exact ld_40 hk.ok htm k
   obtain ⟨h, hh⟩ : ∃ h, h = pad4 (truths b)[i] := ⟨_, rfl⟩
   rw [← hh] at hpl g9 ⊢
   have hx4 : Ats w0 ((bp, blk 88 [.pointer (some ⟨bb, 0, none⟩)]) :: (b3, blk 3 [.int .i64 (s : Int)]) :: (X ++ F)) b3 0 [.int .i64 (s : Int)] := zAh (i := 1) rfl rfl
   replace hs := (show St _ _ (_ :: _ :: (M3 ++ (Xr ++ ((bp, blk 88 [.pointer (some ⟨bb, 0, none⟩)]) :: (b3, blk 3 [.int .i64 (s : Int)]) :: (X ++ F))))) from hs)
   refine zAa (zBb (cs := iv [0,0,0,0]) zAb zeroValue93 rfl hs (fun gu hY gv => ?_))
   refine zCm (i := 0) (l := _) zAb sizeOf93 (by first | omega | rfl | (simp only [hpl, zCp, zL] <;> omega)) rfl rfl rfl rfl rfl gv rfl (by first | omega | rfl | (simp only [hpl, zCp, zL] <;> omega)) (fun j0 gw => ?_)
   refine zAe (zAc (gt _ _ (_ :: _ :: _ :: M3) gw (fun j1 g4 => ?_)))
   replace g4 := (show St _ _ (_ :: _ :: _ :: M3 ++ (Xr2 ++ (_ :: _ :: X ++ (F)))) from g4)
   refine zAz ?_
   refine zAf (fun j2 gx => (zAa (w_p (zAj isAgg88 g4.tail.tail.tail.drop.drop.tail.tail.drop rfl rfl h1) rfl (w_p (zB5 (i := 0) isAgg93 sizeOf93 (by first | omega | rfl | (simp only [hpl, zCp, zL] <;> omega)) g4 rfl rfl rfl) rfl ?_))))
   refine w_p (zAj isAgg3 g4.tail.tail.tail.drop.drop.tail.tail.drop rfl rfl h2) rfl (zAs zAb call42 rfl rfl rfl rfl (c42 b p bb mm hk.app.cons.cons.app.app.cons.cons.cons h hpl g9 hold g4) ?_)
   rintro _ j3 ⟨rfl, gy⟩
   refine zBl rfl rfl (zAe (zAc (gx _ _ (zAf (fun j4 gz => (zAf (fun j5 gA => (zAa (w_p (zAi (v := _) rfl rfl) rfl (zAe (zAc (gA _ _ (zAz ?_)))))))))))))
   refine zB3 [9,22,23,24,25,26,27,28,29,30,31,32,33,34] [22] (fun kk vs w => ∃ k : Nat, vs = [.int .i64 k] ∧ k ≤ 4 ∧ kk = 4 - k ∧ St w0 w ((gu, blk 93 (iv (maskTo s h k))) :: (g8, blk 121 [.map (some b8)]) :: (b8, .map (ents (fun l : List Int => ia l) es).toArray ck) :: (M3 ++ (Xr2 ++ ((bp, blk 88 [.pointer (some ⟨bb, 0, none⟩)]) :: (b3, blk 3 [.int .i64 (s : Int)]) :: (X ++ F)))))) (4) ?_ ?_
   ·
    exact ⟨0, rfl, by omega, by omega, by rw [maskTo_zero hpl]; exact gy⟩
   intro k vs μ j6 hI j7 gB
   obtain ⟨k, rfl, hka, rfl, hs⟩ := hI
   refine zAf (fun j8 gC => (zAa (w_p (zCl rfl rfl rfl rfl) rfl (zAe (zAc (gC _ _ (zAf (fun j9 gD => (zAy rfl rfl (fun ga => ?_) (fun ga => ?_))))))))))
   ·
    try simp only [zS] at ga
    refine zAv (zAc (gD _ _ (zAf (fun ja gE => (zAz ?_)))))
    refine zAf (fun jb gF => (zAa (zBa rfl rfl (zBl rfl rfl (zAe (zAc (gF _ _ ?_)))))))
    have hk4 : k < 4 := by omega
    have hmg : (maskTo s h k).getD k 0 = h.getD k 0 := maskTo_get hk4
    have hm40 := g9 k
    have hml : ld h k = h.getD k 0 := rfl
    have hmb := mul_40 (a := (maskTo s h k).getD k 0) s k (by omega)
    refine zCs [9] [(0,0),(1,0),(2,1),(3,1),(4,0),(5,0),(6,0),(7,0),(8,0),(9,3)] zCg (zC8 (by kernel_rfl)) hs (fun jc gb => ?_)
    refine d_w rfl (fun _ => zA1 rfl rfl) rfl ?_
    refine d_w rfl (fun _ => zC3 underlying93 sizeOf3 rfl rfl rfl rfl (i := k) (by first | rfl | omega) (by omega)) rfl ?_
    refine zBh rfl zAb rfl gb (fun _ hq => (zAj isAgg3 hq rfl rfl (zD8 (i := 0) (j := k) rfl (by first | omega | rfl | (simp only [hpl, zCp, zL] <;> omega))))) ?_
    refine zBh rfl zAb rfl gb (fun _ hq => (zAj isAgg3 hq.tail.tail.tail.drop.drop rfl rfl hx4)) ?_
    refine d_w rfl (fun _ => zA1 rfl rfl) rfl ?_
    refine d_w rfl (fun _ => y_shr (x := s) (y := k) rfl rfl rfl rfl (by first | rfl | omega) (by first | rfl | omega) (by first | omega | exact zGa (by omega))) rfl ?_
    refine d_w rfl (fun _ => show Yd _ _ _ _ (.int .i64 ((bit s k : Nat) : Int)) from (y_and (x := _) (y := 1) rfl rfl rfl rfl rfl rfl (by first | omega | exact zGa (by omega)) (by first | omega | exact zGa (by omega)))) rfl ?_
    refine d_w rfl (fun _ => y_mul rfl rfl rfl rfl (by omega) (by omega)) rfl ?_
    refine d_w rfl (fun _ => zC3 underlying93 sizeOf3 rfl rfl rfl rfl (i := k) (by first | rfl | omega) (by omega)) rfl ?_
    refine zDt rfl ?_
    refine zDz (i := 0) (j := k) zAb sizeOf3 rfl rfl rfl rfl gb rfl (by first | omega | rfl | (simp only [hpl, zCp, zL] <;> omega)) (fun jd gG => ?_)
    refine zAe (qn ?_)
    refine zB0 ?_
    refine zAl (zAc (gE _ _ (zAa (w_p (zBj rfl rfl rfl rfl (by omega) (by omega)) rfl (zBa rfl rfl (zAe (zAc (gB _ _ (nxI (4 - (k + 1)) (by omega) ?_)))))))))
    exact ⟨k + 1, rfl, by omega, rfl, by rw [← maskTo_set hk4]; exact gG⟩
   try simp only [zS] at ga
   refine zBq (zAo (zAo (zA8 (zAc (gz _ _ (zAf (fun je gH => ?_)))))))
   have hk4 : k = 4 := by omega
   subst hk4
   refine zAa (w_p (zAj isAgg121 hs rfl rfl (zAh (i := 1) (vs := [_]) rfl rfl)) rfl (w_p (zB5 (i := 0) isAgg93 sizeOf93 (by first | omega | rfl | (simp only [hpl, zCp, zL] <;> omega)) hs rfl rfl rfl) rfl ?_))
   refine w_p (G_look2V (i := 2) (a := mask s h) (l := es) (fun key => sv (gS s (inH b hold) ((truths b).take i) key)) underlying121 (zIp key93) (by unfold mask; exact zCp _ _ _) hsp.len hsp.v (fun hn w => by rw [hsp.zero hn]; exact zeroValue23 w) hs rfl rfl rfl rfl rfl) rfl ?_
   refine w_p (zAi (v := .tuple _) rfl rfl) rfl (w_p (zAn (v := .agg _) rfl rfl rfl) rfl (w_p (zAn (v := .bool _) rfl rfl rfl) rfl (zBb (cs := [_,_]) zAb zeroValue23 rfl hs (fun jf jg gI => ?_))))
   refine zA4 (i := 0) (v := .agg #[.int _ _, .int _ _]) (vs := [_,_]) zAb sizeOf23 rfl rfl rfl rfl rfl (by simp [Value.oneCell']) gI rfl (zNl rfl) (fun jh g5 => ?_)
   refine w_p (zAm (v := .bool _) rfl rfl) rfl (zAe (zAc (gH _ _ (zAf (fun ji gf => (zAf (fun jj gJ => (zAa (w_p (zAi (v := .bool _) rfl rfl) rfl ?_)))))))))
   refine w_p (zDi rfl rfl) rfl (zAe (zAc (gJ _ _ (zAy rfl rfl (fun gc => ?_) (fun gc => ?_)))))
   ·
    try simp only [zS] at gc
    refine zAa (zBa rfl rfl (zBa rfl rfl (w_p (zBy (ps := [(0, _),(1, _)]) (pv := [(0, .int _ _),(1, .int _ _)]) rfl rfl (fun w => zIw _ _ w)) rfl (zA4 (i := 0) (v := .agg #[.int _ _, .int _ _]) (vs := [_,_]) zAb sizeOf23 rfl rfl rfl rfl rfl (by simp [Value.oneCell']) g5 rfl (zNl rfl) (fun jk g6 => ?_)))))
    refine zAe (zAc (gf _ _ (zAa (w_p (zAj isAgg121 g6 rfl rfl (zAh (i := 2) (vs := [_]) rfl rfl)) rfl (w_p (zB5 (i := 1) isAgg93 sizeOf93 (by first | omega | rfl | (simp only [hpl, zCp, zL] <;> omega)) g6 rfl rfl rfl) rfl ?_)))))
    refine w_p (zAd (o := 0) (i := 0) underlying23 rfl sizeOf3 rfl rfl rfl) rfl (w_p (zAj isAgg3 g6 rfl rfl (zAh (i := 0) (vs := [_]) rfl rfl)) rfl (zBa rfl rfl (w_p (y_min2 rfl rfl rfl rfl) rfl (w_p (zAd (o := 1) (i := 1) underlying23 rfl sizeOf3 rfl rfl rfl) rfl ?_))))
    refine w_p (zAj isAgg3 g6 rfl rfl (zAh (i := 0) (vs := [_]) rfl rfl)) rfl (zBa rfl rfl (w_p (zF4 rfl rfl rfl rfl) rfl (w_p (zBy (ps := [(0, _),(1, _)]) (pv := [(0, .int _ _),(1, .int _ _)]) rfl rfl (fun w => zIw _ _ w)) rfl ?_)))
    refine G_put (i := 3) (a := mask s h) (l := es) zAb underlying121 (zIp key93) (by unfold mask; exact zCp _ _ _) hsp.len rfl rfl rfl rfl rfl rfl g6 rfl (fun jl gK => ?_)
    refine zAe (zAl (zCu (_ :: _ :: M3) gK.tail.tail ?_))
    subst hh
    refine ⟨_, M3, rfl, g0, _,_, ?_, ?_, rfl⟩
    · exact hmk.put _ _
    · refine spm_step hi2 hsp hmk.key ?_
      first
        | exact .inl ⟨by simpa using (by assumption : ¬ mask s (pad4 (truths b)[i]) ∈ es.map (·.1)), by rw [zFy], by rw [zFy]⟩
        | exact .inr ⟨by assumption, by rw [zFy], by rw [zFy]⟩
   try simp only [zS] at gc
   refine zAv (zAc (gf _ _ (zAa (w_p (zAj isAgg121 g5 rfl rfl (zAh (i := 2) (vs := [_]) rfl rfl)) rfl (w_p (zB5 (i := 1) isAgg93 sizeOf93 (by first | omega | rfl | (simp only [hpl, zCp, zL] <;> omega)) g5 rfl rfl rfl) rfl ?_)))))
   refine w_p (zAd (o := 0) (i := 0) underlying23 rfl sizeOf3 rfl rfl rfl) rfl (w_p (zAj isAgg3 g5 rfl rfl (zAh (i := 0) (vs := [_]) rfl rfl)) rfl (zBa rfl rfl (w_p (y_min2 rfl rfl rfl rfl) rfl (w_p (zAd (o := 1) (i := 1) underlying23 rfl sizeOf3 rfl rfl rfl) rfl ?_))))
   refine w_p (zAj isAgg3 g5 rfl rfl (zAh (i := 0) (vs := [_]) rfl rfl)) rfl (zBa rfl rfl (w_p (zF4 rfl rfl rfl rfl) rfl (w_p (zBy (ps := [(0, _),(1, _)]) (pv := [(0, .int _ _),(1, .int _ _)]) rfl rfl (fun w => zIw _ _ w)) rfl ?_)))
   refine G_put (i := 3) (a := mask s h) (l := es) zAb underlying121 (zIp key93) (by unfold mask; exact zCp _ _ _) hsp.len rfl rfl rfl rfl rfl rfl g5 rfl (fun jm gL => ?_)
   refine zAe (zAl (zCu (_ :: _ :: M3) gL.tail.tail ?_))
   subst hh
   refine ⟨_, M3, rfl, g0, _,_, ?_, ?_, rfl⟩
   · exact hmk.put _ _
   · refine spm_step hi2 hsp hmk.key ?_
     first
       | exact .inl ⟨by simpa using (by assumption : ¬ mask s (pad4 (truths b)[i]) ∈ es.map (·.1)), by rw [zFy], by rw [zFy]⟩
       | exact .inr ⟨by assumption, by rw [zFy], by rw [zFy]⟩
  ·
   intro bd Bx jn hJ hs
   obtain ⟨BB, M3, rfl, g0, es, ck, hmk, hsp, rfl⟩ := hJ
   rw [List.length_map, List.length_map, List.take_length] at hsp
   replace hs := (show St _ _ (_ :: _ :: _ :: (M3 ++ ((bp, blk 88 [.pointer (some ⟨bb, 0, none⟩)]) :: (b3, blk 3 [.int .i64 (s : Int)]) :: (X ++ F)))) from hs)
   refine zAl (zAc (gp _ _ (zAf (fun jo gM => (zAf (fun jp gN => (zAa (w_p (zAj isAgg121 hs rfl rfl (zAh (i := 1) (vs := [_]) rfl rfl)) rfl ?_))))))))
   refine zIe (i := 2) zAb underlying121 rfl rfl hs rfl (fun gO jq gP => ?_)
   refine zAe (zAc (gN _ _ (zAz ?_)))
   refine zB3 [5,13,59,60,61,62,63,64,65,66,67,68,69] [] (fun kk vs w => ∃ (seen : Array Nat), vs = [] ∧ kk = remN es seen ∧ (∀ q ∈ es, q.2.2 ∈ seen.toList → (gS s (inH b hold) (truths b) q.1).2 - (gS s (inH b hold) (truths b) q.1).1 ≤ within) ∧ St w0 w ((gO, .mapIter (some b8) ck seen ck) :: (bd, .deferred (some [])) :: (g8, blk 121 [.map (some b8)]) :: (b8, .map (ents (fun l : List Int => ia l) es).toArray ck) :: (M3 ++ ((bp, blk 88 [.pointer (some ⟨bb, 0, none⟩)]) :: (b3, blk 3 [.int .i64 (s : Int)]) :: (X ++ F))))) (es.length) ?_ ?_
   ·
    exact ⟨#[], rfl, (rem_zero es).symm, fun q _ h => by simp at h, gP⟩
   intro k vs μ jr hI js gQ
   clear hs
   obtain ⟨seen, rfl, rfl, hsn, hs⟩ := hI
   refine zAf (fun jt gg => (zAa (w_nextMap (i := 0) (j := 3) zAb rfl rfl hs rfl rfl hmk.born (Nat.le_refl _) (fun r hr hnr ju gh => ?_) (fun hall => ?_))))
   ·
    obtain ⟨rk, rv, rb⟩ := r
    have hrv := hsp.v _ hr
    dsimp only at hrv
    subst hrv
    refine w_p (zAn (v := .bool _) rfl rfl rfl) rfl (zAe (zAc (gg _ _ (zAf (fun jv gR => (zCh rfl rfl ?_))))))
    refine zAv (zAc (gR _ _ (zAz ?_)))
    refine zAf (fun jw gT => ?_)
    have hgi := gS_in hk.ok (hold := hold) s (fun l h => h) rk
    refine zAa (w_p (y_entryG (i := 0) (j := 3) rfl rfl gh rfl rfl hr hmk.bnd) rfl (w_p (zAn (v := .agg _) rfl rfl rfl) rfl (zBb (cs := [_,_]) zAb zeroValue23 rfl gh (fun jx jy gU => ?_))))
    refine zA4 (i := 0) (v := .agg #[.int _ _, .int _ _]) (vs := [_,_]) zAb sizeOf23 rfl rfl rfl rfl rfl (by simp [Value.oneCell']) gU rfl (zNl rfl) (fun jz g7 => ?_)
    refine zAe (zAc (gT _ _ (zAf (fun jA gV => (zAa (w_p (zAd (o := 1) (i := 1) underlying23 rfl sizeOf3 rfl rfl rfl) rfl (w_p (zAj isAgg3 g7 rfl rfl (zAh (i := 0) (vs := [_]) rfl rfl)) rfl ?_)))))))
    refine w_p (zAd (o := 0) (i := 0) underlying23 rfl sizeOf3 rfl rfl rfl) rfl (w_p (zAj isAgg3 g7 rfl rfl (zAh (i := 0) (vs := [_]) rfl rfl)) rfl (w_p (zEi rfl rfl rfl rfl (by omega) (by omega)) rfl ?_))
    refine w_p (zAj isAgg3 g7.tail.tail.tail.tail.tail.drop.tail.tail.drop rfl rfl h3) rfl (w_p (zFa rfl rfl rfl rfl) rfl (zAe (zAc (gV _ _ (zAy rfl rfl (fun gd => ?_) (fun gd => ?_))))))
    ·
     try simp only [zS] at gd
     refine zAf (fun jB gW => (zAa (zBg rfl rfl (zAe (zAc (gW _ _ (zA2 (zAt (zAk (zAt (zAk (zEw (i := 2) (l := [.tmp 5]) (vs := [_]) g7 rfl rfl (fun jC gi => ⟨⟨⟨rfl, (rfl : _ = Value.bool _)⟩, trivial⟩, ?_⟩)))))))))))))
     first
       | exact ⟨congrArg Value.bool (tells_no hk.ok hsp hr (by simpa using (by assumption))), M3, g0, zGh gi.tail.tail.tail.tail.tail⟩
       | exact ⟨congrArg Value.bool ((tells_map hk.ok hsp).2 fun q hq => hsn q hq (hall q hq)).symm, M3, g0, zGh gi.tail.tail.tail.tail.tail⟩
    try simp only [zS] at gd
    refine zAv (zAl (zAc (gQ _ _ (Nx.intro (remN es (seen.push rb)) (by have := zFs hmk.bnd hr hnr; dsimp only at this; omega) (by repeat (first | exact zA6 | refine zA5 rfl ?_ | refine zAw rfl ?_ _ | refine zAr rfl ?_)) ?_))))
    exact ⟨seen.push rb, rfl, rfl, fun q hq h => (by
      rw [Array.toList_push, List.mem_append, List.mem_singleton] at h
      rcases h with h | h
      · exact hsn q hq h
      · have e := nodup_inj hmk.bnd hq hr h
        rw [e]; simpa using (by assumption)), g7.tail⟩
   refine w_p (zAn (v := .bool _) rfl rfl rfl) rfl (zAe (zAc (gg _ _ (zAf (fun jD jE => (zCc rfl rfl ?_))))))
   refine zBq (zAo (zAo (zA8 (zAc (gM _ _ (zAf (fun jF gX => (zAa (zBg rfl rfl (zAe (zAc (gX _ _ (zA2 (zEw (i := 1) (l := [.tmp 5]) (vs := [_]) hs rfl rfl (fun jG gj => ⟨⟨⟨rfl, (rfl : _ = Value.bool _)⟩, trivial⟩, ?_⟩)))))))))))))))
   first
     | exact ⟨congrArg Value.bool (tells_no hk.ok hsp hr (by simpa using (by assumption))), M3, g0, zGh gj.tail.tail.tail.tail⟩
     | exact ⟨congrArg Value.bool ((tells_map hk.ok hsp).2 fun q hq => hsn q hq (hall q hq)).symm, M3, g0, zGh gj.tail.tail.tail.tail⟩
  intro _ _ _ _ hJ
  obtain ⟨_, _,_,_, h⟩ := hJ
  exact h.elim

end Go.Proofs.Kb
set_option maxRecDepth 20000
namespace Go.Proofs.Kb
open Go.Proofs.Tryz
open Go.Rt Go.Rt.Ch
open Go.Rt.Ha (firstE zBv zBf zBo failE nameE felt spanL upto zCi listL fewest fewTo bit before fewStep zCo zDg zCb zCx zCj zC5 zCv zB2)
attribute [local irreducible] WL WC Con Yd At Ats Sl Agree DW
theorem Try_KP_fb3 (x0 : Int) (x1 : Int) (w : World) : (Instr.buildSlice 34 2 [(0, .int .i64 x0),(1, .int .i64 x1)].toArray).run Tryz.prog w = .ok (.slice (some ⟨w.heap.size, 0, none⟩) 2 2) (w.alloc (Go.Rt.blk 3 [.int .i64 x0, .int .i64 x1])) := by kernel_rfl
theorem c31 {w0 w : World} {F : List (Nat × Obj)} (b : Board) (p : AtB) (hm : BIn w0 F b p) (a n : Int) (hs : St w0 w F) :
  Con Tryz.prog 31 [.agg (b.cells p).toArray, .int .i64 a, .int .i64 n] w fun v w' => ∃ B a' c, v = .tuple #[.slice a' (looksP b a n).1.length c, .int .i64 (looksP b a n).2] ∧ Sl w0 B a' 1 ((looksP b a n).1.map fun x => [Value.int .i64 x]) ∧ St w0 w' (B ++ F) := by
  refine zAu (n := 31) func31 rfl rfl (zNl rfl) ?_
  have hlh0 := hm.lh
  have hlc0 := hm.lc
  refine zAf (fun K2 gd => (zAa (zCa (v := .agg #[.int _ _, .slice _ _ _, .slice _ _ _]) (cs := [_,_,_]) zAb rfl rfl rfl hs (fun b3 w4 ge => ?_))))
  refine zCa (v := .int _ _) (cs := [_]) zAb rfl rfl rfl ge (fun b6 w7 gf => ?_)
  refine zCa (v := .int _ _) (cs := [_]) zAb rfl rfl rfl gf (fun b9 gu g0 => ?_)
  refine zBg rfl rfl (zBg rfl rfl (zAe (zAc (gd _ _ (zAf (fun gv gg => (zAa (zBg rfl rfl (zAe (zAc (gg _ _ (zAf (fun gw gh => (w_cut [8,11,12] [8] (fun vs w => vs = [.int .i64 (if n < 0 then (7 : Int) else 0)] ∧ St w0 w ((b9, blk 3 [.int .i64 n]) :: (b6, blk 3 [.int .i64 a]) :: (b3, blk 41 (b.cells p)) :: F)) (fun gx ga => ?_) ?_))))))))))))))
  ·
   refine zAf (fun gy gi => (zAa (w_p (zAj isAgg3 g0 rfl rfl (zAh (i := 0) (vs := [_]) rfl rfl)) rfl (w_p (zCl rfl rfl rfl rfl) rfl (zAe (zAc (gi _ _ (zAy rfl rfl (fun g6 => ?_) (fun g6 => ?_)))))))))
   ·
    try simp only [zS] at g6
    refine zAa (zBg rfl rfl (zAe (zAc (ga _ _ (Md.intro (by repeat (first | exact zA3 | exact zA6 | refine zA5 rfl ?_ | refine zAw rfl ?_ _ | refine zAr rfl ?_)) ?_)))))
    first
      | exact ⟨by rw [if_pos (by assumption)]; rfl, g0⟩
      | exact ⟨by rw [if_neg (by omega)]; rfl, g0⟩
   try simp only [zS] at g6
   refine zAv (zAc (ga _ _ (Md.intro (by repeat (first | exact zA3 | exact zA6 | refine zA5 rfl ?_ | refine zAw rfl ?_ _ | refine zAr rfl ?_)) ?_)))
   first
     | exact ⟨by rw [if_pos (by assumption)]; rfl, g0⟩
     | exact ⟨by rw [if_neg (by omega)]; rfl, g0⟩
  intro vs μ gz hM
  obtain ⟨rfl, hs⟩ := hM
  refine zAc (gh _ _ (zAf (fun gA gb => ?_)))
  have hb3 : Ats w0 ((b3, blk 41 (b.cells p)) :: F) b3 0 (b.cells p) := zAh (i := 0) (vs := b.cells p) rfl rfl
  refine zAa (w_p (zA7 (vs := [_,_,_]) isAgg41 sizeOf41 hs.tail.tail rfl rfl hb3) rfl (zBa rfl rfl (w_p (zAj isAgg3 hs rfl rfl (zAh (i := 1) (vs := [_]) rfl rfl)) rfl (w_p (zAd (o := 0) (i := 0) underlying41 rfl sizeOf3 rfl rfl rfl) rfl ?_))))
  refine w_p (zAj isAgg3 hs.tail.tail rfl rfl (show Ats _ _ _ _ [_] from Ats.part hb3 0 1)) rfl (zA0 (ps := [(0, _),(1, _)]) (pv := [(0, .int _ _),(1, .int _ _)]) (cs := [_,_]) zAb rfl rfl (fun w => Try_KP_fb3 _ _ w) hs (fun gj gB gk => ?_))
  refine zAs zAb call39 rfl rfl rfl rfl ((by have h := c39 b _ hm.cons.cons.cons.cons (if n < 0 then (7 : Int) else 0) (some ⟨gj,0, none⟩) 2 [a, b.holds] (by simp) (by simp) (hns_b a) (zBp (i := 0) (rows := [[_], [_]]) rfl (by simp) rfl) gk; rw [pairs_looks] at h; exact h)) ?_
  rintro _ gC (⟨hee, rfl, g4⟩ | ⟨hee, bb, mm, M, rfl, hM, g4⟩)
  ·
   refine w_p (zAi (v := .tuple _) rfl rfl) rfl (w_p (zAn (v := .pointer _) rfl rfl rfl) rfl (w_p (zAn (v := .int _ _) rfl rfl rfl) rfl (zBb (cs := [_]) zAb zeroValue88 rfl g4 (fun gD gE gl => ?_))))
   refine zA4 (i := 0) (v := .pointer _) (vs := [_]) zAb sizeOf88 rfl rfl rfl rfl rfl (by simp [Value.oneCell']) gl rfl (zNl rfl) (fun gF gm => ?_)
   refine zBl rfl rfl (zAe (zAc (gb _ _ (zAf (fun gG gH => (zAf (fun gI gn => (zAa (zBa rfl rfl (w_p (zCt rfl rfl rfl rfl) rfl (zAe (zAc (gn _ _ (zAy rfl rfl (fun g5 => ?_) (fun g5 => ?_)))))))))))))))
   ·
    try simp only [zS] at g5
    refine zAf (fun gJ go => (zAa (zBa rfl rfl (zBg rfl rfl (zBl rfl rfl (zAe (zAc (go _ _ (zA2 (zAk (zA9 (l := [.tmp 6, .tmp 7]) (vs := [_,_]) rfl ⟨⟨rfl, show _ = (.slice _ _ _ : Value) from rfl⟩, ⟨rfl, (rfl : _ = Value.int _ _)⟩, trivial⟩ ?_)))))))))))
    exact ⟨[], none, 0, by rw [looksP_e hee]; rfl, by rw [looksP_e hee]; exact Sl.nil _ _, gm.tail.tail.tail.tail.tail⟩
   exfalso
   try simp only [zS] at g5
   first | exact hee g5 | exact g5 hee
  replace g4 := (show St _ _ (_ :: M ++ (_ :: _ :: _ :: _ :: F)) from g4)
  have g7 := (show St _ _ ([_] ++ (M ++ _)) from g4).perm (zAq [_] M _)
  replace g7 := (show St _ _ (M ++ (_ :: _ :: _ :: _ :: _ :: F)) from g7)
  have hew := zGq hee
  have hok := check_ok hew.1
  refine w_p (zAi (v := .tuple _) rfl rfl) rfl (w_p (zAn (v := .pointer _) rfl rfl rfl) rfl (w_p (zAn (v := .int _ _) rfl rfl rfl) rfl (zBb (cs := [_]) zAb zeroValue88 rfl g7 (fun gK gL gp => ?_))))
  refine zA4 (i := 0) (v := .pointer _) (vs := [_]) zAb sizeOf88 rfl rfl rfl rfl rfl (by simp [Value.oneCell']) gp rfl (zNl rfl) (fun gM gc => ?_)
  refine zBl rfl rfl (zAe (zAc (gb _ _ (zAf (fun gN gq => (zAf (fun gO gr => (zAa (zBa rfl rfl (w_p (zCt rfl rfl rfl rfl) rfl (zAe (zAc (gr _ _ (zCc rfl rfl ?_))))))))))))))
  refine zAv (zAc (gq _ _ (zAf (fun gP gt => (zAa (w_p (zAd (o := 1) (i := 1) underlying41 rfl sizeOf38 rfl rfl rfl) rfl (w_p (zAj isAgg38 gc.tail.drop.tail.tail.tail.tail rfl rfl (show Ats _ _ _ _ [_] from Ats.part hb3 1 1)) rfl ?_)))))))
  refine w_p (zBm underlying38 rfl rfl) rfl (w_p (zCd (fv := []) (cv := [_,_,_]) rfl rfl rfl rfl) rfl ?_)
  have g8 := (show St _ _ ([_] ++ (M ++ _)) from gc).perm (zAq [_] M _)
  replace g8 := (show St _ _ (M ++ (_ :: _ :: _ :: _ :: _ :: _ :: F)) from g8)
  refine zAs zAb call63 rfl rfl rfl rfl (c63 (M := M) (F := _ :: (bb, blk 131 [.int .i64 b.holds, .slice p.ah b.hours.length p.ch, .slice p.ac b.ctrs.length p.cc, .map (some mm)]) :: _ :: _ :: _ :: _ :: F) b.hours.length (by have := hok.lh; omega) _ (tellsS b a n) (Memo w0 b mm) (fun s M X w gQ hM hs => zEl call64 (c64 b p bb mm ⟨hm.cons.cons.cons.cons.cons.cons, zAh (i := 1) rfl rfl, hok⟩ s (by have := (shl_256 (n := b.hours.length) (by have := hok.lh; omega)).2; omega) a n _ _ _ (zAh (i := 0) (vs := [_]) rfl rfl) (zAh (i := 4) (vs := [_]) rfl rfl) (zAh (i := 3) (vs := [_]) rfl rfl) hM hs)) hM g8) ?_
  rintro _ gR ⟨B, M2, a2, c2, rfl, hslB, gT, g9⟩
  replace g9 := (show St _ _ (B ++ (M2 ++ (_ :: _ :: _ :: _ :: _ :: _ :: F))) from g9)
  refine w_p (zAm (v := .slice _ _ _) rfl rfl) rfl (zBg rfl rfl (zAe (zAc (gt _ _ (zA2 (zA9 (l := [.tmp 6, .tmp 7]) (vs := [_,_]) rfl ⟨⟨rfl, show _ = (.slice _ _ _ : Value) from rfl⟩, ⟨rfl, (rfl : _ = Value.int _ _)⟩, trivial⟩ ?_))))))
  exact ⟨B, a2, c2, by rw [looksP_y hee]; rfl, by rw [looksP_y hee]; exact hslB, zFj (P := [_,_,_,_,_,_]) g9⟩

end Go.Proofs.Kb
/- Plain words of the chain layer: boards without some numbers shown, step by step. No conditions. -/
namespace Go.Rt.Ch
open Go.Rt.Ha
theorem zHf (n s : Nat) : ∀ (l : List Ctr) (i : Nat), (butFrom n s i l).length = l.length
  | [], _ => rfl
  | c :: l, i => by simp only [butFrom, List.length_cons, zHf n s l (i + 1)]
theorem butFrom_get {n s : Nat} : ∀ {l : List Ctr} {i k : Nat} (h : k < l.length), (butFrom n s i l)[k]'(by rw [zHf]; exact h) = butC n s (i + k) l[k]
  | c :: l, i, 0, h => rfl
  | c :: l, i, k + 1, h => by
    simp only [butFrom, List.getElem_cons_succ]
    rw [butFrom_get (l := l) (i := i + 1) (k := k) (by simpa using h), show i + 1 + k = i + (k + 1) by omega]
theorem zDa (b : Board) (s : Nat) : (butB b s).ctrs.length = b.ctrs.length := zHf _ _ _ _
theorem zF1 {b : Board} {s k : Nat} (h : k < b.ctrs.length) : (butB b s).ctrs[k]'(by rw [zDa]; exact h) = butC b.hours.length s k b.ctrs[k] := by
  have := butFrom_get (n := b.hours.length) (s := s) (i := 0) h
  rw [Nat.zero_add] at this; exact this
theorem butC_slen (n s i : Nat) (c : Ctr) : (butC n s i c).shown.length = c.shown.length := by simp [butC]
theorem butB_ok {b : Board} (h : b.Ok) (s : Nat) : (butB b s).Ok := by
  refine ⟨h.holds, h.lh, by rw [zDa]; exact h.lc, h.hour, fun c hc => ?_⟩
  obtain ⟨k, hk, rfl⟩ := List.getElem_of_mem hc
  have hk2 : k < b.ctrs.length := by rw [zDa] at hk; exact hk
  rw [zF1 hk2]
  have ho := h.ctr _ (List.getElem_mem hk2)
  refine ⟨ho.skip, ho.twice, ho.start, ho.lz, by rw [butC_slen]; exact ho.ls, ho.zero, fun z hz => ?_, ho.nm⟩
  simp only [butC, List.mem_map, List.mem_range] at hz
  obtain ⟨j, hj, rfl⟩ := hz
  split
  · omega
  · have : b.ctrs[k].shown.getD j 0 = b.ctrs[k].shown[j] := by simp [List.getD, hj]
    rw [this]; exact ho.shown _ (List.getElem_mem hj)
def BL (b : Board) (s i : Nat) : List Ctr := (butB b s).ctrs.take i ++ b.ctrs.drop i
theorem BL_len {b : Board} {s i : Nat} (h : i ≤ b.ctrs.length) : (BL b s i).length = b.ctrs.length := by
  unfold BL; rw [List.length_append, List.length_take, List.length_drop, zDa]; omega
theorem BL_zero (b : Board) (s : Nat) : BL b s 0 = b.ctrs := by simp [BL]
theorem BL_all {b : Board} {s i : Nat} (h : b.ctrs.length ≤ i) : BL b s i = (butB b s).ctrs := by
  unfold BL; rw [List.take_of_length_le (by rw [zDa]; exact h), List.drop_of_length_le h, List.append_nil]
theorem BL_get {b : Board} {s i : Nat} (h : i < b.ctrs.length) : (BL b s i)[i]'(by rw [BL_len (by omega)]; exact h) = b.ctrs[i] := by
  have hl : ((butB b s).ctrs.take i).length = i := by rw [List.length_take, zDa]; omega
  unfold BL
  rw [List.getElem_append_right (by omega)]
  simp [hl]
theorem BL_set {b : Board} {s i : Nat} (h : i < b.ctrs.length) : BL b s (i + 1) = (BL b s i).set i (butC b.hours.length s i b.ctrs[i]) := by
  have hl : ((butB b s).ctrs.take i).length = i := by rw [List.length_take, zDa]; omega
  unfold BL
  rw [List.set_append_right _ _ (by omega), hl, Nat.sub_self, List.drop_eq_getElem_cons h, List.set_cons_zero, List.take_succ_eq_append_getElem (by rw [zDa]; exact h), zF1 h, List.append_assoc]; rfl
def setPc (q : Nat → AtC) (i : Nat) (a : Option Addr) (c : Nat) : Nat → AtC := fun j => if j = i then { q i with «as» := a, cs := c } else q j
theorem krows_set {l : List Ctr} {q : Nat → AtC} {i : Nat} {c : Ctr} {a : Option Addr} {cp : Nat} (hi : i < l.length) (hc : c.cells { q i with «as» := a, cs := cp } = (l[i].cells (q i)).set 5 (.slice a l[i].shown.length cp)) : (krows l q).set i ((l[i].cells (q i)).set 5 (.slice a l[i].shown.length cp)) = krows (l.set i c) (setPc q i a cp) := by
  unfold krows
  apply List.ext_getElem
  · simp
  · intro k h1 h2
    have hk : k < l.length := by simpa using h1
    rw [List.getElem_set, List.getElem_mapIdx, List.getElem_mapIdx, List.getElem_set]
    by_cases e : i = k
    · subst e
      rw [if_pos rfl, if_pos rfl]
      unfold setPc; rw [if_pos rfl]; exact hc.symm
    · rw [if_neg e, if_neg e]
      unfold setPc; rw [if_neg (fun h => e h.symm)]
theorem but_cells {n s i : Nat} {c : Ctr} {q : AtC} {a : Option Addr} {cp : Nat} : (butC n s i c).cells { q with «as» := a, cs := cp } = (c.cells q).set 5 (.slice a c.shown.length cp) := by
  unfold Ctr.cells
  rw [butC_slen]; rfl
def shPart (n s i k : Nat) (l : List Int) : List Int := (List.range l.length).map fun j => if j < k ∧ bit s (i * n + j) = 1 then -1 else l.getD j 0
theorem zFc (n s i k : Nat) (l : List Int) : (shPart n s i k l).length = l.length := by simp [shPart]
theorem shPart_zero (n s i : Nat) (l : List Int) : shPart n s i 0 l = l := by
  apply List.ext_getElem
  · rw [zFc]
  · intro j h1 h2; simp [shPart, List.getD, h2]
theorem shPart_get {n s i k : Nat} {l : List Int} (hk : k < l.length) : (shPart n s i k l).getD k 0 = l.getD k 0 := by
  simp [shPart, List.getD, hk]
theorem shPart_yes {n s i k : Nat} {l : List Int} (hk : k < l.length) (h : bit s (i * n + k) = 1) : (shPart n s i k l).set k (-1) = shPart n s i (k + 1) l := by
  apply List.ext_getElem
  · simp [shPart]
  · intro j h1 h2
    have hj : j < l.length := by rwa [zFc] at h2
    rw [List.getElem_set]
    by_cases e : k = j
    · subst e; simp [shPart, h]
    · rw [if_neg e]
      have e2 : (j < k + 1) ↔ (j < k) := by omega
      simp [shPart, e2]
theorem shPart_no {n s i k : Nat} {l : List Int} (h : bit s (i * n + k) = 0) : shPart n s i k l = shPart n s i (k + 1) l := by
  apply List.ext_getElem
  · simp [shPart]
  · intro j h1 h2
    by_cases e : j = k
    · subst e; simp [shPart, h]
    · have e2 : (j < k + 1) ↔ (j < k) := by omega
      simp [shPart, e2]
theorem shPart_all {n s i k : Nat} {c : Ctr} (hk : c.shown.length ≤ k) : shPart n s i k c.shown = (butC n s i c).shown := by
  unfold shPart butC
  refine List.map_congr_left fun j hj => ?_
  rw [List.mem_range] at hj
  have : j < k := by omega
  simp [this]
def WOK (b : Board) (s m : Nat) : Prop := ∀ j, j < m → ¬ (bit s j = 1 ∧ shownAt b j = -1)
theorem shown_at {b : Board} {i k : Nat} (hi : i < b.ctrs.length) (hk : k < b.hours.length) : shownAt b (i * b.hours.length + k) = b.ctrs[i].shown.getD k 0 := by
  unfold shownAt
  have e1 : (i * b.hours.length + k) / b.hours.length = i := by
    rw [Nat.mul_comm, Nat.mul_add_div (by omega), Nat.div_eq_of_lt hk]; omega
  have e2 : (i * b.hours.length + k) % b.hours.length = k := by
    rw [Nat.mul_comm, Nat.mul_add_mod, Nat.mod_eq_of_lt hk]
  rw [e1, e2, ctr_at hi]
theorem wok_no {b : Board} {s i k : Nat} (h : WOK b s (i * b.hours.length + k)) (hb : bit s (i * b.hours.length + k) = 0) : WOK b s (i * b.hours.length + (k + 1)) := by
  intro j hj
  by_cases e : j = i * b.hours.length + k
  · subst e; rintro ⟨h1, _⟩; omega
  · exact h j (by omega)
theorem wok_yes {b : Board} {s i k : Nat} (hi : i < b.ctrs.length) (hk : k < b.hours.length) (h : WOK b s (i * b.hours.length + k)) (hs : ¬ b.ctrs[i].shown.getD k 0 = -1) : WOK b s (i * b.hours.length + (k + 1)) := by
  intro j hj
  by_cases e : j = i * b.hours.length + k
  · subst e; rintro ⟨_, h2⟩; rw [shown_at hi hk] at h2; exact hs h2
  · exact h j (by omega)
theorem wok_row {b : Board} {s i k : Nat} (hk : b.hours.length ≤ k) (hk2 : k ≤ b.hours.length) (h : WOK b s (i * b.hours.length + k)) : WOK b s ((i + 1) * b.hours.length + 0) := by
  have : k = b.hours.length := by omega
  subst this
  rw [Nat.succ_mul]; exact h
theorem wrongS_no {b : Board} {s i k : Nat} (hi : i < b.ctrs.length) (hk : k < b.hours.length) (hb : bit s (i * b.hours.length + k) = 1) (hs : b.ctrs[i].shown.getD k 0 = -1) : wrongS b s = false := by
  unfold wrongS
  rw [Bool.and_eq_false_iff]
  left
  rw [List.all_eq_false]
  have hlt : i * b.hours.length + k < b.hours.length * b.ctrs.length := by
    have h1 : (i + 1) * b.hours.length ≤ b.ctrs.length * b.hours.length := Nat.mul_le_mul_right _ (by omega)
    rw [Nat.succ_mul, Nat.mul_comm b.ctrs.length] at h1
    omega
  refine ⟨_, List.mem_range.2 hlt, ?_⟩
  rw [shown_at hi hk, hb, hs]; simp
theorem wrongS_yes {b : Board} {s i : Nat} (hi : b.ctrs.length ≤ i) (h : WOK b s (i * b.hours.length + 0)) : wrongS b s = !(truths (butB b s)).isEmpty := by
  unfold wrongS
  rw [List.all_eq_true.2, Bool.true_and]
  intro j hj
  rw [List.mem_range] at hj
  have h1 : b.ctrs.length * b.hours.length ≤ i * b.hours.length := Nat.mul_le_mul_right _ hi
  rw [Nat.mul_comm] at h1
  have := h j (by omega)
  simp only [Bool.not_eq_true', Bool.and_eq_false_iff, decide_eq_false_iff_not]
  by_cases e : bit s j = 1
  · exact .inr fun h2 => this ⟨e, h2⟩
  · exact .inl e
theorem mul_in8 {n c i k : Nat} (hn : n ≤ 4) (hc : c ≤ 2) (hi : i < c) (hk : k < n) : i * n + k < 8 ∧ i * n ≤ 4 := by
  have h1 : i * n ≤ 1 * 4 := Nat.mul_le_mul (by omega) hn
  omega
end Go.Rt.Ch
/- Rows of cells, one of which is set anew. No conditions. -/
namespace Go.Rt
theorem flat_len_sz {rows : List (List Value)} {sz : Nat} (hr : ∀ row ∈ rows, row.length = sz) : rows.flatten.length = rows.length * sz := by
  induction rows with
  | nil => simp
  | cons r l ih => rw [List.flatten_cons, List.length_append, hr r (.head _), ih fun x hx => hr x (.tail _ hx), List.length_cons, Nat.succ_mul]; omega
theorem setMany_len : ∀ (vs cs : List Value) (off : Nat), (setMany cs off vs).length = cs.length
  | [], cs, off => rfl
  | v :: vs, cs, off => by simp only [setMany]; rw [setMany_len vs]; simp
end Go.Rt
set_option maxRecDepth 20000
namespace Go.Proofs.Kb
open Go.Proofs.Tryz
open Go.Rt Go.Rt.Ch
open Go.Rt.Ha (firstE zBv zBf zBo failE nameE felt spanL upto zCi listL fewest fewTo bit before fewStep zCo zDg zCb zCx zCj zC5 zCv zB2)
attribute [local irreducible] WL WC Con Yd At Ats Sl Agree DW
theorem Try_KQ_fb3  (w : World) : (Instr.buildSlice 39 0 [].toArray).run Tryz.prog w = .ok (.slice (some ⟨w.heap.size, 0, none⟩) 0 0) (w.alloc (Go.Rt.blk 43 [])) := by kernel_rfl
theorem Try_info43 : Tryz.prog.info? 43 = some Tryz.t43 := by kernel_rfl
theorem Try_KQ_fb5  (w : World) : (Instr.buildSlice 34 0 [].toArray).run Tryz.prog w = .ok (.slice (some ⟨w.heap.size, 0, none⟩) 0 0) (w.alloc (Go.Rt.blk 3 [])) := by kernel_rfl
theorem krows_one (l : List Ctr) (q : Nat → AtC) : ∀ row ∈ krows l q, ∀ u ∈ row, u.oneCell' = true := by
  intro row hr u hu
  obtain ⟨i, hi, rfl⟩ := List.getElem_of_mem hr
  simp only [krows, List.getElem_mapIdx, Ctr.cells, List.mem_cons, List.not_mem_nil, or_false] at hu
  rcases hu with rfl | rfl | rfl | rfl | rfl | rfl <;> rfl
theorem ints_rows (l : List Int) : (l.map fun x => [Value.int .i64 x]).flatten = iv l := by induction l with | nil => rfl | cons x l ih => simp only [List.map_cons, List.flatten_cons, ih]; rfl
theorem ints1_one (l : List Int) : ∀ row ∈ l.map (fun x => [Value.int .i64 x]), ∀ u ∈ row, u.oneCell' = true := by
  intro row hr u hu
  obtain ⟨x, _, rfl⟩ := List.mem_map.1 hr
  rw [List.mem_singleton] at hu; subst hu; rfl
def QC (p : AtB) (qc : Nat → AtC) (i : Nat) : Prop := (∀ j, i ≤ j → qc j = p.pc j) ∧ ∀ j, (qc j).az = (p.pc j).az ∧ (qc j).cz = (p.pc j).cz
def DS (w0 : World) (DB : List (Nat × Obj)) (b : Board) (s : Nat) (qc : Nat → AtC) (i : Nat) : Prop := ∀ k (hk : k < i) (hk2 : k < b.ctrs.length), Sl w0 DB (qc k).as 1 ((butC b.hours.length s k b.ctrs[k]).shown.map fun x => [Value.int .i64 x]) ∧ b.ctrs[k].shown.length ≤ (qc k).cs
theorem qc_zero (p : AtB) : QC p p.pc 0 := ⟨fun _ _ => rfl, fun _ => ⟨rfl, rfl⟩⟩
theorem QC.next {p : AtB} {qc : Nat → AtC} {i : Nat} (h : QC p qc i) (a : Option Addr) (c : Nat) : QC p (setPc qc i a c) (i + 1) := by
  refine ⟨fun j hj => ?_, fun j => ?_⟩
  · unfold setPc; rw [if_neg (by omega)]; exact h.1 j (by omega)
  · unfold setPc
    split
    · rename_i e; subst e; exact h.2 j
    · exact h.2 j
theorem ds_zero (w0 : World) (b : Board) (s : Nat) (qc : Nat → AtC) : DS w0 [] b s qc 0 := fun k hk => by omega
theorem DS.next {w0 : World} {DB B2 : List (Nat × Obj)} {b : Board} {s i : Nat} {qc : Nat → AtC} (h : DS w0 DB b s qc i) {a : Option Addr} {c : Nat} (hi : i < b.ctrs.length) (h2 : Sl w0 B2 a 1 ((butC b.hours.length s i b.ctrs[i]).shown.map fun x => [Value.int .i64 x])) (hc : b.ctrs[i].shown.length ≤ c) : DS w0 (B2 ++ DB) b s (setPc qc i a c) (i + 1) := by
  intro k hk hk2
  unfold setPc
  by_cases e : k = i
  · subst e
    rw [if_pos rfl]
    exact ⟨h2.top, hc⟩
  · rw [if_neg e]
    exact ⟨(h k (by omega) hk2).1.app, (h k (by omega) hk2).2⟩
theorem own_int_sl {w0 : World} {a : Option Addr} {n c : Nat} {l : List Int} {B : List (Nat × Obj)} (h : Rt.Own (.slice a n c) 3 1 n (iv l) B) (hl : l.length = n) : Sl w0 B a 1 (l.map fun x => [Value.int .i64 x]) ∧ n ≤ c := by
  obtain ⟨a', c', h1, h2, h3, _⟩ := zFg (w0 := w0) (rows := l.map fun x => [Value.int .i64 x]) h (by intro row hr; obtain ⟨x, _, rfl⟩ := List.mem_map.1 hr; rfl) (by rw [List.length_map, hl]) (ints_rows l).symm
  injection h1 with e1 _ e3
  subst e1 e3
  exact ⟨h2, h3⟩
theorem drop_set_cell {cs : List Value} {k : Nat} {v : Value} (h : k < cs.length) : ((cs.set k v).drop k).take [v].length = [v] := by
  rw [List.drop_eq_getElem_cons (by simpa using h)]
  simp
theorem take_get {cs : List Value} {l : List Int} {m k : Nat} (h : cs.take (m * 1) = iv l) (hl : l.length = m) (hk : k < m) : (cs.drop (0 + k * 1)).take 1 = [.int .i64 (l.getD k 0)] := by
  have hlen : k < cs.length := by
    have := congrArg List.length h
    rw [List.length_take, List.length_map] at this; omega
  rw [Nat.mul_one, Nat.zero_add, List.drop_eq_getElem_cons hlen]
  have h2 : (cs.take (m * 1))[k]? = (iv l)[k]? := by rw [h]
  rw [List.getElem?_take, if_pos (by omega), List.getElem?_eq_getElem hlen] at h2
  simp only [iv, List.getElem?_map, List.getElem?_eq_getElem (show k < l.length by omega), Option.map_some, Option.some.injEq] at h2
  simp [h2, List.getD, show k < l.length by omega]
theorem take_put {cs : List Value} {l : List Int} {m k : Nat} {z : Int} (h : cs.take (m * 1) = iv l) : (setMany cs (0 + k * 1) [.int .i64 z]).take (m * 1) = iv (l.set k z) := by
  simp only [setMany, Nat.zero_add, Nat.mul_one]
  rw [List.take_set]
  rw [Nat.mul_one] at h
  rw [h]; simp [iv, List.map_set]
theorem but_bin {w0 : World} {F B1 DB : List (Nat × Obj)} {b : Board} {p : AtB} {s i cC : Nat} {aC : Option Addr} {qc : Nat → AtC} (hm : BIn w0 F b p) (hi : b.ctrs.length ≤ i) (hown : Rt.Own (.slice aC b.ctrs.length cC) 43 6 b.ctrs.length (krows (BL b s i) qc).flatten B1) (hq : QC p qc i) (hd : DS w0 DB b s qc i) : BIn w0 (B1 ++ (DB ++ F)) (butB b s) ⟨p.ah, p.ch, aC, cC, qc⟩ := by
  rw [BL_all hi] at hown
  obtain ⟨a', c', h1, h2, h3, _⟩ := zFg (w0 := w0) (rows := krows (butB b s).ctrs qc) hown (zGk _ _) (by rw [zFh, zDa]) rfl
  injection h1 with e1 _ e3
  subst e1 e3
  refine ⟨hm.h.app.app, h2.top, fun k hk => ?_, fun k hk => ?_, hm.lh, by rw [zDa]; exact hm.lc, hm.ch, by rw [zDa]; exact h3, fun k hk => ?_, fun k hk => ?_, fun x hx => ?_⟩
  · have hk2 : k < b.ctrs.length := by rw [zDa] at hk; exact hk
    rw [zF1 hk2, show (qc k).az = (p.pc k).az from (hq.2 k).1]; exact (hm.z k hk2).app.app
  · have hk2 : k < b.ctrs.length := by rw [zDa] at hk; exact hk
    rw [zF1 hk2]; exact (hd k (by omega) hk2).1.top.app
  · have hk2 : k < b.ctrs.length := by rw [zDa] at hk; exact hk
    rw [zF1 hk2, show (qc k).cz = (p.pc k).cz from (hq.2 k).2]; exact hm.lz k hk2
  · have hk2 : k < b.ctrs.length := by rw [zDa] at hk; exact hk
    rw [zF1 hk2, butC_slen]; exact ⟨(hm.ls k hk2).1, (hd k (by omega) hk2).2⟩
  · obtain ⟨k, hk, rfl⟩ := List.getElem_of_mem hx
    have hk2 : k < b.ctrs.length := by rw [zDa] at hk; exact hk
    rw [zF1 hk2]; exact hm.nm b.ctrs[k] (List.getElem_mem hk2)
theorem c69 {w0 w : World} {F : List (Nat × Obj)} (a : Option Addr) (c : Nat) (l : List Ctr) (q : Nat → AtC) (hl : l.length ≤ 1000000) (ha : Sl w0 F a 6 (krows l q)) (hs : St w0 w F) :
  Con Tryz.prog 69 [.slice a l.length c] w fun v w' => ∃ a2 c2 B', v = .slice a2 l.length c2 ∧ Rt.Own (.slice a2 l.length c2) 43 6 l.length (krows l q).flatten B' ∧ St w0 w' (B' ++ F) := by
  refine zAu (n := 8) func69 rfl rfl (zNl rfl) ?_
  refine zAf (fun K2 g6 => (zAa (zBg rfl rfl (zAe (zAc (g6 _ _ (zAf (fun K4 g7 => (zAf (fun K6 g8 => (zAa (w_p (zAi (v := .slice _ _ _) rfl rfl) rfl ?_))))))))))))
  refine w_p (zIb underlying39 rfl rfl rfl rfl) rfl (zAe (zAc (g8 _ _ (zAy rfl rfl (fun h7 => ?_) (fun h7 => ?_)))))
  ·
   try simp only [zS] at h7
   refine zAf (fun K9 g9 => (zAa (zBg rfl rfl (zAe (zAc (g9 _ _ (zA2 (zAk (zA9 (l := [.tmp 2]) (vs := [_]) rfl ⟨⟨rfl, show _ = (.slice _ _ _ : Value) from rfl⟩, trivial⟩ ?_)))))))))
   have hr := sl_none (L := F) (w0 := w0) (by have : a = none := (by simpa using ‹a.isNone = true›); subst this; exact ha)
   have hl0 : l = [] := by simpa [krows] using hr
   subst hl0
   exact ⟨none, 0, [], rfl, zD4 43 6, hs⟩
  try simp only [zS] at h7
  refine zAv (zAc (g7 _ _ (zAf (fun gd ga => (zAa (zA0 (ps := []) (pv := []) (cs := []) zAb rfl rfl (fun w => Try_KQ_fb3  w) hs (fun ge gf gb => ?_)))))))
  refine w_p (zAi (v := .slice _ _ _) rfl rfl) rfl (zBu (X := ([])) (B := [_]) (rows := krows l q) (sz := 6) (bytes := 88) zAb underlying39 Try_info43 rfl rfl rfl rfl rfl rfl rfl rfl rfl gb zDd ha.cons (by simp [krows]) (fun h => by subst h; simp at h7) (krows_one l q) (by simp only [maxLen]; omega) (by omega) (fun g4 gg gc g5 g0 => ?_))
  replace g0 := (show St _ _ (gc ++ (F)) from g0)
  refine w_p (zAm (v := g4) rfl rfl) rfl (zAe (zAc (ga _ _ (zA2 (zA9 (l := [.tmp 2]) (vs := [_]) rfl ⟨⟨rfl, show _ = (g4 : Value) from rfl⟩, trivial⟩ ?_)))))
  rw [Nat.zero_add, List.nil_append] at g5
  have h9 := g5
  obtain ⟨a2, c2, rfl⟩ := h9.slice
  exact ⟨a2, c2, _, rfl, h9, g0⟩

theorem c70 {w0 w : World} {F : List (Nat × Obj)} (a : Option Addr) (c : Nat) (l : List Int) (hl : l.length ≤ 1000000) (ha : Sl w0 F a 1 (l.map fun x => [Value.int .i64 x])) (hs : St w0 w F) :
  Con Tryz.prog 70 [.slice a l.length c] w fun v w' => ∃ a2 c2 B', v = .slice a2 l.length c2 ∧ Rt.Own (.slice a2 l.length c2) 3 1 l.length (iv l) B' ∧ St w0 w' (B' ++ F) := by
  refine zAu (n := 8) func70 rfl rfl (zNl rfl) ?_
  refine zAf (fun K2 g6 => (zAa (zBg rfl rfl (zAe (zAc (g6 _ _ (zAf (fun K4 g7 => (zAf (fun K6 g8 => (zAa (w_p (zAi (v := .slice _ _ _) rfl rfl) rfl ?_))))))))))))
  refine w_p (zIb underlying34 rfl rfl rfl rfl) rfl (zAe (zAc (g8 _ _ (zAy rfl rfl (fun h7 => ?_) (fun h7 => ?_)))))
  ·
   try simp only [zS] at h7
   refine zAf (fun K9 g9 => (zAa (zBg rfl rfl (zAe (zAc (g9 _ _ (zA2 (zAk (zA9 (l := [.tmp 2]) (vs := [_]) rfl ⟨⟨rfl, show _ = (.slice _ _ _ : Value) from rfl⟩, trivial⟩ ?_)))))))))
   have hr := sl_none (L := F) (w0 := w0) (by have : a = none := (by simpa using ‹a.isNone = true›); subst this; exact ha)
   have hl0 : l = [] := by simpa [krows] using hr
   subst hl0
   exact ⟨none, 0, [], rfl, zD4 3 1, hs⟩
  try simp only [zS] at h7
  refine zAv (zAc (g7 _ _ (zAf (fun gd ga => (zAa (zA0 (ps := []) (pv := []) (cs := []) zAb rfl rfl (fun w => Try_KQ_fb5  w) hs (fun ge gf gb => ?_)))))))
  refine w_p (zAi (v := .slice _ _ _) rfl rfl) rfl (zBu (X := ([])) (B := [_]) (rows := (l.map fun x => [Value.int .i64 x])) (sz := 1) (bytes := 8) zAb underlying34 zCk rfl rfl rfl rfl rfl rfl rfl rfl rfl gb zDd ha.cons (by simp) (fun h => by subst h; simp at h7) (ints1_one l) (by simp only [maxLen]; omega) (by omega) (fun g4 gg gc g5 g0 => ?_))
  replace g0 := (show St _ _ (gc ++ (F)) from g0)
  refine w_p (zAm (v := g4) rfl rfl) rfl (zAe (zAc (ga _ _ (zA2 (zA9 (l := [.tmp 2]) (vs := [_]) rfl ⟨⟨rfl, show _ = (g4 : Value) from rfl⟩, trivial⟩ ?_)))))
  rw [Nat.zero_add, List.nil_append] at g5
  have h9 := g5
  obtain ⟨a2, c2, rfl⟩ := h9.slice
  exact ⟨a2, c2, _, rfl, (by rw [ints_rows] at h9; exact h9), g0⟩

theorem c67 {w0 w : World} {F : List (Nat × Obj)} (b : Board) (p : AtB) (hm : BIn w0 F b p) (hck : (check b).2.2 = 0) (s : Nat) (hs1k : s < 1000) (bq bh : Nat) (h1 : Ats w0 F bq 0 (b.cells p)) (h2 : Ats w0 F bh 0 [.int .i64 (b.hours.length : Int)]) (hs : St w0 w F) :
  Con Tryz.prog 67 [.int .i64 (s : Int), .pointer (some ⟨bq, 0, none⟩), .pointer (some ⟨bh, 0, none⟩)] w fun v w' => v = .bool (wrongS b s) ∧ St w0 w' F := by
  refine zAu (n := 73) func67 rfl rfl (zNl rfl) ?_
  have hok := check_ok hck
  have hlh := hok.lh
  have hlc := hok.lc
  refine zAf (fun K2 gg => (zAa (zBg rfl rfl (zAe (zAc (gg _ _ (zAf (fun K4 gh => (zAa (w_p (zA7 (vs := [_,_,_]) isAgg41 sizeOf41 hs rfl rfl h1) rfl ?_))))))))))
  refine zAs zAb call68 rfl rfl rfl rfl (c68 b p hs) ?_
  rintro _ w6 ⟨bb, mm, rfl, g4⟩
  replace g4 := (show St _ _ (_ :: _ :: F) from g4)
  refine w_p (zAm (v := .pointer _) rfl rfl) rfl (zAe (zAc (gh _ _ (zAf (fun K9 gi => (zAa (w_p (zAi (v := .pointer _) rfl rfl) rfl (w_p (zAd (o := 2) (i := 2) underlying41 rfl sizeOf39 rfl rfl rfl) rfl ?_))))))))
  refine w_p (zAj isAgg39 g4.tail.tail rfl rfl (show Ats _ _ _ _ [_] from Ats.part h1 2 1)) rfl (zAs zAb call69 rfl rfl rfl rfl (c69 _ _ b.ctrs p.pc (by omega) hm.c.cons.cons g4) ?_)
  rintro _ gG ⟨aC, cC, B1, rfl, hown, gj⟩
  have g5 := (show St _ _ (B1 ++ ([_,_] ++ F)) from gj).perm (zAq B1 [_,_] F)
  replace g5 := (show St _ _ (_ :: _ :: B1 ++ (F)) from g5)
  refine w_p (zBi rfl rfl) rfl (w_p (zAd (o := 0) (i := 0) underlying131 rfl sizeOf41 rfl rfl rfl) rfl (w_p (zAd (o := 2) (i := 2) underlying41 rfl sizeOf39 rfl rfl rfl) rfl (zA4 (i := 0) (v := .slice _ _ _) (vs := [_]) zAb sizeOf39 rfl rfl rfl rfl rfl (by simp [Value.oneCell']) g5 rfl (zNl rfl) (fun gH gd => ?_))))
  refine zAe (zAc (gi _ _ (zAf (fun gI gk => (zAf (fun gJ gl => (zAa (w_p (zAi (v := .pointer _) rfl rfl) rfl (w_p (zBi rfl rfl) rfl ?_)))))))))
  refine w_p (zAd (o := 0) (i := 0) underlying131 rfl sizeOf41 rfl rfl rfl) rfl (w_p (zAd (o := 2) (i := 2) underlying41 rfl sizeOf39 rfl rfl rfl) rfl (w_p (zAj isAgg39 gd rfl rfl (zAh (i := 0) (vs := [_]) rfl rfl)) rfl ?_))
  refine w_p (zBm underlying39 rfl rfl) rfl (w_p (zAi (v := _) rfl rfl) rfl (zAe (zAc (gl _ _ (zAz ?_)))))
  refine zB3 [4,6,7,8,24,25,26,27,28,29,30,31,32,33,34,35,36,37,38,39,40,41,42,43,44,45,46,47,48,49,50,51,52,53,54,55,56,57,58,59,60,61,62,63,64,65,66,67,68,69,70] [24] (fun kk vs w => ∃ (i : Nat) (B1 DB : List (Nat × Obj)) (qc : Nat → AtC), vs = [.int .i64 i] ∧ i ≤ b.ctrs.length ∧ kk = b.ctrs.length - i ∧ Rt.Own (.slice aC b.ctrs.length cC) 43 6 b.ctrs.length (krows (BL b s i) qc).flatten B1 ∧ QC p qc i ∧ DS w0 DB b s qc i ∧ WOK b s (i * b.hours.length + 0) ∧ St w0 w ((bb, blk 131 [.int .i64 b.holds, .slice p.ah b.hours.length p.ch, .slice aC b.ctrs.length cC, .map (some mm)]) :: (mm, .map #[] 0) :: (B1 ++ (DB ++ F)))) (b.ctrs.length) ?_ ?_
  ·
   exact ⟨0, B1, [], p.pc, rfl, by omega, by omega, by rw [BL_zero]; exact hown, qc_zero p, ds_zero w0 b s _, (fun j hj => by omega), gd⟩
  intro k vs μ gK hI gL gm
  clear hs hown
  obtain ⟨i, B1, DB, qc, rfl, hia, rfl, hown, hqc, hds, hwk, hs⟩ := hI
  refine zAf (fun gM gn => (zAa (w_p (zCl rfl rfl rfl rfl) rfl (zAe (zAc (gn _ _ (zAf (fun gN go => (zAy rfl rfl (fun g6 => ?_) (fun g6 => ?_))))))))))
  ·
   try simp only [zS] at g6
   refine zAv (zAc (go _ _ (zAf (fun gO gp => (zAz ?_)))))
   refine zAf (fun gP gq => (zAa (zBa rfl rfl (zBl rfl rfl (zAe (zAc (gq _ _ (zAf (fun gQ gr => ?_)))))))))
   have hi2 : i < b.ctrs.length := by omega
   have hci := hok.ctr _ (List.getElem_mem hi2)
   have hlz := hci.ls
   obtain ⟨bc, cs, rfl, rfl, hcap, hcapm, hcl, htk⟩ := own_some2 hown (by omega)
   replace hs := (show St _ _ (_ :: _ :: _ :: DB ++ (F)) from hs)
   obtain ⟨bx, ox, hbx2, hrow⟩ := zGt (zBp (w0 := w0) (L := (bc, blk 43 cs) :: (DB ++ F)) (i := 0) rfl (zGk (BL b s i) qc) (by rw [zFh, BL_len (by omega)]; exact htk)) (i := i) (by rw [BL_len (by omega)]; exact hi2)
   cases hbx2
   rw [BL_get hi2, hqc.1 i (Nat.le_refl _)] at hrow
   refine zAa (w_p (zAi (v := .pointer _) rfl rfl) rfl (w_p (zBi rfl rfl) rfl (w_p (zAd (o := 0) (i := 0) underlying131 rfl sizeOf41 rfl rfl rfl) rfl (w_p (zAd (o := 2) (i := 2) underlying41 rfl sizeOf39 rfl rfl rfl) rfl ?_))))
   refine w_p (zAj isAgg39 hs rfl rfl (zAh (i := 0) (vs := [_]) rfl rfl)) rfl (zBa rfl rfl (w_p (zBc underlying39 sizeOf43 rfl rfl rfl rfl (i := i) rfl hi2) rfl (w_p (zAm (v := .pointer _) rfl rfl) rfl (zAe (zAc (gr _ _ (zAf (fun gR gt => (zAa (w_p (zAi (v := .pointer _) rfl rfl) rfl ?_))))))))))
   refine w_p (zAi (v := .pointer _) rfl rfl) rfl (w_p (zBi rfl rfl) rfl (w_p (zAd (o := 5) (i := 5) underlying43 rfl sizeOf34 rfl rfl rfl) rfl (w_p (zAj isAgg34 hs.tail.tail rfl rfl (show Ats _ _ _ _ [_] from Ats.part hrow 5 1)) rfl (zAs zAb call70 rfl rfl rfl rfl (c70 _ _ (b.ctrs[i]'hi2).shown (by omega) (hm.s i hi2).app.cons.cons.cons hs) ?_))))
   rintro _ gT ⟨a2, c2, B2, rfl, hown2, gu⟩
   have g7 := (show St _ _ (B2 ++ ([_,_,_] ++ (DB ++ F))) from gu).perm (zAq B2 [_,_,_] (DB ++ F))
   replace g7 := (show St _ _ (_ :: _ :: _ :: B2 ++ (DB ++ (F))) from g7)
   refine w_p (zBi rfl rfl) rfl (w_p (zAd (o := 5) (i := 5) underlying43 rfl sizeOf34 rfl rfl rfl) rfl (zA4 (i := 2) (v := .slice _ _ _) (vs := [_]) zAb sizeOf34 rfl rfl rfl rfl rfl (by simp [Value.oneCell']) g7 rfl (by show 0 + i * 6 + 5 + 1 ≤ cs.length; omega) (fun gU g0 => ?_)))
   replace g0 := (show St _ _ (_ :: _ :: (bc, blk 43 (setMany cs (0 + i * 6 + 5) [(Value.slice a2 (b.ctrs[i]'hi2).shown.length c2)])) :: (B2 ++ (DB ++ F))) from g0)
   have he0 : setMany cs (0 + i * 6 + 5) [(Value.slice a2 (b.ctrs[i]'hi2).shown.length c2)] = cs.set (i * 6 + 5) (Value.slice a2 (b.ctrs[i]'hi2).shown.length c2) := by simp only [setMany, Nat.zero_add]
   rw [he0] at g0
   obtain ⟨cs1, hcs1⟩ : ∃ cs1, cs1 = cs.set (i * 6 + 5) (Value.slice a2 (b.ctrs[i]'hi2).shown.length c2) := ⟨_, rfl⟩
   rw [← hcs1] at g0
   have hcell : (cs1.drop (0 + i * 6 + 5)).take [(Value.slice a2 (b.ctrs[i]'hi2).shown.length c2)].length = [(Value.slice a2 (b.ctrs[i]'hi2).shown.length c2)] := by rw [hcs1, Nat.zero_add]; exact drop_set_cell (by omega)
   refine zAe (zAc (gt _ _ (zAf (fun gV gv => (zAa (w_p (zAj isAgg3 g0.tail.tail.tail.drop.drop rfl rfl h2) rfl (w_p (zAi (v := _) rfl rfl) rfl (zAe (zAc (gv _ _ (zAz ?_)))))))))))
   refine zB3 [4,8,43,44,45,46,47,48,49,50,51,52,53,54,55,56,57,58,59,60,61,62,63,64,65,66,67,68,69] [43] (fun kk vs w => ∃ (k : Nat) (B2 : List (Nat × Obj)), vs = [.int .i64 k] ∧ k ≤ b.hours.length ∧ kk = b.hours.length - k ∧ Rt.Own (Value.slice a2 (b.ctrs[i]'hi2).shown.length c2) 3 1 (b.ctrs[i]'hi2).shown.length (iv (shPart b.hours.length s i k (b.ctrs[i]'hi2).shown)) B2 ∧ WOK b s (i * b.hours.length + k) ∧ St w0 w ((bb, blk 131 [.int .i64 b.holds, .slice p.ah b.hours.length p.ch, .slice (some ⟨bc, 0, none⟩) b.ctrs.length cC, .map (some mm)]) :: (mm, .map #[] 0) :: (bc, blk 43 cs1) :: (B2 ++ (DB ++ F)))) (b.hours.length) ?_ ?_
   ·
    exact ⟨0, B2, rfl, by omega, by omega, by rw [shPart_zero]; exact hown2, hwk, g0⟩
   intro k vs μ gW hI gX ge
   clear hs hown2
   obtain ⟨k, B2, rfl, hka, rfl, hown2, hwk2, hs⟩ := hI
   refine zAf (fun gY gw => (zAa (w_p (zCl rfl rfl rfl rfl) rfl (zAe (zAc (gw _ _ (zAf (fun gZ gx => (zAy rfl rfl (fun g8 => ?_) (fun g8 => ?_))))))))))
   ·
    try simp only [zS] at g8
    refine zAv (zAc (gx _ _ (zAf (fun hD gf => (zAz ?_)))))
    refine zAf (fun hO gy => (zAa (zBa rfl rfl (zBl rfl rfl (zAe (zAc (gy _ _ (zAf (fun hP gz => (zAf (fun hX gA => ?_)))))))))))
    have hk2 : k < b.hours.length := by omega
    have hm8 := mul_in8 hlh hlc hi2 hk2
    have hmi : ((i : Int) * (b.hours.length : Int)) = ((i * b.hours.length : Nat) : Int) := by push_cast; rfl
    refine zAa (zBa rfl rfl (zBa rfl rfl (w_p (zAj isAgg3 hs.tail.tail.tail.drop.drop rfl rfl h2) rfl (w_p (yd_cast (z' := ((i * b.hours.length : Nat) : Int)) hmi (y_mul rfl rfl rfl rfl (by omega) (by omega))) rfl ?_))))
    refine zBa rfl rfl (w_p (yd_cast (z' := ((i * b.hours.length + k : Nat) : Int)) (by omega) (zBj rfl rfl rfl rfl (by omega) (by omega))) rfl (w_p (y_shr (x := s) (y := i * b.hours.length + k) rfl rfl rfl rfl (by first | rfl | omega) (by first | rfl | omega) (by first | omega | exact zGa (by omega))) rfl ?_))
    refine w_p (show Yd _ _ _ _ (.int .i64 ((bit s (i * b.hours.length + k) : Nat) : Int)) from (y_and (x := _) (y := 1) rfl rfl rfl rfl rfl rfl (by first | omega | exact zGa (by omega)) (by first | omega | exact zGa (by omega)))) rfl ?_
    refine w_p (zBw rfl rfl rfl rfl) rfl (zAe (zAc (gA _ _ (zAy rfl rfl (fun g9 => ?_) (fun g9 => ?_)))))
    ·
     try simp only [zS] at g9
     refine zBq (zAo (zA8 (zAc (gf _ _ (zAa (w_p (zBj rfl rfl rfl rfl (by omega) (by omega)) rfl (zBa rfl rfl (zAe (zAc (ge _ _ (nxI (b.hours.length - (k + 1)) (by omega) ?_)))))))))))
     exact ⟨k + 1, B2, rfl, by omega, rfl, by rw [← shPart_no (by omega)]; exact hown2, wok_no hwk2 (by omega), hs⟩
    try simp only [zS] at g9
    refine zAv (zAc (gz _ _ (zAf (fun hY gB => (zAf (fun j0 gC => ?_))))))
    have hk2 : k < b.hours.length := by omega
    obtain ⟨d, cs2, rfl, rfl, hcap2, hcapm2, hcl2, htk2⟩ := own_some2 hown2 (by omega)
    replace hs := (show St _ _ (_ :: _ :: _ :: _ :: DB ++ (F)) from hs)
    refine zAa (w_p (zAi (v := .pointer _) rfl rfl) rfl (w_p (zBi rfl rfl) rfl (w_p (zAd (o := 5) (i := 5) underlying43 rfl sizeOf34 rfl rfl rfl) rfl (w_p (zAj isAgg34 hs rfl rfl (zAh (i := 2) (vs := [_]) rfl hcell)) rfl ?_))))
    refine zBa rfl rfl (w_p (zBc underlying34 sizeOf3 rfl rfl rfl rfl (i := k) rfl (by omega)) rfl (w_p (zAj isAgg3 hs rfl rfl (zAh (i := 3) (vs := [_]) rfl (take_get htk2 (by rw [zFc]) (by omega)))) rfl ?_))
    refine w_p (zBw rfl rfl rfl rfl) rfl (zAe (zAc (gC _ _ (zAy rfl rfl (fun ga => ?_) (fun ga => ?_)))))
    ·
     try simp only [zS] at ga
     refine zAf (fun j1 gD => (zAa (zBg rfl rfl (zAe (zAc (gD _ _ (zA2 (zAk (zAt (zAk (zAk (zAt (zAt (zAk (zAk (zAt (zAk (zA9 (l := [.tmp 4]) (vs := [_]) rfl ⟨⟨rfl, (rfl : _ = Value.bool _)⟩, trivial⟩ ?_))))))))))))))))))
     exact ⟨congrArg Value.bool (wrongS_no hi2 hk2 (by have := bit_lt2 s (i * b.hours.length + k); omega) (by rw [← shPart_get (n := b.hours.length) (s := s) (i := i) (by omega)]; assumption)).symm, hs.tail.tail.tail.tail.drop⟩
    try simp only [zS] at ga
    refine zAv (zAc (gB _ _ (zAa (w_p (zAi (v := .pointer _) rfl rfl) rfl (w_p (zBi rfl rfl) rfl (w_p (zAd (o := 5) (i := 5) underlying43 rfl sizeOf34 rfl rfl rfl) rfl ?_))))))
    refine w_p (zAj isAgg34 hs rfl rfl (zAh (i := 2) (vs := [_]) rfl hcell)) rfl (zBa rfl rfl (w_p (zBc underlying34 sizeOf3 rfl rfl rfl rfl (i := k) rfl (by omega)) rfl (zA4 (i := 3) (v := .int _ _) (vs := [_]) zAb sizeOf3 rfl rfl rfl rfl rfl (by simp [Value.oneCell']) hs rfl (by show 0 + k * 1 + 1 ≤ cs2.length; omega) (fun j2 gE => ?_))))
    refine zAe (zAl (zAc (gf _ _ (zAa (w_p (zBj rfl rfl rfl rfl (by omega) (by omega)) rfl (zBa rfl rfl (zAe (zAc (ge _ _ (nxI (b.hours.length - (k + 1)) (by omega) ?_))))))))))
    exact ⟨k + 1, [(d, blk 3 (setMany cs2 (0 + k * 1) [.int .i64 (-1)]))], rfl, by omega, rfl, own_mk (by rw [List.length_map, zFc]; omega) hcap2 hcapm2 (by rw [setMany_len]; exact hcl2) (by rw [← shPart_yes (by omega) (by have := bit_lt2 s (i * b.hours.length + k); omega)]; exact take_put htk2), wok_yes hi2 hk2 hwk2 (by rw [← shPart_get (n := b.hours.length) (s := s) (i := i) (by omega)]; assumption), gE⟩
   try simp only [zS] at g8
   refine zBq (zAo (zAo (zA8 (zAl (zAc (gp _ _ (zAa (w_p (zBj rfl rfl rfl rfl (by omega) (by omega)) rfl (zBa rfl rfl (zAe (zAc (gm _ _ (nxI (b.ctrs.length - (i + 1)) (by omega) ?_)))))))))))))
   have hsl2 := own_int_sl (w0 := w0) hown2 (zFc _ _ _ _ _)
   rw [shPart_all (by omega)] at hsl2
   exact ⟨i + 1, [(bc, blk 43 cs1)], B2 ++ DB, setPc qc i a2 c2, rfl, by omega, rfl, own_mk (by rw [flat_len_sz (zGk _ _), zFh, BL_len (by omega)]) hcap hcapm (by rw [hcs1, List.length_set]; exact hcl) (by
     rw [hcs1, take_cell (by omega) (zGk (BL b s i) qc) (by rw [zFh, BL_len (by omega)]; exact hi2) htk, BL_set hi2, ← krows_set (by rw [BL_len (by omega)]; exact hi2) (by simp only [BL_get hi2]; exact but_cells)]
     simp only [krows, List.getElem_mapIdx, BL_get hi2]), hqc.next _ _, hds.next hi2 hsl2.1 hsl2.2, wok_row (by omega) (by omega) hwk2, (by rw [List.append_assoc]; exact hs)⟩
  try simp only [zS] at g6
  refine zBq (zAo (zAo (zA8 (zAc (gk _ _ (zAf (fun j3 gF => ?_)))))))
  have gb := swp2 hs
  replace gb := (show St _ _ (_ :: _ :: B1 ++ (DB ++ (F))) from gb)
  have hkb : BK w0 ((bb, blk 131 [.int .i64 b.holds, .slice p.ah b.hours.length p.ch, .slice aC b.ctrs.length cC, .map (some mm)]) :: (B1 ++ (DB ++ F))) (butB b s) ⟨p.ah, p.ch, aC, cC, qc⟩ bb mm := ⟨(but_bin hm (by omega) hown hqc hds).cons, zAh (i := 0) rfl (by simp only [zDa]; rfl), butB_ok hok s⟩
  refine zAa (w_p (zAi (v := .pointer _) rfl rfl) rfl (zAs zAb call71 rfl rfl rfl rfl (c71 (X := []) (M := [(mm, .map #[] 0)]) (butB b s) _ bb mm hkb (zEz w0 _ mm) gb) ?_))
  rintro _ j4 ⟨rfl, M2, j5, gc⟩
  replace gc := (show St _ _ (M2 ++ (_ :: B1 ++ (DB ++ (F)))) from gc)
  refine w_p (zAm (v := .bool _) rfl rfl) rfl (zAe (zAc (gF _ _ (zA2 (zA9 (l := [.tmp 4]) (vs := [_]) rfl ⟨⟨rfl, (rfl : _ = Value.bool _)⟩, trivial⟩ ?_)))))
  exact ⟨congrArg Value.bool (wrongS_yes (by omega) hwk).symm, gc.drop.tail.drop.drop⟩

end Go.Proofs.Kb
set_option maxRecDepth 20000
namespace Go.Proofs.Kb
open Go.Proofs.Tryz
open Go.Rt Go.Rt.Ch
open Go.Rt.Ha (firstE zBv zBf zBo failE nameE felt spanL upto zCi listL fewest fewTo bit before fewStep zCo zDg zCb zCx zCj zC5 zCv zB2)
attribute [local irreducible] WL WC Con Yd At Ats Sl Agree DW

theorem wrongP_e {b : Board} (h : ¬ (check b).2.2 = 0) : wrongP b = ([], (check b).2.2) := by unfold wrongP; rw [if_pos h]
theorem wrongP_y {b : Board} (h : (check b).2.2 = 0) : wrongP b = ((fewest (wrongS b) (b.hours.length * b.ctrs.length)).1,0) := by unfold wrongP; rw [if_neg (by simp [h])]
theorem many_8 {b : Board} (h : b.Ok) : b.hours.length * b.ctrs.length ≤ 8 := by
  have h1 := Nat.mul_le_mul h.lh h.lc
  omega
theorem c32 {w0 w : World} {F : List (Nat × Obj)} (b : Board) (p : AtB) (hm : BIn w0 F b p)  (hs : St w0 w F) :
  Con Tryz.prog 32 [.agg (b.cells p).toArray] w fun v w' => ∃ B a' c, v = .tuple #[.slice a' (wrongP b).1.length c, .int .i64 (wrongP b).2] ∧ Sl w0 B a' 1 ((wrongP b).1.map fun x => [Value.int .i64 x]) ∧ St w0 w' (B ++ F) := by
  refine zAu (n := 27) func32 rfl rfl (zNl rfl) ?_
  have hlh0 := hm.lh
  have hlc0 := hm.lc
  refine zAf (fun K2 g7 => (zAa (zCa (v := .agg #[.int _ _, .slice _ _ _, .slice _ _ _]) (cs := [_,_,_]) zAb rfl rfl rfl hs (fun b3 w4 g6 => ?_))))
  refine zBg rfl rfl (zBg rfl rfl (zAe (zAc (g7 _ _ (zAf (fun K7 g8 => (zAf (fun K9 g9 => (zAa (w_p (zA7 (vs := [_,_,_]) isAgg41 sizeOf41 g6 rfl rfl (zAh (i := 0) (vs := [_,_,_]) rfl rfl)) rfl ?_))))))))))
  refine zAs zAb call66 rfl rfl rfl rfl (c66 b _ hm.cons g6) ?_
  rintro _ gh ⟨rfl, g0⟩
  refine w_p (zAi (v := .tuple _) rfl rfl) rfl (w_p (zAn (v := .int _ _) rfl rfl rfl) rfl (w_p (zAn (v := .int _ _) rfl rfl rfl) rfl (w_p (zAn (v := .int _ _) rfl rfl rfl) rfl (zBl rfl rfl (zBl rfl rfl (zBl rfl rfl ?_))))))
  refine zAe (zAc (g9 _ _ (zAf (fun gi ga => (zAa (zBa rfl rfl (w_p (zCt rfl rfl rfl rfl) rfl (zAe (zAc (ga _ _ (zAy rfl rfl (fun g4 => ?_) (fun g4 => ?_))))))))))))
  ·
   try simp only [zS] at g4
   refine zAf (fun gj gb => (zAa (zBa rfl rfl (zBg rfl rfl (zBl rfl rfl (zAe (zAc (gb _ _ (zA2 (zAk (zA9 (l := [.tmp 2, .tmp 3]) (vs := [_,_]) rfl ⟨⟨rfl, show _ = (.slice _ _ _ : Value) from rfl⟩, ⟨rfl, (rfl : _ = Value.int _ _)⟩, trivial⟩ ?_)))))))))))
   exact ⟨[], none, 0, by rw [wrongP_e (by assumption)]; rfl, by rw [wrongP_e (by assumption)]; exact Sl.nil _ _, g0.tail⟩
  try simp only [zS] at g4
  refine zAv (zAc (g8 _ _ (zAf (fun gk gc => ?_))))
  have hck : (check b).2.2 = 0 := by assumption
  have hok := check_ok hck
  have h8 := many_8 hok
  have hmi : ((b.hours.length : Int) * (b.ctrs.length : Int)) = ((b.hours.length * b.ctrs.length : Nat) : Int) := by push_cast; rfl
  refine zAa (w_p (zAd (o := 1) (i := 1) underlying41 rfl sizeOf38 rfl rfl rfl) rfl (w_p (zAj isAgg38 g0 rfl rfl (zAh (i := 0) (vs := [_]) rfl rfl)) rfl (w_p (zBm underlying38 rfl rfl) rfl (zBb (cs := [_]) zAb zeroValue3 rfl g0 (fun gd gl ge => ?_)))))
  refine zA4 (i := 0) (v := .int _ _) (vs := [_]) zAb sizeOf3 rfl rfl rfl rfl rfl (by simp [Value.oneCell']) ge rfl (zNl rfl) (fun gm g5 => ?_)
  refine zAe (zAc (gc _ _ (zAf (fun gn gf => (zAa (w_p (zAj isAgg3 g5 rfl rfl (zAh (i := 0) (vs := [_]) rfl rfl)) rfl (w_p (zAd (o := 2) (i := 2) underlying41 rfl sizeOf39 rfl rfl rfl) rfl ?_)))))))
  refine w_p (zAj isAgg39 g5 rfl rfl (zAh (i := 1) (vs := [_]) rfl rfl)) rfl (w_p (zBm underlying39 rfl rfl) rfl (w_p (yd_cast (z' := ((b.hours.length * b.ctrs.length : Nat) : Int)) hmi (y_mul rfl rfl rfl rfl (by omega) (by omega))) rfl ?_))
  refine w_p (zCd (fv := []) (cv := [_,_]) rfl rfl rfl rfl) rfl (zAs zAb call63 rfl rfl rfl rfl (c63 (M := []) (F := (gd, blk 3 [.int .i64 (b.hours.length : Int)]) :: (b3, blk 41 (b.cells p)) :: F) (b.hours.length * b.ctrs.length) (many_8 hok) _ (wrongS b) (fun M => M = []) (fun s M X w go hM hs => by subst hM; exact zEl call67 ((c67 b p hm.cons.cons.app hck s (by have := (shl_256 (many_8 hok)).2; omega) _ _ (Ats.app (zAh (i := 1) (vs := b.cells p) rfl rfl)) (Ats.app (zAh (i := 0) (vs := [_]) rfl rfl)) hs).mono fun v w h => ⟨h.1, [], rfl, h.2⟩)) rfl g5) ?_)
  rintro _ gp ⟨B, M2, a2, c2, rfl, hslB, rfl, gg⟩
  refine w_p (zAm (v := .slice _ _ _) rfl rfl) rfl (zBg rfl rfl (zAe (zAc (gf _ _ (zA2 (zA9 (l := [.tmp 2, .tmp 3]) (vs := [_,_]) rfl ⟨⟨rfl, show _ = (.slice _ _ _ : Value) from rfl⟩, ⟨rfl, (rfl : _ = Value.int _ _)⟩, trivial⟩ ?_))))))
  exact ⟨B, a2, c2, by rw [wrongP_y hck]; rfl, by rw [wrongP_y hck]; exact hslB, zFj (M := []) (P := [_,_]) gg⟩

end Go.Proofs.Kb
/- Plain words of the chain layer: the document's example. No conditions. -/
namespace Go.Rt.Ch
open Go.Rt.Ha
def nShip : ByteArray := ⟨#[115,104,105,112]⟩
def nShore : ByteArray := ⟨#[115,104,111,114,101]⟩
def exB (n : Int) : Board := ⟨2, [⟨0,10,13⟩, ⟨0,8,11⟩, ⟨1,10,12⟩], [⟨nShip, 1,0,90, [0,0,0], [1, -1,22]⟩, ⟨nShore, 0,2,0, [0,2,0], [13,10, n]⟩]⟩
theorem ex_went1 : wentP (exB 21) 0 = ((11,12), 0) := by decide +kernel
theorem ex_hold1 : holdP (exB 21) 0 = ((21,22), 0) := by decide +kernel
theorem ex_right1 : rightP (exB 21) 0 = (0,0) := by decide +kernel
theorem ex_right2 : rightP (exB 21) 1 = (2,0) := by decide +kernel
theorem ex_zero1 : zeroP (exB 21) 1 1 = (1,0) := by decide +kernel
theorem ex_looks1 : looksP (exB 21) 0 0 = ([0], 0) := by decide +kernel
theorem ex_looks2 : looksP (exB 21) 0 1 = ([], 0) := by decide +kernel
theorem ex_wrong1 : wrongP (exB 30) = ([5], 0) := by decide +kernel
theorem ex_went2 : wentP (exB 30) 0 = ((0,0), 8) := by decide +kernel
theorem ex_looks3 : looksP (exB 21) 0 (-1) = ([], 7) := by decide +kernel
end Go.Rt.Ch
set_option maxRecDepth 20000
namespace Go.Proofs.Kb
open Go.Proofs.Tryz
open Go.Rt Go.Rt.Ch
open Go.Rt.Ha (firstE zBv zBf zBo failE nameE felt spanL upto zCi listL fewest fewTo bit before fewStep zCo zDg zCb zCx zCj zC5 zCv zB2)
attribute [local irreducible] WL WC Con Yd At Ats Sl Agree DW
theorem Try_KYa_fb5 (x0 : Int) (x1 : Int) (w : World) : (Instr.build 23 [(0, .int .i64 x0),(1, .int .i64 x1)].toArray).run Tryz.prog w = .ok (.agg #[.int .i64 x0, .int .i64 x1]) w := by kernel_rfl
theorem Try_KYa_fb6 (x0 : Int) (x1 : Int) (w : World) : (Instr.build 48 [(1, .agg #[.int .i64 x0, .int .i64 x1])].toArray).run Tryz.prog w = .ok (.agg #[.int .i64 0, .int .i64 x0, .int .i64 x1]) w := by kernel_rfl
theorem Try_KYa_fb7 (x0 : Int) (x1 : Int) (x2 : Int) (w : World) : (Instr.build 48 [(0, .int .i64 x0),(1, .agg #[.int .i64 x1, .int .i64 x2])].toArray).run Tryz.prog w = .ok (.agg #[.int .i64 x0, .int .i64 x1, .int .i64 x2]) w := by kernel_rfl
theorem Try_KYa_fb8 (x0 : Int) (x1 : Int) (x2 : Int) (x3 : Int) (x4 : Int) (x5 : Int) (x6 : Int) (x7 : Int) (x8 : Int) (w : World) : (Instr.buildSlice 38 3 [(0, .agg #[.int .i64 x0, .int .i64 x1, .int .i64 x2]),(1, .agg #[.int .i64 x3, .int .i64 x4, .int .i64 x5]),(2, .agg #[.int .i64 x6, .int .i64 x7, .int .i64 x8])].toArray).run Tryz.prog w = .ok (.slice (some ⟨w.heap.size, 0, none⟩) 3 3) (w.alloc (Go.Rt.blk 48 [.int .i64 x0, .int .i64 x1, .int .i64 x2, .int .i64 x3, .int .i64 x4, .int .i64 x5, .int .i64 x6, .int .i64 x7, .int .i64 x8])) := by kernel_rfl
theorem zF3 (x0 : Int) (x1 : Int) (x2 : Int) (w : World) : (Instr.buildSlice 34 3 [(0, .int .i64 x0),(1, .int .i64 x1),(2, .int .i64 x2)].toArray).run Tryz.prog w = .ok (.slice (some ⟨w.heap.size, 0, none⟩) 3 3) (w.alloc (Go.Rt.blk 3 [.int .i64 x0, .int .i64 x1, .int .i64 x2])) := by kernel_rfl
theorem Try_KYa_fb10 (x0 : ByteArray) (x1 : Int) (x2 : Int) (x3 : Option Addr) (l3 c3 : Nat) (x4 : Option Addr) (l4 c4 : Nat) (w : World) : (Instr.build 43 [(0, .string x0),(1, .int .i64 x1),(3, .int .i64 x2),(4, .slice x3 l3 c3),(5, .slice x4 l4 c4)].toArray).run Tryz.prog w = .ok (.agg #[.string x0, .int .i64 x1, .int .i64 0, .int .i64 x2, .slice x3 l3 c3, .slice x4 l4 c4]) w := by kernel_rfl
theorem Try_KYa_fb11 (x0 : ByteArray) (x1 : Int) (x2 : Option Addr) (l2 c2 : Nat) (x3 : Option Addr) (l3 c3 : Nat) (w : World) : (Instr.build 43 [(0, .string x0),(2, .int .i64 x1),(4, .slice x2 l2 c2),(5, .slice x3 l3 c3)].toArray).run Tryz.prog w = .ok (.agg #[.string x0, .int .i64 0, .int .i64 x1, .int .i64 0, .slice x2 l2 c2, .slice x3 l3 c3]) w := by kernel_rfl
theorem Try_KYa_fb12 (x0 : ByteArray) (x1 : Int) (x2 : Int) (x3 : Int) (x4 : Option Addr) (l4 c4 : Nat) (x5 : Option Addr) (l5 c5 : Nat) (x6 : ByteArray) (x7 : Int) (x8 : Int) (x9 : Int) (x10 : Option Addr) (l10 c10 : Nat) (x11 : Option Addr) (l11 c11 : Nat) (w : World) : (Instr.buildSlice 39 2 [(0, .agg #[.string x0, .int .i64 x1, .int .i64 x2, .int .i64 x3, .slice x4 l4 c4, .slice x5 l5 c5]),(1, .agg #[.string x6, .int .i64 x7, .int .i64 x8, .int .i64 x9, .slice x10 l10 c10, .slice x11 l11 c11])].toArray).run Tryz.prog w = .ok (.slice (some ⟨w.heap.size, 0, none⟩) 2 2) (w.alloc (Go.Rt.blk 43 [.string x0, .int .i64 x1, .int .i64 x2, .int .i64 x3, .slice x4 l4 c4, .slice x5 l5 c5, .string x6, .int .i64 x7, .int .i64 x8, .int .i64 x9, .slice x10 l10 c10, .slice x11 l11 c11])) := by kernel_rfl
theorem Try_KYa_fb13 (x0 : Int) (x1 : Option Addr) (l1 c1 : Nat) (x2 : Option Addr) (l2 c2 : Nat) (w : World) : (Instr.build 41 [(0, .int .i64 x0),(1, .slice x1 l1 c1),(2, .slice x2 l2 c2)].toArray).run Tryz.prog w = .ok (.agg #[.int .i64 x0, .slice x1 l1 c1, .slice x2 l2 c2]) w := by kernel_rfl
theorem zEd : flatInts Tryz.prog 23 2 = true := by kernel_rfl
theorem zI6 (x0 : Int) (w : World) : (Instr.buildSlice 34 1 [(0, .int .i64 x0)].toArray).run Tryz.prog w = .ok (.slice (some ⟨w.heap.size, 0, none⟩) 1 1) (w.alloc (Go.Rt.blk 3 [.int .i64 x0])) := by kernel_rfl
theorem ats_ofL {w0 w : World} {L : List (Nat × Obj)} {i b : Nat} {t : TypeId} {cs vs : List Value} (hs : St w0 w L) (hi : L[i]? = some (b, blk t cs)) (h : (cs.drop 0).take vs.length = vs) : Ats w0 L b 0 vs := zAh hi h
theorem gen_Z {w0 w : World} {L : List (Nat × Obj)} (hs : St w0 w L) : ∃ Z, Z = L ∧ St w0 w Z := ⟨L, rfl, hs⟩
theorem zGz {k : FuncId} {args : List Value} {w : World} {x : Bool} {S : World → Prop} (h : Con Tryz.prog k args w fun v w' => v = .bool x ∧ S w') (hx : x = true) : Con Tryz.prog k args w fun v w' => v = .bool true ∧ S w' := by subst hx; exact h
theorem kz_own {w0 w : World} {B F : List (Nat × Obj)} {a : Nat × Obj} (h : St w0 w (B ++ (a :: F))) : St w0 w (B ++ F) := (h.perm (zAq B [a] F)).tail
def exP (bh bc z1 s1 z2 s2 : Nat) : AtB := ⟨some ⟨bh, 0, none⟩, 3, some ⟨bc, 0, none⟩, 2, fun i => if i = 0 then ⟨some ⟨z1,0, none⟩, 3, some ⟨s1,0, none⟩, 3⟩ else ⟨some ⟨z2,0, none⟩, 3, some ⟨s2,0, none⟩, 3⟩⟩
theorem ex_bin {w0 : World} {n : Int} {bh bc z1 s1 z2 s2 : Nat} :
    BIn w0 [(bc, blk 43 (krows (exB n).ctrs (exP bh bc z1 s1 z2 s2).pc).flatten), (s2, blk 3 (iv [13,10, n])), (z2, blk 3 (iv [0,2,0])), (s1, blk 3 (iv [1, -1,22])), (z1, blk 3 (iv [0,0,0])), (bh, blk 48 (hrows (exB n).hours).flatten)] (exB n) (exP bh bc z1 s1 z2 s2) where
  h := zBp (i := 5) rfl (by intro row h; obtain ⟨q, _, rfl⟩ := List.mem_map.1 h; rfl) rfl
  c := zBp (i := 0) rfl (zGk _ _) rfl
  z := fun i hi => by
    match i, hi with
    | 0, _ => exact zBp (i := 4) rfl (by intro row h; obtain ⟨q, _, rfl⟩ := List.mem_map.1 h; rfl) rfl
    | 1, _ => exact zBp (i := 2) rfl (by intro row h; obtain ⟨q, _, rfl⟩ := List.mem_map.1 h; rfl) rfl
    | i + 2, hi => exact absurd hi (by simp [exB])
  s := fun i hi => by
    match i, hi with
    | 0, _ => exact zBp (i := 3) rfl (by intro row h; obtain ⟨q, _, rfl⟩ := List.mem_map.1 h; rfl) rfl
    | 1, _ => exact zBp (i := 1) rfl (by intro row h; obtain ⟨q, _, rfl⟩ := List.mem_map.1 h; rfl) rfl
    | i + 2, hi => exact absurd hi (by simp [exB])
  lh := by simp [exB]
  lc := by simp [exB]
  ch := by simp [exB, exP]
  cc := by simp [exB, exP]
  lz := fun i hi => by
    match i, hi with
    | 0, _ => exact ⟨by simp [exB], by simp [exB, exP]⟩
    | 1, _ => exact ⟨by simp [exB], by simp [exB, exP]⟩
    | i + 2, hi => exact absurd hi (by simp [exB])
  ls := fun i hi => by
    match i, hi with
    | 0, _ => exact ⟨by simp [exB], by simp [exB, exP]⟩
    | 1, _ => exact ⟨by simp [exB], by simp [exB, exP]⟩
    | i + 2, hi => exact absurd hi (by simp [exB])
  nm := by intro q hq; simp only [exB, List.mem_cons, List.not_mem_nil, or_false] at hq; rcases hq with rfl | rfl <;> (dsimp only; decide)
theorem c33 {w0 w : World} {F : List (Nat × Obj)} (x y : Int) (hs : St w0 w F) :
  Con Tryz.prog 33 [.int .i64 x, .int .i64 y] w fun v w' => v = .agg #[.int .i64 x, .int .i64 y] ∧ St w0 w' F := by
  refine zAu (n := 8) func33 rfl rfl (zNl rfl) ?_
  refine zAf (fun K2 g4 => (zAa (zBb (cs := [_,_]) zAb zeroValue23 rfl hs (fun b3 w4 g5 => ?_))))
  refine zAe (zAc (g4 _ _ (zAf (fun K7 g6 => (zAa (zBa rfl rfl (zBa rfl rfl (w_p (zBy (ps := [(0, _),(1, _)]) (pv := [(0, .int _ _),(1, .int _ _)]) rfl rfl (fun w => Try_KYa_fb5 _ _ w)) rfl ?_))))))))
  refine zA4 (i := 0) (v := .agg #[.int _ _, .int _ _]) (vs := [_,_]) zAb sizeOf23 rfl rfl rfl rfl rfl (by simp [Value.oneCell']) g5 rfl (zNl rfl) (fun w8 g0 => ?_)
  refine zAe (zAc (g6 _ _ (zA2 (zA9 (l := [.cell 4 23]) (vs := [_]) rfl ⟨⟨rfl, _, rfl, zCe (vs := [_,_]) isAgg23 sizeOf23 g0 (zAh (i := 0) (vs := [_,_]) rfl rfl)⟩, trivial⟩ ?_))))
  exact ⟨rfl, g0.tail⟩

theorem c28 {w0 w : World} {F : List (Nat × Obj)} (n : Int) (hs : St w0 w F) :
  Con Tryz.prog 28 [.int .i64 n] w fun v w' => ∃ p B, v = .agg ((exB n).cells p).toArray ∧ BIn w0 B (exB n) p ∧ St w0 w' (B ++ F) := by
  refine zAu (n := 19) func28 rfl rfl (zNl rfl) ?_
  refine zAf (fun K2 g4 => (zAa (zBb (cs := [_,_,_]) zAb zeroValue41 rfl hs (fun b3 w4 g5 => ?_))))
  refine zAe (zAc (g4 _ _ (zAf (fun K7 g6 => (zAa (zAs zAb call33 rfl rfl rfl rfl (c33 _ _ g5) ?_))))))
  rintro _ w9 ⟨rfl, g7⟩
  refine w_p (zBy (ps := [(1, _)]) (pv := [(1, .agg #[.int _ _, .int _ _])]) rfl rfl (fun w => Try_KYa_fb6 _ _ w)) rfl (zAs zAb call33 rfl rfl rfl rfl (c33 _ _ g7) ?_)
  rintro _ gm ⟨rfl, g8⟩
  refine w_p (zBy (ps := [(1, _)]) (pv := [(1, .agg #[.int _ _, .int _ _])]) rfl rfl (fun w => Try_KYa_fb6 _ _ w)) rfl (zAs zAb call33 rfl rfl rfl rfl (c33 _ _ g8) ?_)
  rintro _ gn ⟨rfl, g9⟩
  refine w_p (zBy (ps := [(0, _),(1, _)]) (pv := [(0, .int _ _),(1, .agg #[.int _ _, .int _ _])]) rfl rfl (fun w => Try_KYa_fb7 _ _ _ w)) rfl (zA0 (ps := [(0, _),(1, _),(2, _)]) (pv := [(0, .agg #[.int _ _, .int _ _, .int _ _]),(1, .agg #[.int _ _, .int _ _, .int _ _]),(2, .agg #[.int _ _, .int _ _, .int _ _])]) (cs := [_,_,_,_,_,_,_,_,_]) zAb rfl rfl (fun w => Try_KYa_fb8 _ _ _ _ _ _ _ _ _ w) g9 (fun ga go gb => ?_))
  refine zA0 (ps := [(0, _),(1, _),(2, _)]) (pv := [(0, .int _ _),(1, .int _ _),(2, .int _ _)]) (cs := [_,_,_]) zAb rfl rfl (fun w => zF3 _ _ _ w) gb (fun gc gp gd => ?_)
  refine zA0 (ps := [(0, _),(1, _),(2, _)]) (pv := [(0, .int _ _),(1, .int _ _),(2, .int _ _)]) (cs := [_,_,_]) zAb rfl rfl (fun w => zF3 _ _ _ w) gd (fun ge gq gf => ?_)
  refine w_p (zBy (ps := [(0, _),(1, _),(3, _),(4, _),(5, _)]) (pv := [(0, .string _),(1, .int _ _),(3, .int _ _),(4, .slice _ _ _),(5, .slice _ _ _)]) rfl rfl (fun w => Try_KYa_fb10 _ _ _ _ _ _ _ _ _ w)) rfl ?_
  refine zA0 (ps := [(0, _),(1, _),(2, _)]) (pv := [(0, .int _ _),(1, .int _ _),(2, .int _ _)]) (cs := [_,_,_]) zAb rfl rfl (fun w => zF3 _ _ _ w) gf (fun gg gr gh => ?_)
  refine zBa rfl rfl (zA0 (ps := [(0, _),(1, _),(2, _)]) (pv := [(0, .int _ _),(1, .int _ _),(2, .int _ _)]) (cs := [_,_,_]) zAb rfl rfl (fun w => zF3 _ _ _ w) gh (fun gi gt gj => ?_))
  refine w_p (zBy (ps := [(0, _),(2, _),(4, _),(5, _)]) (pv := [(0, .string _),(2, .int _ _),(4, .slice _ _ _),(5, .slice _ _ _)]) rfl rfl (fun w => Try_KYa_fb11 _ _ _ _ _ _ _ _ w)) rfl ?_
  refine zA0 (ps := [(0, _),(1, _)]) (pv := [(0, .agg #[.string _, .int _ _, .int _ _, .int _ _, .slice _ _ _, .slice _ _ _]),(1, .agg #[.string _, .int _ _, .int _ _, .int _ _, .slice _ _ _, .slice _ _ _])]) (cs := [_,_,_,_,_,_,_,_,_,_,_,_]) zAb rfl rfl (fun w => Try_KYa_fb12 _ _ _ _ _ _ _ _ _ _ _ _ _ _ _ _ _ _ _ _ w) gj (fun gk gu gl => ?_)
  refine w_p (zBy (ps := [(0, _),(1, _),(2, _)]) (pv := [(0, .int _ _),(1, .slice _ _ _),(2, .slice _ _ _)]) rfl rfl (fun w => Try_KYa_fb13 _ _ _ _ _ _ _ w)) rfl (zA4 (i := 6) (v := .agg #[.int _ _, .slice _ _ _, .slice _ _ _]) (vs := [_,_,_]) zAb sizeOf41 rfl rfl rfl rfl rfl (by simp [Value.oneCell']) gl rfl (zNl rfl) (fun gv g0 => ?_))
  refine zAe (zAc (g6 _ _ (zA2 (zA9 (l := [.cell 2 41]) (vs := [_]) rfl ⟨⟨rfl, _, rfl, zCe (vs := [_,_,_]) isAgg41 sizeOf41 g0 (zAh (i := 6) (vs := [_,_,_]) rfl rfl)⟩, trivial⟩ ?_))))
  exact ⟨exP ga gk gc ge gg gi, [_,_,_,_,_,_], rfl, ex_bin, kz_own (B := [_,_,_,_,_,_]) g0⟩

theorem c6 {w0 w : World} {F : List (Nat × Obj)}  (hs : St w0 w F) :
  Con Tryz.prog 6 [] w fun v w' => v = .bool true ∧ St w0 w' F := by
  refine zAu (n := 150) func6 rfl rfl (zNl rfl) ?_
  refine zAf (fun K2 gr => (zAa (zBg rfl rfl (zAe (zAc (gr _ _ (zAf (fun K4 gt => (zAa (zAs zAb call28 rfl rfl rfl rfl (c28 21 hs) ?_))))))))))
  rintro _ w6 ⟨p1, L1, rfl, hq1, g7⟩
  replace g7 := (show St _ _ (L1 ++ (F)) from g7)
  refine zAs zAb call28 rfl rfl rfl rfl (c28 30 g7) ?_
  rintro _ w9 ⟨p2, L2, rfl, hq2, g8⟩
  replace g8 := (show St _ _ (L2 ++ (L1 ++ (F))) from g8)
  refine zBb (cs := [_,_,_]) zAb zeroValue41 rfl g8 (fun gu gR gv => ?_)
  refine zBb (cs := [_,_,_]) zAb zeroValue41 rfl gv (fun gw gT gx => ?_)
  refine zA4 (i := 1) (v := .agg #[.int _ _, .slice _ _ _, .slice _ _ _]) (vs := [_,_,_]) zAb sizeOf41 rfl rfl rfl rfl rfl (by simp [Value.oneCell']) gx rfl (zNl rfl) (fun gU gy => ?_)
  refine zA4 (i := 0) (v := .agg #[.int _ _, .slice _ _ _, .slice _ _ _]) (vs := [_,_,_]) zAb sizeOf41 rfl rfl rfl rfl rfl (by simp [Value.oneCell']) gy rfl (zNl rfl) (fun gV gz => ?_)
  refine zAe (zAc (gt _ _ (zAf (fun gW gA => ?_))))
  obtain ⟨Z, hZ, hsZ⟩ := gen_Z gz
  have hP1 : Ats w0 Z gu 0 ((exB 21).cells p1) := by rw [hZ]; exact zAh (i := 1) (vs := (exB 21).cells p1) rfl rfl
  have g0 : BIn w0 Z (exB 21) p1 := by rw [hZ]; exact BIn.mono hq1 (fun w h => h.tail.tail.drop.front)
  have hP2 : Ats w0 Z gw 0 ((exB 30).cells p2) := by rw [hZ]; exact zAh (i := 0) (vs := (exB 30).cells p2) rfl rfl
  have gg : BIn w0 Z (exB 30) p2 := by rw [hZ]; exact BIn.mono hq2 (fun w h => h.tail.tail.front)
  refine zAa (w_p (zA7 (vs := [_,_,_]) isAgg41 sizeOf41 hsZ rfl rfl hP1) rfl (zAs zAb call29 rfl rfl rfl rfl ((c29 (exB 21) p1 g0 0 hsZ).mono (fun v w' h => by rw [ex_went1] at h; exact h)) ?_))
  rintro _ gX ⟨rfl, gB⟩
  refine w_p (zAi (v := .tuple _) rfl rfl) rfl (w_p (zAn (v := .agg _) rfl rfl rfl) rfl (w_p (zAn (v := .int _ _) rfl rfl rfl) rfl (zBb (cs := [_,_]) zAb zeroValue23 rfl gB (fun gY gZ gC => ?_))))
  refine zA4 (i := 0) (v := .agg #[.int _ _, .int _ _]) (vs := [_,_]) zAb sizeOf23 rfl rfl rfl rfl rfl (by simp [Value.oneCell']) gC rfl (zNl rfl) (fun hD g9 => ?_)
  refine zBl rfl rfl (zAe (zAc (gA _ _ (zAf (fun hO gD => ?_)))))
  have hx3 := ats_ofL (i := 0) (vs := [_,_]) g9 rfl rfl
  refine zAa (w_p (zA7 (vs := [_,_,_]) isAgg41 sizeOf41 g9.tail rfl rfl hP1) rfl (zAs zAb call12 rfl rfl rfl rfl ((c12 (exB 21) p1 g0.cons 0 g9).mono (fun v w' h => by rw [ex_hold1] at h; exact h)) ?_))
  rintro _ hP ⟨rfl, gE⟩
  refine w_p (zAi (v := .tuple _) rfl rfl) rfl (w_p (zAn (v := .agg _) rfl rfl rfl) rfl (w_p (zAn (v := .int _ _) rfl rfl rfl) rfl (zBb (cs := [_,_]) zAb zeroValue23 rfl gE (fun hX hY gF => ?_))))
  refine zA4 (i := 0) (v := .agg #[.int _ _, .int _ _]) (vs := [_,_]) zAb sizeOf23 rfl rfl rfl rfl rfl (by simp [Value.oneCell']) gF rfl (zNl rfl) (fun j0 ga => ?_)
  refine zBl rfl rfl (zAe (zAc (gD _ _ (zAf (fun j1 gG => ?_)))))
  have hx5 := ats_ofL (i := 0) (vs := [_,_]) ga rfl rfl
  refine zAa (w_p (zA7 (vs := [_,_,_]) isAgg41 sizeOf41 ga.tail.tail rfl rfl hP1) rfl (zAs zAb call13 rfl rfl rfl rfl ((c13 (exB 21) p1 g0.cons.cons 0 ga).mono (fun v w' h => by rw [ex_right1] at h; exact h)) ?_))
  rintro _ j2 ⟨rfl, gh⟩
  refine w_p (zAi (v := .tuple _) rfl rfl) rfl (w_p (zAn (v := .int _ _) rfl rfl rfl) rfl (w_p (zAn (v := .int _ _) rfl rfl rfl) rfl (zBl rfl rfl (zBl rfl rfl (zAe (zAc (gG _ _ (zAf (fun j3 gH => (zAa (w_p (zA7 (vs := [_,_,_]) isAgg41 sizeOf41 gh.tail.tail rfl rfl hP1) rfl ?_)))))))))))
  refine zAs zAb call13 rfl rfl rfl rfl ((c13 (exB 21) p1 g0.cons.cons 1 gh).mono (fun v w' h => by rw [ex_right2] at h; exact h)) ?_
  rintro _ j4 ⟨rfl, gi⟩
  refine w_p (zAi (v := .tuple _) rfl rfl) rfl (w_p (zAn (v := .int _ _) rfl rfl rfl) rfl (w_p (zAn (v := .int _ _) rfl rfl rfl) rfl (zBl rfl rfl (zBl rfl rfl (zAe (zAc (gH _ _ (zAf (fun j5 gI => (zAa (w_p (zA7 (vs := [_,_,_]) isAgg41 sizeOf41 gi.tail.tail rfl rfl hP1) rfl ?_)))))))))))
  refine zAs zAb call30 rfl rfl rfl rfl ((c30 (exB 21) p1 g0.cons.cons 1 1 gi).mono (fun v w' h => by rw [ex_zero1] at h; exact h)) ?_
  rintro _ j6 ⟨rfl, gj⟩
  refine w_p (zAi (v := .tuple _) rfl rfl) rfl (w_p (zAn (v := .int _ _) rfl rfl rfl) rfl (w_p (zAn (v := .int _ _) rfl rfl rfl) rfl (zBl rfl rfl (zBl rfl rfl (zAe (zAc (gI _ _ (zAf (fun j7 gJ => (zAa (w_p (zA7 (vs := [_,_,_]) isAgg41 sizeOf41 gj.tail.tail rfl rfl hP1) rfl ?_)))))))))))
  refine zAs zAb call31 rfl rfl rfl rfl ((c31 (exB 21) p1 g0.cons.cons 0 0 gj).mono (fun v w' h => by rw [ex_looks1] at h; exact h)) ?_
  rintro _ j8 ⟨B1, a1, c1, rfl, hr1, g4⟩
  replace g4 := (show St _ _ (B1 ++ (_ :: _ :: Z)) from g4)
  refine w_p (zAi (v := .tuple _) rfl rfl) rfl (w_p (zAn (v := .slice _ _ _) rfl rfl rfl) rfl (w_p (zAn (v := .int _ _) rfl rfl rfl) rfl (w_p (zAm (v := .slice _ _ _) rfl rfl) rfl (zBl rfl rfl (zAe (zAc (gJ _ _ (zAf (fun j9 gK => (zAa (w_p (zA7 (vs := [_,_,_]) isAgg41 sizeOf41 g4.drop.tail.tail rfl rfl hP1) rfl ?_)))))))))))
  refine zAs zAb call31 rfl rfl rfl rfl ((c31 (exB 21) p1 g0.cons.cons.app 0 1 g4).mono (fun v w' h => by rw [ex_looks2] at h; exact h)) ?_
  rintro _ ja ⟨B2, a2, c2, rfl, hr2, g5⟩
  replace g5 := (show St _ _ (B2 ++ (B1 ++ (_ :: _ :: Z))) from g5)
  refine w_p (zAi (v := .tuple _) rfl rfl) rfl (w_p (zAn (v := .slice _ _ _) rfl rfl rfl) rfl (w_p (zAn (v := .int _ _) rfl rfl rfl) rfl (w_p (zAm (v := .slice _ _ _) rfl rfl) rfl (zBl rfl rfl (zAe (zAc (gK _ _ (zAf (fun jb gL => (zAa (w_p (zA7 (vs := [_,_,_]) isAgg41 sizeOf41 g5.drop.drop.tail.tail rfl rfl hP2) rfl ?_)))))))))))
  refine zAs zAb call32 rfl rfl rfl rfl ((c32 (exB 30) p2 gg.cons.cons.app.app g5).mono (fun v w' h => by rw [ex_wrong1] at h; exact h)) ?_
  rintro _ jc ⟨B3, a3, c3, rfl, hr3, g6⟩
  replace g6 := (show St _ _ (B3 ++ (B2 ++ (B1 ++ (_ :: _ :: Z)))) from g6)
  refine w_p (zAi (v := .tuple _) rfl rfl) rfl (w_p (zAn (v := .slice _ _ _) rfl rfl rfl) rfl (w_p (zAn (v := .int _ _) rfl rfl rfl) rfl (w_p (zAm (v := .slice _ _ _) rfl rfl) rfl (zBl rfl rfl (zAe (zAc (gL _ _ (zAf (fun jd gM => (zAa (w_p (zA7 (vs := [_,_,_]) isAgg41 sizeOf41 g6.drop.drop.drop.tail.tail rfl rfl hP2) rfl ?_)))))))))))
  refine zAs zAb call29 rfl rfl rfl rfl ((c29 (exB 30) p2 gg.cons.cons.app.app.app 0 g6).mono (fun v w' h => by rw [ex_went2] at h; exact h)) ?_
  rintro _ je ⟨rfl, gN⟩
  refine w_p (zAi (v := .tuple _) rfl rfl) rfl (w_p (zAn (v := .agg _) rfl rfl rfl) rfl (w_p (zAn (v := .int _ _) rfl rfl rfl) rfl (zBb (cs := [_,_]) zAb zeroValue23 rfl gN (fun jf jg gO => ?_))))
  refine zA4 (i := 0) (v := .agg #[.int _ _, .int _ _]) (vs := [_,_]) zAb sizeOf23 rfl rfl rfl rfl rfl (by simp [Value.oneCell']) gO rfl (zNl rfl) (fun jh gk => ?_)
  refine zBl rfl rfl (zAe (zAc (gM _ _ (zAf (fun ji gP => (zAa (w_p (zA7 (vs := [_,_,_]) isAgg41 sizeOf41 gk.tail.drop.drop.drop.tail.tail rfl rfl hP1) rfl (zAs zAb call31 rfl rfl rfl rfl ((c31 (exB 21) p1 g0.cons.cons.app.app.app.cons 0 (-1) gk).mono (fun v w' h => by rw [ex_looks3] at h; exact h)) ?_))))))))
  rintro _ jj ⟨B4, a4, c4, rfl, hr4, gb⟩
  replace gb := (show St _ _ (B4 ++ (_ :: B3 ++ (B2 ++ (B1 ++ (_ :: _ :: Z))))) from gb)
  refine w_p (zAi (v := .tuple _) rfl rfl) rfl (w_p (zAn (v := .slice _ _ _) rfl rfl rfl) rfl (w_p (zAn (v := .int _ _) rfl rfl rfl) rfl (w_p (zAm (v := .slice _ _ _) rfl rfl) rfl (zBl rfl rfl (zAe (zAc (gP _ _ (zAf (fun jk gQ => (zCs [] [(0,0),(1,0),(2,0),(3,0),(4,0),(5,0),(6,0),(7,0),(8,0),(9,0),(10,0),(11,0),(12,0),(13,0),(14,0),(15,0),(16,0),(17,0),(18,0),(19,0),(20,0),(21,0),(22,0),(23,0),(24,0),(25,0),(26,0),(27,0),(28,0),(29,0),(30,0),(31,0),(32,0),(33,0),(34,0),(35,0),(36,0),(37,0),(38,0),(39,1),(40,2),(41,0),(42,0),(43,0),(44,1),(45,2),(46,0),(47,0),(48,0),(49,0),(50,0),(51,0),(52,0),(53,0),(54,0),(55,0),(56,0),(57,0),(58,0),(59,0),(60,0),(61,0),(62,2),(63,2),(64,0),(65,0),(66,0),(67,0),(68,0),(69,0),(70,0),(71,0),(72,2),(73,2),(74,0),(75,0)] zCg (zC8 (by kernel_rfl)) gb (fun jl gl => ?_)))))))))))
  refine d_w rfl (fun _ => zA1 rfl rfl) rfl ?_
  refine d_w rfl (fun _ => zBw rfl rfl rfl rfl) rfl ?_
  refine d_w rfl (fun _ => zAi (v := .bool _) rfl rfl) rfl ?_
  refine zBx rfl (zAp rfl rfl rfl) rfl (fun _ => (zA1 rfl rfl)) ?_
  refine zBx rfl (zAp rfl rfl rfl) rfl (fun _ => (zBw rfl rfl rfl rfl)) ?_
  refine d_w rfl (fun _ => zAx (v := .bool _) rfl rfl rfl rfl) rfl ?_
  refine d_w rfl (fun _ => zAi (v := .bool _) rfl rfl) rfl ?_
  refine zBx rfl (zAp rfl rfl rfl) rfl (fun _ => (zA1 rfl rfl)) ?_
  refine zBx rfl (zAp rfl rfl rfl) rfl (fun _ => (zBw rfl rfl rfl rfl)) ?_
  refine d_w rfl (fun _ => zAx (v := .bool _) rfl rfl rfl rfl) rfl ?_
  refine d_w rfl (fun _ => zAi (v := .bool _) rfl rfl) rfl ?_
  refine zBx rfl (zAp rfl rfl rfl) rfl (fun _ => (zA1 rfl rfl)) ?_
  refine zBx rfl (zAp rfl rfl rfl) rfl (fun _ => (zBw rfl rfl rfl rfl)) ?_
  refine d_w rfl (fun _ => zAx (v := .bool _) rfl rfl rfl rfl) rfl ?_
  refine d_w rfl (fun _ => zAi (v := .bool _) rfl rfl) rfl ?_
  refine zBx rfl (zAp rfl rfl rfl) rfl (fun _ => (zA1 rfl rfl)) ?_
  refine zBx rfl (zAp rfl rfl rfl) rfl (fun _ => (zBw rfl rfl rfl rfl)) ?_
  refine d_w rfl (fun _ => zAx (v := .bool _) rfl rfl rfl rfl) rfl ?_
  refine d_w rfl (fun _ => zAi (v := .bool _) rfl rfl) rfl ?_
  refine zBx rfl (zAp rfl rfl rfl) rfl (fun _ => (zA1 rfl rfl)) ?_
  refine zBx rfl (zAp rfl rfl rfl) rfl (fun _ => (zBw rfl rfl rfl rfl)) ?_
  refine d_w rfl (fun _ => zAx (v := .bool _) rfl rfl rfl rfl) rfl ?_
  refine d_w rfl (fun _ => zAi (v := .bool _) rfl rfl) rfl ?_
  refine zBx rfl (zAp rfl rfl rfl) rfl (fun _ => (zA1 rfl rfl)) ?_
  refine zBx rfl (zAp rfl rfl rfl) rfl (fun _ => (zBw rfl rfl rfl rfl)) ?_
  refine d_w rfl (fun _ => zAx (v := .bool _) rfl rfl rfl rfl) rfl ?_
  refine d_w rfl (fun _ => zAi (v := .bool _) rfl rfl) rfl ?_
  refine zBx rfl (zAp rfl rfl rfl) rfl (fun _ => (zA1 rfl rfl)) ?_
  refine zBx rfl (zAp rfl rfl rfl) rfl (fun _ => (zBw rfl rfl rfl rfl)) ?_
  refine d_w rfl (fun _ => zAx (v := .bool _) rfl rfl rfl rfl) rfl ?_
  refine d_w rfl (fun _ => zAi (v := .bool _) rfl rfl) rfl ?_
  refine zBx rfl (zAp rfl rfl rfl) rfl (fun _ => (zA1 rfl rfl)) ?_
  refine zBx rfl (zAp rfl rfl rfl) rfl (fun _ => (zBw rfl rfl rfl rfl)) ?_
  refine d_w rfl (fun _ => zAx (v := .bool _) rfl rfl rfl rfl) rfl ?_
  refine d_w rfl (fun _ => zAi (v := .bool _) rfl rfl) rfl ?_
  refine zBx rfl (zAp rfl rfl rfl) rfl (fun _ => (zA1 rfl rfl)) ?_
  refine zBx rfl (zAp rfl rfl rfl) rfl (fun _ => (zBw rfl rfl rfl rfl)) ?_
  refine d_w rfl (fun _ => zAx (v := .bool _) rfl rfl rfl rfl) rfl ?_
  refine d_w rfl (fun _ => zAi (v := .bool _) rfl rfl) rfl ?_
  refine zBh rfl (zAp rfl rfl rfl) rfl gl (fun _ hq => (zA7 (vs := [_,_]) isAgg23 sizeOf23 hq.drop.tail.drop.drop.drop.tail rfl rfl hx3)) ?_
  refine zC9 rfl ?_
  refine zAs (zAp rfl rfl rfl) call33 rfl rfl rfl rfl (c33 _ _ gl) ?_
  rintro _ jm ⟨rfl, gc⟩
  refine zAe (qn ⟨gc, ?_⟩)
  refine zBx rfl (zAp rfl rfl rfl) rfl (fun _ => (zHj (l := [_,_]) (m := [_,_]) eqGuardType23 zEd (by first | omega | rfl | (simp only [zL] <;> omega)) (by first | omega | rfl | (simp only [zL] <;> omega)) rfl rfl rfl rfl rfl rfl)) ?_
  refine d_w rfl (fun _ => zAx (v := .bool _) rfl rfl rfl rfl) rfl ?_
  refine d_w rfl (fun _ => zAi (v := .bool _) rfl rfl) rfl ?_
  refine zDu (fun gd => ?_) (fun gd => ?_)
  ·
   try simp only [zS] at gd
   refine zBh rfl (zAp rfl rfl rfl) rfl gc (fun _ hq => (zA7 (vs := [_,_]) isAgg23 sizeOf23 hq.drop.tail.drop.drop.drop rfl rfl hx5)) ?_
   refine zC9 rfl ?_
   refine zAs (zAp rfl rfl rfl) call33 rfl rfl rfl rfl (c33 _ _ gc) ?_
   rintro _ jn ⟨rfl, gm⟩
   refine zAe (qn ⟨gm, ?_⟩)
   refine zBx rfl (zAp rfl rfl rfl) rfl (fun _ => (zHj (l := [_,_]) (m := [_,_]) eqGuardType23 zEd (by first | omega | rfl | (simp only [zL] <;> omega)) (by first | omega | rfl | (simp only [zL] <;> omega)) rfl rfl rfl rfl rfl rfl)) ?_
   refine d_w rfl (fun _ => zAx (v := .bool _) rfl rfl rfl rfl) rfl ?_
   refine d_w rfl (fun _ => zAi (v := .bool _) rfl rfl) rfl ?_
   refine zDu (fun ge => ?_) (fun ge => ?_)
   ·
    try simp only [zS] at ge
    refine zBx rfl (zAp rfl rfl rfl) rfl (fun _ => (zA1 rfl rfl)) ?_
    refine zBx rfl (zAp rfl rfl rfl) rfl (fun _ => (zBw rfl rfl rfl rfl)) ?_
    refine d_w rfl (fun _ => zAx (v := .bool _) rfl rfl rfl rfl) rfl ?_
    refine d_w rfl (fun _ => zAi (v := .bool _) rfl rfl) rfl ?_
    refine zBx rfl (zAp rfl rfl rfl) rfl (fun _ => (zA1 rfl rfl)) ?_
    refine zBx rfl (zAp rfl rfl rfl) rfl (fun _ => (zBw rfl rfl rfl rfl)) ?_
    refine d_w rfl (fun _ => zAx (v := .bool _) rfl rfl rfl rfl) rfl ?_
    refine d_w rfl (fun _ => zAi (v := .bool _) rfl rfl) rfl ?_
    refine zBx rfl (zAp rfl rfl rfl) rfl (fun _ => (zA1 rfl rfl)) ?_
    refine zBx rfl (zAp rfl rfl rfl) rfl (fun _ => (zBw rfl rfl rfl rfl)) ?_
    refine d_w rfl (fun _ => zAx (v := .bool _) rfl rfl rfl rfl) rfl ?_
    refine d_w rfl (fun _ => zAi (v := .bool _) rfl rfl) rfl ?_
    refine zBx rfl (zAp rfl rfl rfl) rfl (fun _ => (zAi (v := .slice _ _ _) rfl rfl)) ?_
    refine zC9 rfl ?_
    refine zA0 (ps := [(0, _)]) (pv := [(0, .int _ _)]) (cs := [_]) (zAp rfl rfl rfl) rfl rfl (fun w => zI6 _ w) gm (fun jo jp gn => ?_)
    refine zAe (qn ⟨gn.tail, ?_⟩)
    refine zC9 rfl ?_
    refine zAs (zAp rfl rfl rfl) call27 rfl rfl rfl rfl (zGz (c27 _ _ [0] [0] _ _ (by decide) hr1.top.app.app.cons.app.cons (zBp (i := 0) (rows := [[_]]) rfl (by simp) rfl) gn) (by decide)) ?_
    rintro _ jq ⟨rfl, go⟩
    refine zAe (qn ⟨go.tail, ?_⟩)
    refine d_w rfl (fun _ => zAx (v := .bool _) rfl rfl rfl rfl) rfl ?_
    refine d_w rfl (fun _ => zAi (v := .bool _) rfl rfl) rfl ?_
    refine zBx rfl (zAp rfl rfl rfl) rfl (fun _ => (zAi (v := .slice _ _ _) rfl rfl)) ?_
    refine zBx rfl (zAp rfl rfl rfl) rfl (fun _ => (zBm underlying34 rfl rfl)) ?_
    refine zBx rfl (zAp rfl rfl rfl) rfl (fun _ => (zBw rfl rfl rfl rfl)) ?_
    refine d_w rfl (fun _ => zAx (v := .bool _) rfl rfl rfl rfl) rfl ?_
    refine d_w rfl (fun _ => zAi (v := .bool _) rfl rfl) rfl ?_
    refine zDu (fun gf => ?_) (fun gf => ?_)
    ·
     try simp only [zS] at gf
     refine zBx rfl (zAp rfl rfl rfl) rfl (fun _ => (zAi (v := .slice _ _ _) rfl rfl)) ?_
     refine zC9 rfl ?_
     refine zA0 (ps := [(0, _)]) (pv := [(0, .int _ _)]) (cs := [_]) (zAp rfl rfl rfl) rfl rfl (fun w => zI6 _ w) go (fun jr js gp => ?_)
     refine zAe (qn ⟨gp.tail.tail, ?_⟩)
     refine zC9 rfl ?_
     refine zAs (zAp rfl rfl rfl) call27 rfl rfl rfl rfl (zGz (c27 _ _ [5] [5] _ _ (by decide) hr3.top.cons.app.cons.cons (zBp (i := 0) (rows := [[_]]) rfl (by simp) rfl) gp) (by decide)) ?_
     rintro _ jt ⟨rfl, gq⟩
     refine zAe (qn ⟨gq.tail.tail, ?_⟩)
     refine d_w rfl (fun _ => zAx (v := .bool _) rfl rfl rfl rfl) rfl ?_
     refine d_w rfl (fun _ => zAm (v := .bool _) rfl rfl) rfl ?_
     refine zB0 ?_
     refine zAc (gQ _ _ (zA2 (zA9 (l := [.tmp 0]) (vs := [_]) rfl ⟨⟨rfl, (rfl : _ = Value.bool _)⟩, trivial⟩ ?_)))
     exact ⟨rfl, (St.cast hZ gq.tail.tail.drop.tail.drop.drop.drop.tail.tail).tail.tail.drop.drop⟩
    exfalso; simp at gf
   exfalso; simp at ge
  exfalso; simp at gd

end Go.Proofs.Kb
/- Plain facts: sets of up to eight numbers, and the first of the fewest. No conditions. -/
set_option maxRecDepth 100000
namespace Go.Rt.Ch
open Go.Rt.Ha
def numL (l : List Int) : Nat := l.foldl (fun s z => s + 2 ^ z.toNat) 0
end Go.Rt.Ch
/- Plain words of the hand layer: spans, grades and others over the ways, step by step. No conditions. -/
namespace Go.Rt.Ha
end Go.Rt.Ha
/- Plain words of the hand layer: totals, picks and others over the ways, step by step. No conditions. -/
namespace Go.Rt.Ha
def pickC (l : Lot) (g m : Int) : Int := if (check l).2.2 = 0 then pickE l g m else (check l).2.2
end Go.Rt.Ha
/- Plain words of the chain layer: what the document's functions do, step by step: truths, spans, what is told. No conditions. -/
namespace Go.Rt.Ch
open Go.Rt.Ha
def kE (b : Board) (e : Int) : Int := if e ≠ 0 then e else if truths b = [] then 8 else 0
def idxC (b : Board) (n m : Int) : Int := if (check b).2.2 = 0 then idxE n m else (check b).2.2
def idx2C (b : Board) (c n a m : Int) : Int := if idxC b c n = 0 then idxC b a m else idxC b c n
def looksC (b : Board) (h n : Int) : Int := if idxC b h b.holds = 0 ∧ n < 0 then 7 else idxC b h b.holds
def likeB (hours l m : List Int) : Bool := hours.all fun z => decide (ld m z.toNat = ld l z.toNat)
def like (ws : List (List Int)) (l hours : List Int) : List (List Int) := ws.filter (likeB hours l)
def tellsR (b : Board) (ws : List (List Int)) (hours : List Int) (hold within : Int) : Bool := ws.all fun l => decide ((hullL (inH b hold) (like ws l hours)).2 - (hullL (inH b hold) (like ws l hours)).1 ≤ within)
theorem hull_snd {f : List Int → Int} : ∀ {ws : List (List Int)} {x : Int}, ws ≠ [] → (∀ l ∈ ws, f l = x) → hullL f ws = (x, x)
  | [], _, h, _ => absurd rfl h
  | a :: ws, x, _, h => by
    have ha := h a (.head _)
    have key : ∀ (r : List (List Int)), (∀ l ∈ r, f l = x) → r.foldl (fun s y => (min s.1 (f y), max s.2 (f y))) (x, x) = (x, x) := by
      intro r
      induction r with
      | nil => intro _; rfl
      | cons y r ih =>
        intro hr
        have := hr y (.head _)
        simp only [List.foldl_cons, this]
        have e : (min x x, max x x) = (x, x) := by simp
        rw [e]; exact ih fun l hl => hr l (.tail _ hl)
    simp only [hullL, ha]
    exact key ws fun l hl => h l (.tail _ hl)
end Go.Rt.Ch
/- Plain laws of the chain layer: spans hold what they span; what lies in a hold. No program in sight. No conditions. -/
namespace Go.Rt.Ch
open Go.Rt.Ha
def someB (b : Board) : Bool := decide ((check b).2.2 = 0) && !(truths b).isEmpty
theorem zFq {b : Board} (h : someB b = true) : (check b).2.2 = 0 ∧ b.Ok ∧ truths b ≠ [] := by
  unfold someB at h
  simp only [Bool.and_eq_true, decide_eq_true_eq, Bool.not_eq_true'] at h
  exact ⟨h.1, check_ok h.1, fun e => by rw [e] at h; simp at h⟩
theorem fold_spec (f : List Int → Int) : ∀ (r : List (List Int)) (s : Int × Int), (r.foldl (fun s x => (min s.1 (f x), max s.2 (f x))) s).1 ≤ s.1 ∧ s.2 ≤ (r.foldl (fun s x => (min s.1 (f x), max s.2 (f x))) s).2 ∧
    (∀ l ∈ r, (r.foldl (fun s x => (min s.1 (f x), max s.2 (f x))) s).1 ≤ f l ∧ f l ≤ (r.foldl (fun s x => (min s.1 (f x), max s.2 (f x))) s).2) ∧
    ((r.foldl (fun s x => (min s.1 (f x), max s.2 (f x))) s).1 = s.1 ∨ ∃ l ∈ r, (r.foldl (fun s x => (min s.1 (f x), max s.2 (f x))) s).1 = f l) ∧
    ((r.foldl (fun s x => (min s.1 (f x), max s.2 (f x))) s).2 = s.2 ∨ ∃ l ∈ r, (r.foldl (fun s x => (min s.1 (f x), max s.2 (f x))) s).2 = f l)
  | [], s => ⟨Int.le_refl _, Int.le_refl _, fun l h => (nomatch h), .inl rfl, .inl rfl⟩
  | x :: r, s => by
    obtain ⟨h1, h2, h3, h4, h5⟩ := fold_spec f r (min s.1 (f x), max s.2 (f x))
    simp only [List.foldl_cons]
    dsimp only at h1 h2 h4 h5
    generalize r.foldl (fun s x => (min s.1 (f x), max s.2 (f x))) (min s.1 (f x), max s.2 (f x)) = t at h1 h2 h3 h4 h5 ⊢
    refine ⟨by clear h4 h5; omega, by clear h4 h5; omega, fun l hl => ?_, ?_, ?_⟩
    · clear h4 h5
      rcases List.mem_cons.1 hl with rfl | hl
      · omega
      · exact h3 l hl
    · clear h5
      rcases h4 with h | ⟨l, hl, h⟩
      · by_cases hm : s.1 ≤ f x
        · exact .inl (by omega)
        · exact .inr ⟨x, .head _, by omega⟩
      · exact .inr ⟨l, .tail _ hl, h⟩
    · clear h4
      rcases h5 with h | ⟨l, hl, h⟩
      · by_cases hm : f x ≤ s.2
        · exact .inl (by omega)
        · exact .inr ⟨x, .head _, by omega⟩
      · exact .inr ⟨l, .tail _ hl, h⟩
theorem zHt {f : List Int → Int} {ws : List (List Int)} (h : ws ≠ []) : (∃ l ∈ ws, (hullL f ws).1 = f l) ∧ (∃ l ∈ ws, (hullL f ws).2 = f l) ∧ ∀ l ∈ ws, (hullL f ws).1 ≤ f l ∧ f l ≤ (hullL f ws).2 := by
  match ws, h with
  | a :: r, _ =>
    obtain ⟨h1, h2, h3, h4, h5⟩ := fold_spec f r (f a, f a)
    show (∃ l ∈ a :: r, (r.foldl (fun s x => (min s.1 (f x), max s.2 (f x))) (f a, f a)).1 = f l) ∧ (∃ l ∈ a :: r, (r.foldl (fun s x => (min s.1 (f x), max s.2 (f x))) (f a, f a)).2 = f l) ∧ ∀ l ∈ a :: r, (r.foldl (fun s x => (min s.1 (f x), max s.2 (f x))) (f a, f a)).1 ≤ f l ∧ f l ≤ (r.foldl (fun s x => (min s.1 (f x), max s.2 (f x))) (f a, f a)).2
    refine ⟨?_, ?_, fun l hl => ?_⟩
    · rcases h4 with h | ⟨l, hl, h⟩
      · exact ⟨a, .head _, h⟩
      · exact ⟨l, .tail _ hl, h⟩
    · rcases h5 with h | ⟨l, hl, h⟩
      · exact ⟨a, .head _, h⟩
      · exact ⟨l, .tail _ hl, h⟩
    · rcases List.mem_cons.1 hl with rfl | hl
      · exact ⟨h1, h2⟩
      · exact h3 l hl
theorem hull_le {f : List Int → Int} {ws : List (List Int)} (h : ws ≠ []) : (hullL f ws).1 ≤ (hullL f ws).2 := by
  obtain ⟨⟨l, hl, e⟩, _, h3⟩ := zHt (f := f) h
  have := h3 l hl; omega
theorem hull_btw {f : List Int → Int} {ws : List (List Int)} (h : ws ≠ []) {lo hi : Int} (hb : ∀ l ∈ ws, lo ≤ f l ∧ f l ≤ hi) : lo ≤ (hullL f ws).1 ∧ (hullL f ws).2 ≤ hi := by
  obtain ⟨⟨l, hl, e⟩, ⟨m, hm, e2⟩, _⟩ := zHt (f := f) h
  have := hb l hl; have := hb m hm; omega
def wentH (b : Board) (k : Nat) : Int × Int := hullL (fun l => ld l k) (truths b)
theorem out_no {n m : Int} (h : 0 ≤ n ∧ n < m) : idxE n m = 0 := by unfold idxE; rw [if_neg (by rw [zD9.2 ⟨h.1, by omega⟩]; simp)]
theorem went_at {b : Board} (hs : someB b = true) {k : Nat} (hk : k < b.hours.length) : wentP b (k : Int) = (wentH b k, 0) := by
  obtain ⟨h1, h2, h3⟩ := zFq hs
  unfold wentP wentH
  rw [zE3 h1 (out_no (by omega)) h3, if_neg (by simp)]; rfl
theorem hold_at {b : Board} (hs : someB b = true) {k : Nat} (hk : (k : Int) < b.holds) : holdP b (k : Int) = (hullL (inH b (k : Int)) (truths b), 0) := by
  obtain ⟨h1, h2, h3⟩ := zFq hs
  unfold holdP
  rw [zE3 h1 (out_no (by omega)) h3, if_neg (by simp)]
theorem went_in {b : Board} (hs : someB b = true) {k : Nat} (hk : k < b.hours.length) : b.hours[k].lo ≤ (wentH b k).1 ∧ (wentH b k).1 ≤ (wentH b k).2 ∧ (wentH b k).2 ≤ b.hours[k].hi ∧ 0 ≤ (wentH b k).1 ∧ (wentH b k).2 ≤ 40 := by
  obtain ⟨h1, h2, h3⟩ := zFq hs
  have hw := hull_le (f := fun l => ld l k) h3
  have hb := hull_btw (f := fun l => ld l k) h3 (lo := b.hours[k].lo) (hi := b.hours[k].hi) fun l hl => (zFo hl).2 k hk
  have ho := h2.hour _ (List.getElem_mem hk)
  have := ho.lo; have := ho.hi
  unfold wentH
  omega
def hsum (b : Board) (hold : Int) : Nat → Int × Int
  | 0 => (0,0)
  | k + 1 => if (hourOf b k).hold = hold then ((hsum b hold k).1 + (wentH b k).1, (hsum b hold k).2 + (wentH b k).2) else hsum b hold k
def hmany (b : Board) (hold : Int) : Nat → Int
  | 0 => 0
  | k + 1 => if (hourOf b k).hold = hold then hmany b hold k + 1 else hmany b hold k
theorem hsum_y {b : Board} {hold : Int} {k : Nat} (hk : k < b.hours.length) (h : b.hours[k].hold = hold) : hsum b hold (k + 1) = ((hsum b hold k).1 + (wentH b k).1, (hsum b hold k).2 + (wentH b k).2) ∧ hmany b hold (k + 1) = hmany b hold k + 1 := by
  constructor
  · rw [hsum, zDy hk, if_pos h]
  · rw [hmany, zDy hk, if_pos h]
theorem hsum_n {b : Board} {hold : Int} {k : Nat} (hk : k < b.hours.length) (h : ¬ b.hours[k].hold = hold) : hsum b hold (k + 1) = hsum b hold k ∧ hmany b hold (k + 1) = hmany b hold k := by
  constructor
  · rw [hsum, zDy hk, if_neg h]
  · rw [hmany, zDy hk, if_neg h]
theorem in_sum {b : Board} (hs : someB b = true) (hold : Int) {l : List Int} (hl : l ∈ truths b) : ∀ k, k ≤ b.hours.length → (hsum b hold k).1 ≤ inTo b l hold k ∧ inTo b l hold k ≤ (hsum b hold k).2
  | 0, _ => by simp [hsum, inTo]
  | k + 1, h => by
    have ih := in_sum hs hold hl k (by omega)
    have hw := (zHt (f := fun l => ld l k) (zFq hs).2.2).2.2 l hl
    have ei : inTo b l hold (k + 1) = inTo b l hold k + if (hourOf b k).hold = hold then ld l k else 0 := rfl
    rw [zDy (show k < b.hours.length by omega)] at ei
    unfold wentH at *
    by_cases hh : b.hours[k].hold = hold
    · obtain ⟨e1, e2⟩ := hsum_y (show k < b.hours.length by omega) hh
      rw [if_pos hh] at ei
      rw [e1, ei]; unfold wentH; dsimp only; omega
    · obtain ⟨e1, e2⟩ := hsum_n (show k < b.hours.length by omega) hh
      rw [if_neg hh] at ei
      rw [e1, ei]; omega
theorem hold_in {b : Board} (hs : someB b = true) {hold : Int} : (hsum b hold b.hours.length).1 ≤ (hullL (inH b hold) (truths b)).1 ∧ (hullL (inH b hold) (truths b)).2 ≤ (hsum b hold b.hours.length).2 ∧ (hullL (inH b hold) (truths b)).1 ≤ (hullL (inH b hold) (truths b)).2 := by
  have h1 := hull_btw (f := inH b hold) (zFq hs).2.2 fun l hl => in_sum hs hold hl _ (Nat.le_refl _)
  exact ⟨h1.1, h1.2, hull_le (zFq hs).2.2⟩
end Go.Rt.Ch
/- Plain laws of the chain layer: numbers that must be wrong. No program in sight. No conditions. -/
namespace Go.Rt.Ch
open Go.Rt.Ha
def subTo (b : Board) : Nat → Nat
  | 0 => 0
  | k + 1 => if shownAt b k = -1 then subTo b k else 2 ^ k + subTo b k
def mN (b : Board) : Nat := b.hours.length * b.ctrs.length
def nums (b : Board) : List Int := listL (subTo b (mN b)) (mN b)
def numsTo (b : Board) (k : Nat) : List Int := listL (subTo b k) k
def wP (b : Board) (x : List Int) : Bool := !(truths (butB b (numL x))).isEmpty
end Go.Rt.Ch
/- Plain law of the hand layer: a lot that is told by a way denies nothing. No conditions. -/
namespace Go.Rt.Ha
structure TrueB (l : Lot) (h : List Int) (b : Nat) (s : Int) : Prop where
  hands : (handsP (told l h) b).2 = 0 ∧ (handsP (told l h) b).1.1 ≤ at_ h b ∧ at_ h b ≤ (handsP (told l h) b).1.2
  grade : (gradeP (told l h) b).2 = 0 ∧ hasI (gradeP (told l h) b).1 (ofG l.grades 0 (at_ h b) s) = true
  may : ofG l.grades 0 (at_ h b) s = -1 → hasI (refusedP (told l h)).2.1 b = true
  sure : ofG l.grades 0 (at_ h b) s ≠ -1 → hasI (refusedP (told l h)).1 b = false
def ofSum (l : Lot) (h : List Int) (sc : Nat → Int) (g : Int) : Nat → Int
  | 0 => 0
  | k + 1 => ofSum l h sc g k + if ofG l.grades 0 (at_ h k) (sc k) = g then at_ h k else 0
def allSum (h : List Int) : Nat → Int
  | 0 => 0
  | k + 1 => allSum h k + at_ h k
def gradeSums (l : Lot) (h : List Int) (sc : Nat → Int) (k : Nat) : Nat → Int
  | 0 => 0
  | n + 1 => gradeSums l h sc k n + ofSum l h sc n k
end Go.Rt.Ha
/- Plain law of the hand layer: one more count. No conditions. -/
namespace Go.Rt.Ha
def moreL (l : Lot) (c : Count) : Lot := { l with counts := l.counts ++ [c] }
end Go.Rt.Ha
/- Plain law of the hand layer: with one more count nothing is wider. No conditions. -/
namespace Go.Rt.Ha
structure LessB (l l' : Lot) (b : Nat) : Prop where
  e1 : (handsP l b).2 = 0
  e2 : (handsP l' b).2 = 0
  e3 : (gradeP l b).2 = 0
  e4 : (gradeP l' b).2 = 0
  hands : (handsP l b).1.1 ≤ (handsP l' b).1.1 ∧ (handsP l' b).1.2 ≤ (handsP l b).1.2
  grade : ∀ z ∈ (gradeP l' b).1, z ∈ (gradeP l b).1
end Go.Rt.Ha
/- Plain law of the hand layer: the fewest counts that must be wrong. No conditions. -/
namespace Go.Rt.Ha
def butC (but : List Int) : Nat → List Count → List Count
  | _, [] => []
  | i, c :: l => if hasI but i then butC but (i + 1) l else c :: butC but (i + 1) l
def butL (l : Lot) (but : List Int) : Lot := { l with counts := butC but 0 l.counts }
structure FewF (l : Lot) (x : Nat) : Prop where
  e : (wrongP l).2 = 0
  is : ∃ b, b < 2 ^ l.counts.length ∧ (wrongP l).1 = listL b l.counts.length
  f : (refusedP (butL l (wrongP l).1)).2.2 = 0
  g : (refusedP (butL l (listL x l.counts.length))).2.2 = 8 ∨ ((refusedP (butL l (listL x l.counts.length))).2.2 = 0 ∧ before (listL x l.counts.length) (wrongP l).1 = false)
end Go.Rt.Ha
/- Plain help of the hand layer's laws: rising lists, fewer, counts left out. No conditions. -/
namespace Go.Rt.Ha
def rising (n : Int) : Int → List Int → Bool
  | _, [] => true
  | p, x :: l => !(decide (x ≤ p) || decide (n ≤ x)) && rising n x l
end Go.Rt.Ha
/- Plain laws of the chain layer: the fewest numbers that must be wrong. No program in sight. No conditions. -/
set_option maxRecDepth 100000
namespace Go.Rt.Ch
open Go.Rt.Ha
theorem out_ff {lo hi n : Int} (h : lo ≤ n ∧ n ≤ hi) : out lo hi n = false := zD9.2 h
theorem zEg {b : Board} : (check b).2.2 = 0 ↔ (1 ≤ b.holds ∧ b.holds ≤ 3) ∧ (failE (hourE b.holds) 0 4 b.hours).2 = 0 ∧ (failE (ctrE b.hours.length) 0 2 b.ctrs).2 = 0 := by
  unfold check
  cases h1 : out 1 3 b.holds with
  | true =>
    rw [if_pos rfl]
    constructor
    · intro h; cases h
    · rintro ⟨h, _⟩; rw [out_ff h] at h1; cases h1
  | false =>
    rw [if_neg (by simp)]
    have h1' := zD9.1 h1
    by_cases h2 : (failE (hourE b.holds) 0 4 b.hours).2 = 0
    · rw [if_neg (by simp [h2])]
      by_cases h3 : (failE (ctrE b.hours.length) 0 2 b.ctrs).2 = 0
      · rw [if_neg (by simp [h3])]; exact ⟨fun _ => ⟨h1', h2, h3⟩, fun _ => rfl⟩
      · rw [if_pos h3]; exact ⟨fun h => absurd h h3, fun h => absurd h.2.2 h3⟩
    · rw [if_pos h2]; exact ⟨fun h => absurd h h2, fun h => absurd h.2.1 h2⟩
theorem any_out_f {lo hi : Int} {l : List Int} (h : ∀ z ∈ l, lo ≤ z ∧ z ≤ hi) : l.any (out lo hi) = false := by
  rw [List.any_eq_false]; intro z hz; rw [out_ff (h z hz)]; simp
theorem ctrE_ok {n : Nat} {bf : List Ctr} {c : Ctr} (hn : nameE (bf.map (·.name)) c.name = 0) (ho : c.Ok n) : ctrE n bf c = 0 := by
  unfold ctrE
  rw [if_neg (by simp [hn]), out_ff ho.skip, out_ff ho.twice, out_ff ho.start]
  simp only [Bool.or_self, Bool.false_eq_true, if_false]
  rw [if_neg (by simp [ho.lz, ho.ls]), any_out_f ho.zero, any_out_f ho.shown]; rfl
theorem ctrE_name {n : Nat} {bf : List Ctr} {c : Ctr} (h : ctrE n bf c = 0) : nameE (bf.map (·.name)) c.name = 0 := by
  unfold ctrE at h
  by_cases h0 : nameE (bf.map (·.name)) c.name = 0
  · exact h0
  · rw [if_pos h0] at h; exact absurd h h0
theorem ctrs_ok {n : Nat} {l m : List Ctr} (h : (failE (ctrE n) 0 2 l).2 = 0) (hnm : m.map (·.name) = l.map (·.name)) (hok : ∀ c ∈ m, c.Ok n) : (failE (ctrE n) 0 2 m).2 = 0 := by
  obtain ⟨h1, h2⟩ := zHw.1 h
  have hl : m.length = l.length := by have := congrArg List.length hnm; simpa using this
  refine zHw.2 ⟨by omega, fun k hk => ctrE_ok ?_ (hok _ (List.getElem_mem hk))⟩
  have h3 := ctrE_name (h2 k (by omega))
  have e1 : (m.take k).map (·.name) = (l.take k).map (·.name) := by rw [List.map_take, List.map_take, hnm]
  have e2 : m[k].name = (l[k]'(by omega)).name := by
    have := congrArg (fun x => x[k]?) hnm
    simpa [hk, show k < l.length by omega] using this
  rw [e1, e2]; exact h3
structure WrongF (b : Board) (s : Nat) : Prop where
  lt : s < 2 ^ mN b
  is : wrongP b = (listL s (mN b), 0)
  yes : wrongS b s = true
  least : ∀ t, t < 2 ^ mN b → wrongS b t = true → listL t (mN b) = listL s (mN b) ∨ before (listL s (mN b)) (listL t (mN b)) = true
def otherTo (b : Board) (x i : Nat) : List Int := pickL (nums b) (listL x i)
end Go.Rt.Ch
/- Plain laws of the chain layer: hours that are told. No program in sight. No conditions. -/
namespace Go.Rt.Ch
open Go.Rt.Ha
structure LookF (b : Board) (hold within : Int) (s : Nat) : Prop where
  lt : s < 2 ^ b.hours.length
  is : looksP b hold within = (listL s b.hours.length, 0)
  yes : tellsS b hold within s = true
  least : ∀ t, t < 2 ^ b.hours.length → tellsS b hold within t = true → listL t b.hours.length = listL s b.hours.length ∨ before (listL s b.hours.length) (listL t b.hours.length) = true
def setH (t : List Int) (hs : List Hour) (z : Int) : List Hour := hs.set z.toNat ⟨(hs.getD z.toNat ⟨0,0,0⟩).hold, ld t z.toNat, ld t z.toNat⟩
def toldTo (b : Board) (t l : List Int) (i : Nat) : List Hour := (l.take i).foldl (setH t) b.hours
def toldB (b : Board) (t l : List Int) : Board := { b with hours := toldTo b t l l.length }
structure ToldF (b : Board) (t l : List Int) : Prop where
  len : (toldB b t l).hours.length = b.hours.length
  ck : (check (toldB b t l)).2.2 = 0
  is : t ∈ truths (toldB b t l)
  sub : ∀ m ∈ truths (toldB b t l), m ∈ like (truths b) t l
  inn : ∀ hold m, inH (toldB b t l) hold m = inH b hold m
end Go.Rt.Ch
/- Plain laws of the chain layer: a better counter. No program in sight. No conditions. -/
namespace Go.Rt.Ch
open Go.Rt.Ha
structure Finer (n : Nat) (c d : Ctr) : Prop where
  skip : d.skip ≤ c.skip
  twice : d.twice ≤ c.twice
  start : d.start = c.start
  zero : d.zero = c.zero
  shown : ∀ k, k < n → c.shown.getD k 0 = -1 ∨ d.shown.getD k 0 = c.shown.getD k 0
theorem fare_any {c : Ctr} {l : List Int} {q : Quest} {n : Nat} : (notF c l q n || metF c l q n) = true ↔ fareTo c l q n ≠ [] := by
  unfold notF metF
  rw [Bool.or_eq_true, List.any_eq_true, List.any_eq_true]
  constructor
  · rintro (⟨x, hx, _⟩ | ⟨x, hx, _⟩)
    · exact List.ne_nil_of_mem hx
    · exact List.ne_nil_of_mem hx
  · intro h
    obtain ⟨x, hx⟩ := List.exists_mem_of_ne_nil _ h
    cases e : x.2 with
    | false => exact .inl ⟨x, hx, by rw [e]; rfl⟩
    | true => exact .inr ⟨x, hx, e⟩
def setC (b : Board) (k : Nat) (d : Ctr) : Board := { b with ctrs := b.ctrs.set k d }
theorem setC_check {b : Board} {k : Nat} {d : Ctr} (hc : (check b).2.2 = 0) (hk : k < b.ctrs.length) (hn : d.name = b.ctrs[k].name) (hd : d.Ok b.hours.length) : (check (setC b k d)).2.2 = 0 := by
  obtain ⟨h1, h2, h3⟩ := zEg.1 hc
  refine zEg.2 ⟨h1, h2, ctrs_ok h3 ?_ fun c hm => ?_⟩
  · show (b.ctrs.set k d).map (·.name) = _
    apply List.ext_getElem
    · simp
    · intro i h1 h2
      have hi : i < b.ctrs.length := by simpa using h2
      simp only [List.getElem_map, List.getElem_set]
      split
      · rename_i e; subst e; exact hn
      · rfl
  · rcases List.mem_or_eq_of_mem_set hm with h | h
    · exact (check_ok hc).ctr c h
    · rw [h]; exact hd
def betC (c : Ctr) (e1 e2 : Int) (sh : List Int) : Ctr := ⟨c.name, max 0 (c.skip - e1 % 3), max 0 (c.twice - e2 % 3), c.start, c.zero, sh⟩
structure ShOk (n : Nat) (c : Ctr) (sh : List Int) : Prop where
  len : sh.length = c.shown.length
  inn : ∀ z ∈ sh, -1 ≤ z ∧ z ≤ 99
  old : ∀ k, k < n → c.shown.getD k 0 = -1 ∨ sh.getD k 0 = c.shown.getD k 0
end Go.Rt.Ch
/- Plain words that laws of all layers share: numbers by turns, bits. No conditions. -/
namespace Go.Rt
def turnOf (x : List Int) (n : Nat) : Int := if x.length = 0 then 0 else x.getD (n % x.length) 0
end Go.Rt
/- Plain laws of the chain layer: a counter that tells all loads. No program in sight. No conditions. -/
namespace Go.Rt.Ch
open Go.Rt.Ha
def telLoad (b : Board) (x : List Int) (k : Nat) : Int := (hourOf b k).lo + turnOf x k % ((hourOf b k).hi - (hourOf b k).lo + 1)
def telS (b : Board) (x : List Int) (s0 : Int) : Nat → Int
  | 0 => s0
  | k + 1 => (telS b x s0 k + telLoad b x k) % 100
def telLoads (b : Board) (x : List Int) (k : Nat) : List Int := (List.range k).map (telLoad b x)
def telShown (b : Board) (x : List Int) (s0 : Int) (k : Nat) : List Int := (List.range k).map fun j => telS b x s0 (j + 1)
def telC (b : Board) (x : List Int) (c : Ctr) : Ctr := ⟨c.name, 0,0, c.start, List.replicate b.hours.length 0, telShown b x c.start b.hours.length⟩
theorem tel_in {b : Board} (hok : b.Ok) {x : List Int} (hx : ∀ y ∈ x, 0 ≤ y ∧ y ≤ 255) {k : Nat} (hk : k < b.hours.length) : b.hours[k].lo ≤ telLoad b x k ∧ telLoad b x k ≤ b.hours[k].hi := by
  have ho := hok.hour _ (List.getElem_mem hk)
  have h1 := ho.le
  unfold telLoad
  rw [zDy hk]
  have := Int.emod_nonneg (turnOf x k) (show b.hours[k].hi - b.hours[k].lo + 1 ≠ 0 by omega)
  have := Int.emod_lt_of_pos (turnOf x k) (show 0 < b.hours[k].hi - b.hours[k].lo + 1 by omega)
  omega
theorem telS_in {b : Board} {x : List Int} {s0 : Int} (h0 : 0 ≤ s0 ∧ s0 ≤ 99) : ∀ k, 0 ≤ telS b x s0 k ∧ telS b x s0 k ≤ 99
  | 0 => h0
  | k + 1 => by simp only [telS]; omega
theorem telC_ok {b : Board} (hok : b.Ok) {x : List Int} {c : Ctr} (hc : c.Ok b.hours.length) : (telC b x c).Ok b.hours.length := by
  refine ⟨⟨Int.le_refl _, (show (0 : Int) ≤ 3 by decide)⟩, ⟨Int.le_refl _, (show (0 : Int) ≤ 3 by decide)⟩, hc.start, by simp [telC], by simp [telC, telShown], fun z hz => ?_, fun z hz => ?_, hc.nm⟩
  · have := List.eq_of_mem_replicate hz; omega
  · obtain ⟨j, _, rfl⟩ := List.mem_map.1 hz
    have := telS_in (b := b) (x := x) hc.start (j + 1); omega
theorem tel_step {b : Board} {x : List Int} {c : Ctr} (hc : 0 ≤ c.start ∧ c.start ≤ 99) {k : Nat} (hk : k < b.hours.length) {s load : Int} {w : Way} (hw : w ∈ stepsC (telC b x c) k s load) : w.shows = telS b x c.start (k + 1) ∧ (s + load) % 100 = telS b x c.start (k + 1) ∧ w.counts = load := by
  have hz : (telC b x c).zero.getD k 0 = 0 := by simp [telC, List.getD, List.getElem?_replicate, hk]
  have hsh : (telC b x c).shown.getD k 0 = telS b x c.start (k + 1) := by simp [telC, telShown, List.getD, hk]
  have hin := telS_in (b := b) (x := x) hc (k + 1)
  unfold stepsC at hw
  rcases List.mem_append.1 hw with h | h
  · unfold stepsZ at h
    rw [if_pos (show canZ (telC b x c) k false = true from decide_eq_true (by omega)), List.mem_flatMap] at h
    obtain ⟨e, he, h⟩ := h
    have he2 := zCi.1 he
    have e0 : e = 0 := by
      have a : (telC b x c).skip = 0 := rfl
      have d : (telC b x c).twice = 0 := rfl
      omega
    subst e0
    split at h
    · unfold wayR at h
      rw [hsh] at h
      split at h
      · rename_i h2
        rw [List.mem_singleton] at h
        subst h
        have h3 : telS b x c.start (k + 1) = shOf s false (load + 0) := by rcases h2 with h2 | h2 <;> omega
        have h4 : shOf s false (load + 0) = (s + load) % 100 := by unfold shOf; simp
        exact ⟨h3.symm, by rw [h3, h4], by simp⟩
      · cases h
    · cases h
  · unfold stepsZ at h
    rw [if_neg (by rw [show canZ (telC b x c) k true = false from decide_eq_false (by omega)]; simp)] at h
    cases h
theorem tel_fare {b : Board} {x : List Int} {c : Ctr} (hc : 0 ≤ c.start ∧ c.start ≤ 99) {l : List Int} : ∀ k, k ≤ b.hours.length → ∀ y ∈ fareTo (telC b x c) l slips k, y.1 = telS b x c.start k ∧ y.2 = false ∧ ∀ j, j < k → (telS b x c.start j + ld l j) % 100 = telS b x c.start (j + 1)
  | 0, _, y, hy => by
    simp only [fareTo, List.mem_singleton] at hy
    subst hy
    exact ⟨rfl, rfl, fun j hj => by omega⟩
  | k + 1, hk, y, hy => by
    simp only [fareTo, List.mem_flatMap, List.mem_map] at hy
    obtain ⟨v, hv, w, hw, rfl⟩ := hy
    obtain ⟨h1, h2, h3⟩ := tel_fare hc k (by omega) v hv
    obtain ⟨g1, g2, g3⟩ := tel_step hc (by omega) hw
    refine ⟨g1, ?_, fun j hj => ?_⟩
    · show (v.2 || slips k (ld l k) w) = false
      rw [h2]; simp [slips, g3]
    · by_cases e : j = k
      · subst e; rw [← h1]; exact g2
      · exact h3 j (by omega)
theorem tel_loads {b : Board} (hok : b.Ok) {x : List Int} (hx : ∀ y ∈ x, 0 ≤ y ∧ y ≤ 255) {u : Nat} (hu : u < b.ctrs.length) {l : List Int} (hl : l ∈ truths (setC b u (telC b x b.ctrs[u]))) : (∀ k, k < b.hours.length → ld l k = telLoad b x k) ∧ notF (telC b x b.ctrs[u]) l slips b.hours.length = true ∧ metF (telC b x b.ctrs[u]) l slips b.hours.length = false := by
  have hc := (hok.ctr _ (List.getElem_mem hu)).start
  obtain ⟨h1, h2⟩ := List.mem_filter.1 hl
  have hin := zFo hl
  unfold canL at h2
  rw [List.all_eq_true] at h2
  have hu2 : u < (setC b u (telC b x b.ctrs[u])).ctrs.length := by show u < (b.ctrs.set u _).length; rw [List.length_set]; exact hu
  have h3 := h2 _ (List.getElem_mem hu2)
  have e : (setC b u (telC b x b.ctrs[u])).ctrs[u] = telC b x b.ctrs[u] := List.getElem_set_self ..
  rw [e] at h3
  have h4 := fare_any.1 h3
  obtain ⟨y, hy⟩ := List.exists_mem_of_ne_nil _ h4
  have hf := tel_fare (b := b) (x := x) (c := b.ctrs[u]) hc (l := l) _ (Nat.le_refl _)
  refine ⟨fun k hk => ?_, List.any_eq_true.2 ⟨y, hy, by rw [(hf y hy).2.1]; rfl⟩, ?_⟩
  · have h5 := (hf y hy).2.2 k hk
    have h6 := hin.2 k hk
    have h7 := tel_in hok hx hk
    have ho := hok.hour _ (List.getElem_mem hk)
    have h8 := ho.w
    have g0 : (setC b u (telC b x b.ctrs[u])).hours[k]'hk = b.hours[k] := rfl
    rw [g0] at h6
    have h9 : telS b x b.ctrs[u].start (k + 1) = (telS b x b.ctrs[u].start k + telLoad b x k) % 100 := rfl
    omega
  · unfold metF
    rw [List.any_eq_false]
    intro z hz
    rw [(hf z hz).2.1]; simp
structure TelF (b z : Board) (x : List Int) (u : Nat) : Prop where
  ck : (check z).2.2 = 0
  went : someB z = true → ∀ k, k < b.hours.length → wentP z (k : Int) = ((telLoad b x k, telLoad b x k), 0)
  right : someB z = true → rightP z (u : Int) = (1,0)
  bad : someB z = false → rightP z (u : Int) = (0,8)
theorem tel_law {b : Board} (hc : (check b).2.2 = 0) {x : List Int} (hx : ∀ y ∈ x, 0 ≤ y ∧ y ≤ 255) {u : Nat} (hu : u < b.ctrs.length) : TelF b (setC b u (telC b x b.ctrs[u])) x u := by
  have hok := check_ok hc
  have hlen : (setC b u (telC b x b.ctrs[u])).ctrs.length = b.ctrs.length := List.length_set
  have hck : (check (setC b u (telC b x b.ctrs[u]))).2.2 = 0 := setC_check hc hu rfl (telC_ok hok (hok.ctr _ (List.getElem_mem hu)))
  have hi : idxE (u : Int) ((setC b u (telC b x b.ctrs[u])).ctrs.length : Int) = 0 := out_no (by rw [hlen]; omega)
  have hcu : ctrOf (setC b u (telC b x b.ctrs[u])) u = telC b x b.ctrs[u] := by
    rw [ctr_at (by rw [hlen]; exact hu)]; exact List.getElem_set_self ..
  refine ⟨hck, fun hs k hk => ?_, fun hs => ?_, fun hs => ?_⟩
  · rw [went_at hs (show k < (setC b u (telC b x b.ctrs[u])).hours.length from hk)]
    unfold wentH
    rw [hull_snd (x := telLoad b x k) (zFq hs).2.2 fun l hl => (tel_loads hok hx hu hl).1 k hk]
  · obtain ⟨_, _, hne⟩ := zFq hs
    obtain ⟨l, hl⟩ := List.exists_mem_of_ne_nil _ hne
    unfold rightP
    rw [zE3 hck hi hne, if_neg (by simp)]
    have hN : askN (setC b u (telC b x b.ctrs[u])) u slips = true := by
      unfold askN; rw [hcu]; exact List.any_eq_true.2 ⟨l, hl, (tel_loads hok hx hu hl).2.1⟩
    have hM : askM (setC b u (telC b x b.ctrs[u])) u slips = false := by
      unfold askM; rw [hcu, List.any_eq_false]
      intro m hm
      rw [show metF (telC b x b.ctrs[u]) m slips (setC b u (telC b x b.ctrs[u])).hours.length = false from (tel_loads hok hx hu hm).2.2]; simp
    rw [Int.toNat_natCast, hN, hM]; rfl
  · have ht : truths (setC b u (telC b x b.ctrs[u])) = [] := by
      unfold someB at hs
      rw [decide_eq_true hck, Bool.true_and] at hs
      cases e : truths (setC b u (telC b x b.ctrs[u])) with
      | nil => rfl
      | cons p q => rw [e] at hs; cases hs
    unfold rightP
    rw [zDx hck hi ht, if_pos (by simp)]
end Go.Rt.Ch
