/- Own texts of this claim, joined. No conditions. -/
import Derived.Test.YtjmfdiaafnnlcaaGreatHTopServeda
import Derived.Test.YtjmfdiaafnnlcaaGreatHTopServedb
set_option linter.unusedVariables false
set_option linter.unusedSimpArgs false
set_option maxRecDepth 20000
namespace Go.Proofs.Hn
open Go.Proofs.Tryz
open Go.Rt Go.Rt.Ha
attribute [local irreducible] WL WC Con Yd At Ats Sl Agree DW
theorem Try_HD_fb0 (x0 : Int) (x1 : Int) (w : World) : (Instr.buildSlice 43 2 [(0, .int .i64 x0),(1, .int .i64 x1)].toArray).run Tryz.prog w = .ok (.slice (some ⟨w.heap.size, 0, none⟩) 2 2) (w.alloc (Go.Rt.blk 3 [.int .i64 x0, .int .i64 x1])) := by kernel_rfl
theorem zHi (x0 : Int) (w : World) : (Instr.buildSlice 43 1 [(0, .int .i64 x0)].toArray).run Tryz.prog w = .ok (.slice (some ⟨w.heap.size, 0, none⟩) 1 1) (w.alloc (Go.Rt.blk 3 [.int .i64 x0])) := by kernel_rfl
theorem c89 {w0 w : World} {F : List (Nat × Obj)} (a : Option Addr) (c : Nat) (l : List Grade) (hl : l.length ≤ 9223372036854775807) (ha : Sl w0 F a 3 (grows l)) (fv : Value) (err : List Grade → Grade → Int)
    (hp : ∀ (i : Nat) (hi : i < l.length) (X : List (Nat × Obj)) (w : World), St w0 w (X ++ F) → FCon Tryz.prog fv [.int .i64 i, .agg l[i].cells.toArray] w fun v w' => v = .int .i64 (err (l.take i) l[i]) ∧ St w0 w' (X ++ F)) (hs : St w0 w F) :
  Con Tryz.prog 89 [.slice a l.length c, fv] w fun v w' => v = .tuple #[.int .i64 (firstE err [] 0 l).1, .int .i64 (firstE err [] 0 l).2] ∧ St w0 w' F := by
  refine zAt (n := 25) func89 rfl rfl (zNl rfl) ?_
  refine zAe (fun K2 g6 => (zAa (zA5 rfl rfl (zA5 rfl rfl (zAd (zAb (g6 _ _ (zAe (fun K4 g7 => (zAe (fun K6 g8 => (zAa (w_p (zAi (v := .slice _ _ _) rfl rfl) rfl ?_)))))))))))))
  refine w_p (zA8 underlying22 rfl rfl) rfl (w_p (zAi (v := _) rfl rfl) rfl (zAd (zAb (g8 _ _ (zAw ?_)))))
  refine zBs [4,5,6,7,8,11,12,13,14,15,16,17,18,19,20,21,22,23,24] [11] (fun k vs w => ∃ (i : Nat), vs = [.int .i64 i] ∧ i ≤ l.length ∧ k = l.length - i ∧ firstE err [] 0 l = firstE err (l.take i) i (l.drop i) ∧ St w0 w F) (l.length) ?_ ?_
  ·
   exact ⟨0, rfl, by omega, by omega, by simp, hs⟩
  intro k vs μ w9 hI K8 g9
  obtain ⟨i, rfl, hia, rfl, hinv, hs⟩ := hI
  refine zAe (fun gk ga => (zAa (w_p (zBw rfl rfl rfl rfl) rfl (zAd (zAb (ga _ _ (zAe (fun gm gb => (zAu rfl rfl (fun g0 => ?_) (fun g0 => ?_))))))))))
  ·
   try simp only [zS] at g0
   refine zAs (zAb (gb _ _ (zAe (fun gn gc => (zAw ?_)))))
   refine zAe (fun gq gd => ?_)
   have hi2 : i < l.length := by omega
   obtain ⟨bx, ox, rfl, hx⟩ := zEk ha hi2
   refine zAa (zAz rfl rfl (w_p (zA3 underlying22 sizeOf61 rfl rfl rfl rfl (i := _) rfl (by omega)) rfl (w_p (zA4 (vs := [_,_,_]) isAgg61 sizeOf61 hs rfl rfl hx) rfl (zBf (cs := [_,_,_]) zAc zeroValue61 rfl hs (fun gr gt gf => ?_)))))
   refine zBe rfl rfl (zA6 (i := 0) (v := .agg #[.string _, .int _ _, .int _ _]) (vs := [_,_,_]) zAc sizeOf61 rfl rfl rfl rfl rfl (by simp [Value.oneCell']) gf rfl (zNl rfl) (fun gu g5 => ?_))
   refine zAd (zAb (gd _ _ (zAe (fun gv gg => (zAa (w_p (zAi (v := fv) rfl rfl) rfl (zAz rfl rfl (w_p (zA4 (vs := [_,_,_]) isAgg61 sizeOf61 g5 rfl rfl (zAk (i := 0) (vs := [_,_,_]) rfl rfl)) rfl ?_))))))))
   refine zD9 zAc rfl rfl rfl rfl (hp i hi2 [_] _ g5) ?_
   rintro _ gw ⟨rfl, g3⟩
   refine zBe rfl rfl (zAd (zAb (gg _ _ (zAe (fun gx gh => (zAa (zAz rfl rfl (w_p (zB2 rfl rfl rfl rfl) rfl (zAd (zAb (gh _ _ (zAu rfl rfl (fun g4 => ?_) (fun g4 => ?_)))))))))))))
   ·
    try simp only [zS] at g4
    refine zAe (fun gy gi => (zAa (zAz rfl rfl (zAz rfl rfl (zBe rfl rfl (zBe rfl rfl (zAd (zAb (gi _ _ (zAy (zAv (zAg (zAg (zAv (zAg (zA1 (l := [.tmp 4, .tmp 5]) (vs := [_,_]) rfl ⟨⟨rfl, (rfl : _ = Value.int _ _)⟩, ⟨rfl, (rfl : _ = Value.int _ _)⟩, trivial⟩ ?_))))))))))))))))
    first
      | (rw [hinv, zAn hi2 (by assumption)]
         exact ⟨rfl, g3.tail⟩)
      | (rw [hinv, zBh (by omega)]
         exact ⟨rfl, g3⟩)
   try simp only [zS] at g4
   refine zAs (zAl (zAb (gc _ _ (zAa (w_p (zBg rfl rfl rfl rfl (by omega) (by omega)) rfl (zAz rfl rfl (zAd (zAb (g9 _ _ (nxI (l.length - (i + 1)) (by omega) ?_))))))))))
   exact ⟨i + 1, rfl, by omega, rfl, hinv.trans (zCe hi2 (by assumption)), g3.tail⟩
  try simp only [zS] at g0
  refine zBl (zAm (zAm (zA0 (zAb (g7 _ _ (zAe (fun gz gj => (zAa (zA5 rfl rfl (zA5 rfl rfl (zAd (zAb (gj _ _ (zAy (zA1 (l := [.tmp 4, .tmp 5]) (vs := [_,_]) rfl ⟨⟨rfl, (rfl : _ = Value.int _ _)⟩, ⟨rfl, (rfl : _ = Value.int _ _)⟩, trivial⟩ ?_)))))))))))))))
  first
    | (rw [hinv, zAn hi2 (by assumption)]
       exact ⟨rfl, hs.tail⟩)
    | (rw [hinv, zBh (by omega)]
       exact ⟨rfl, hs⟩)

theorem c92 {w0 w : World} {F : List (Nat × Obj)} (a : Option Addr) (c : Nat) (l : List Bunch) (hl : l.length ≤ 9223372036854775807) (ha : Sl w0 F a 4 (brows l)) (fv : Value) (err : List Bunch → Bunch → Int)
    (hp : ∀ (i : Nat) (hi : i < l.length) (X : List (Nat × Obj)) (w : World), St w0 w (X ++ F) → FCon Tryz.prog fv [.int .i64 i, .agg l[i].cells.toArray] w fun v w' => v = .int .i64 (err (l.take i) l[i]) ∧ St w0 w' (X ++ F)) (hs : St w0 w F) :
  Con Tryz.prog 92 [.slice a l.length c, fv] w fun v w' => v = .tuple #[.int .i64 (firstE err [] 0 l).1, .int .i64 (firstE err [] 0 l).2] ∧ St w0 w' F := by
  refine zAt (n := 25) func92 rfl rfl (zNl rfl) ?_
  refine zAe (fun K2 g6 => (zAa (zA5 rfl rfl (zA5 rfl rfl (zAd (zAb (g6 _ _ (zAe (fun K4 g7 => (zAe (fun K6 g8 => (zAa (w_p (zAi (v := .slice _ _ _) rfl rfl) rfl ?_)))))))))))))
  refine w_p (zA8 underlying23 rfl rfl) rfl (w_p (zAi (v := _) rfl rfl) rfl (zAd (zAb (g8 _ _ (zAw ?_)))))
  refine zBs [4,5,6,7,8,11,12,13,14,15,16,17,18,19,20,21,22,23,24] [11] (fun k vs w => ∃ (i : Nat), vs = [.int .i64 i] ∧ i ≤ l.length ∧ k = l.length - i ∧ firstE err [] 0 l = firstE err (l.take i) i (l.drop i) ∧ St w0 w F) (l.length) ?_ ?_
  ·
   exact ⟨0, rfl, by omega, by omega, by simp, hs⟩
  intro k vs μ w9 hI K8 g9
  obtain ⟨i, rfl, hia, rfl, hinv, hs⟩ := hI
  refine zAe (fun gk ga => (zAa (w_p (zBw rfl rfl rfl rfl) rfl (zAd (zAb (ga _ _ (zAe (fun gm gb => (zAu rfl rfl (fun g0 => ?_) (fun g0 => ?_))))))))))
  ·
   try simp only [zS] at g0
   refine zAs (zAb (gb _ _ (zAe (fun gn gc => (zAw ?_)))))
   refine zAe (fun gq gd => ?_)
   have hi2 : i < l.length := by omega
   obtain ⟨bx, ox, rfl, hx⟩ := zG7 ha hi2
   refine zAa (zAz rfl rfl (w_p (zA3 underlying23 sizeOf65 rfl rfl rfl rfl (i := _) rfl (by omega)) rfl (w_p (zA4 (vs := [_,_,_,_]) isAgg65 sizeOf65 hs rfl rfl hx) rfl (zBf (cs := [_,_,_,_]) zAc zeroValue65 rfl hs (fun gr gt gf => ?_)))))
   refine zBe rfl rfl (zA6 (i := 0) (v := .agg #[.int _ _, .int _ _, .int _ _, .int _ _]) (vs := [_,_,_,_]) zAc sizeOf65 rfl rfl rfl rfl rfl (by simp [Value.oneCell']) gf rfl (zNl rfl) (fun gu g5 => ?_))
   refine zAd (zAb (gd _ _ (zAe (fun gv gg => (zAa (w_p (zAi (v := fv) rfl rfl) rfl (zAz rfl rfl (w_p (zA4 (vs := [_,_,_,_]) isAgg65 sizeOf65 g5 rfl rfl (zAk (i := 0) (vs := [_,_,_,_]) rfl rfl)) rfl ?_))))))))
   refine zD9 zAc rfl rfl rfl rfl (hp i hi2 [_] _ g5) ?_
   rintro _ gw ⟨rfl, g3⟩
   refine zBe rfl rfl (zAd (zAb (gg _ _ (zAe (fun gx gh => (zAa (zAz rfl rfl (w_p (zB2 rfl rfl rfl rfl) rfl (zAd (zAb (gh _ _ (zAu rfl rfl (fun g4 => ?_) (fun g4 => ?_)))))))))))))
   ·
    try simp only [zS] at g4
    refine zAe (fun gy gi => (zAa (zAz rfl rfl (zAz rfl rfl (zBe rfl rfl (zBe rfl rfl (zAd (zAb (gi _ _ (zAy (zAv (zAg (zAg (zAv (zAg (zA1 (l := [.tmp 4, .tmp 5]) (vs := [_,_]) rfl ⟨⟨rfl, (rfl : _ = Value.int _ _)⟩, ⟨rfl, (rfl : _ = Value.int _ _)⟩, trivial⟩ ?_))))))))))))))))
    first
      | (rw [hinv, zAn hi2 (by assumption)]
         exact ⟨rfl, g3.tail⟩)
      | (rw [hinv, zBh (by omega)]
         exact ⟨rfl, g3⟩)
   try simp only [zS] at g4
   refine zAs (zAl (zAb (gc _ _ (zAa (w_p (zBg rfl rfl rfl rfl (by omega) (by omega)) rfl (zAz rfl rfl (zAd (zAb (g9 _ _ (nxI (l.length - (i + 1)) (by omega) ?_))))))))))
   exact ⟨i + 1, rfl, by omega, rfl, hinv.trans (zCe hi2 (by assumption)), g3.tail⟩
  try simp only [zS] at g0
  refine zBl (zAm (zAm (zA0 (zAb (g7 _ _ (zAe (fun gz gj => (zAa (zA5 rfl rfl (zA5 rfl rfl (zAd (zAb (gj _ _ (zAy (zA1 (l := [.tmp 4, .tmp 5]) (vs := [_,_]) rfl ⟨⟨rfl, (rfl : _ = Value.int _ _)⟩, ⟨rfl, (rfl : _ = Value.int _ _)⟩, trivial⟩ ?_)))))))))))))))
  first
    | (rw [hinv, zAn hi2 (by assumption)]
       exact ⟨rfl, hs.tail⟩)
    | (rw [hinv, zBh (by omega)]
       exact ⟨rfl, hs⟩)

theorem c94 {w0 w : World} {F : List (Nat × Obj)} (a : Option Addr) (c : Nat) (l : List Count) (hl : l.length ≤ 9223372036854775807) (ha : Sl w0 F a 2 (crows l)) (fv : Value) (err : List Count → Count → Int)
    (hp : ∀ (i : Nat) (hi : i < l.length) (X : List (Nat × Obj)) (w : World), St w0 w (X ++ F) → FCon Tryz.prog fv [.int .i64 i, .agg l[i].cells.toArray] w fun v w' => v = .int .i64 (err (l.take i) l[i]) ∧ St w0 w' (X ++ F)) (hs : St w0 w F) :
  Con Tryz.prog 94 [.slice a l.length c, fv] w fun v w' => v = .tuple #[.int .i64 (firstE err [] 0 l).1, .int .i64 (firstE err [] 0 l).2] ∧ St w0 w' F := by
  refine zAt (n := 25) func94 rfl rfl (zNl rfl) ?_
  refine zAe (fun K2 g6 => (zAa (zA5 rfl rfl (zA5 rfl rfl (zAd (zAb (g6 _ _ (zAe (fun K4 g7 => (zAe (fun K6 g8 => (zAa (w_p (zAi (v := .slice _ _ _) rfl rfl) rfl ?_)))))))))))))
  refine w_p (zA8 underlying24 rfl rfl) rfl (w_p (zAi (v := _) rfl rfl) rfl (zAd (zAb (g8 _ _ (zAw ?_)))))
  refine zBs [4,5,6,7,8,11,12,13,14,15,16,17,18,19,20,21,22,23,24] [11] (fun k vs w => ∃ (i : Nat), vs = [.int .i64 i] ∧ i ≤ l.length ∧ k = l.length - i ∧ firstE err [] 0 l = firstE err (l.take i) i (l.drop i) ∧ St w0 w F) (l.length) ?_ ?_
  ·
   exact ⟨0, rfl, by omega, by omega, by simp, hs⟩
  intro k vs μ w9 hI K8 g9
  obtain ⟨i, rfl, hia, rfl, hinv, hs⟩ := hI
  refine zAe (fun gk ga => (zAa (w_p (zBw rfl rfl rfl rfl) rfl (zAd (zAb (ga _ _ (zAe (fun gm gb => (zAu rfl rfl (fun g0 => ?_) (fun g0 => ?_))))))))))
  ·
   try simp only [zS] at g0
   refine zAs (zAb (gb _ _ (zAe (fun gn gc => (zAw ?_)))))
   refine zAe (fun gq gd => ?_)
   have hi2 : i < l.length := by omega
   obtain ⟨bx, ox, rfl, hx⟩ := zKh ha hi2
   refine zAa (zAz rfl rfl (w_p (zA3 underlying24 sizeOf67 rfl rfl rfl rfl (i := _) rfl (by omega)) rfl (w_p (zA4 (vs := [_,_]) isAgg67 sizeOf67 hs rfl rfl hx) rfl (zBf (cs := [_,_]) zAc zeroValue67 rfl hs (fun gr gt gf => ?_)))))
   refine zBe rfl rfl (zA6 (i := 0) (v := .agg #[.int _ _, .int _ _]) (vs := [_,_]) zAc sizeOf67 rfl rfl rfl rfl rfl (by simp [Value.oneCell']) gf rfl (zNl rfl) (fun gu g5 => ?_))
   refine zAd (zAb (gd _ _ (zAe (fun gv gg => (zAa (w_p (zAi (v := fv) rfl rfl) rfl (zAz rfl rfl (w_p (zA4 (vs := [_,_]) isAgg67 sizeOf67 g5 rfl rfl (zAk (i := 0) (vs := [_,_]) rfl rfl)) rfl ?_))))))))
   refine zD9 zAc rfl rfl rfl rfl (hp i hi2 [_] _ g5) ?_
   rintro _ gw ⟨rfl, g3⟩
   refine zBe rfl rfl (zAd (zAb (gg _ _ (zAe (fun gx gh => (zAa (zAz rfl rfl (w_p (zB2 rfl rfl rfl rfl) rfl (zAd (zAb (gh _ _ (zAu rfl rfl (fun g4 => ?_) (fun g4 => ?_)))))))))))))
   ·
    try simp only [zS] at g4
    refine zAe (fun gy gi => (zAa (zAz rfl rfl (zAz rfl rfl (zBe rfl rfl (zBe rfl rfl (zAd (zAb (gi _ _ (zAy (zAv (zAg (zAg (zAv (zAg (zA1 (l := [.tmp 4, .tmp 5]) (vs := [_,_]) rfl ⟨⟨rfl, (rfl : _ = Value.int _ _)⟩, ⟨rfl, (rfl : _ = Value.int _ _)⟩, trivial⟩ ?_))))))))))))))))
    first
      | (rw [hinv, zAn hi2 (by assumption)]
         exact ⟨rfl, g3.tail⟩)
      | (rw [hinv, zBh (by omega)]
         exact ⟨rfl, g3⟩)
   try simp only [zS] at g4
   refine zAs (zAl (zAb (gc _ _ (zAa (w_p (zBg rfl rfl rfl rfl (by omega) (by omega)) rfl (zAz rfl rfl (zAd (zAb (g9 _ _ (nxI (l.length - (i + 1)) (by omega) ?_))))))))))
   exact ⟨i + 1, rfl, by omega, rfl, hinv.trans (zCe hi2 (by assumption)), g3.tail⟩
  try simp only [zS] at g0
  refine zBl (zAm (zAm (zA0 (zAb (g7 _ _ (zAe (fun gz gj => (zAa (zA5 rfl rfl (zA5 rfl rfl (zAd (zAb (gj _ _ (zAy (zA1 (l := [.tmp 4, .tmp 5]) (vs := [_,_]) rfl ⟨⟨rfl, (rfl : _ = Value.int _ _)⟩, ⟨rfl, (rfl : _ = Value.int _ _)⟩, trivial⟩ ?_)))))))))))))))
  first
    | (rw [hinv, zAn hi2 (by assumption)]
       exact ⟨rfl, hs.tail⟩)
    | (rw [hinv, zBh (by omega)]
       exact ⟨rfl, hs⟩)

structure LIn (w0 : World) (F : List (Nat × Obj)) (l : Lot) (p : At3) : Prop where
  g : Sl w0 F p.ag 3 (grows l.grades)
  b : Sl w0 F p.ab 4 (brows l.bunches)
  c : Sl w0 F p.ac 2 (crows l.counts)
  lg : l.grades.length ≤ 9223372036854775807
  lb : l.bunches.length ≤ 9223372036854775807
  lc : l.counts.length ≤ 9223372036854775807
  cg : l.grades.length ≤ p.cg
  cb : l.bunches.length ≤ p.cb
  cc : l.counts.length ≤ p.cc
  ng : ∀ x ∈ l.grades, x.name.size ≤ 9223372036854775807
theorem LIn.mono {w0 : World} {F F' : List (Nat × Obj)} {l : Lot} {p : At3} (h : LIn w0 F l p) (hs : ∀ w, St w0 w F' → St w0 w F) : LIn w0 F' l p := ⟨h.g.mono hs, h.b.mono hs, h.c.mono hs, h.lg, h.lb, h.lc, h.cg, h.cb, h.cc, h.ng⟩
theorem LIn.cons {w0 : World} {F : List (Nat × Obj)} {x : Nat × Obj} {l : Lot} {p : At3} (h : LIn w0 F l p) : LIn w0 (x :: F) l p := h.mono fun _ h => h.tail
theorem LIn.app {w0 : World} {F B : List (Nat × Obj)} {l : Lot} {p : At3} (h : LIn w0 F l p) : LIn w0 (B ++ F) l p := h.mono fun _ h => h.drop
theorem tup3 {x : Int × Int × Int} {a b c : Int} (h : x = (a, b, c)) : Value.tuple #[.int .i64 a, .int .i64 b, .int .i64 c] = .tuple #[.int .i64 x.1, .int .i64 x.2.1, .int .i64 x.2.2] := by subst h; rfl
theorem zCo (k : Int) (n : Nat) : out 0 k (n : Int) = decide (k < (n : Int)) := by unfold out; rw [Bool.eq_iff_iff]; simp; intro h; omega
theorem zGt {P : Program} {a : Act} {o : Oper} {w : World} {k : IntKind} {z z' : Int} (h : z = z') (hy : Yd P a o w (.int k z)) : Yd P a o w (.int k z') := h ▸ hy
theorem pow_le (n : Nat) (h : n ≤ 6) : 1 <<< n = 2 ^ n ∧ 1 ≤ 1 <<< n ∧ 1 <<< n ≤ 64 := by
  match n, h with
  | 0, _ => decide
  | 1, _ => decide
  | 2, _ => decide
  | 3, _ => decide
  | 4, _ => decide
  | 5, _ => decide
  | 6, _ => decide
theorem pow_all {n : Nat} (h : n ≤ 6) : ((1 <<< n : Nat) : Int) - 1 = 2 ^ n - 1 := by rw [(pow_le n h).1]; simp
theorem c90 {w0 w : World} {F : List (Nat × Obj)} (l : Lot) (p : At3) (hm : LIn w0 F l p) (i : Nat) (hi : i < l.grades.length) (bm : Nat) (hb : Ats w0 F bm 0 (l.cells p)) (hs : St w0 w F) :
  Con Tryz.prog 90 [.int .i64 i, .agg l.grades[i].cells.toArray, .pointer (some ⟨bm, 0, none⟩)] w fun v w' => v = .int .i64 (gradeE (l.grades.take i) l.grades[i]) ∧ St w0 w' F := by
  refine zAt (n := 23) func90 rfl rfl (zNl rfl) ?_
  refine zAe (fun K2 g6 => (zAa (zCa (v := .agg #[.string _, .int _ _, .int _ _]) (cs := [_,_,_]) zAc rfl rfl rfl hs (fun b3 w4 g7 => ?_))))
  refine zA5 rfl rfl (zAd (zAb (g6 _ _ (zAe (fun K7 g8 => (zAe (fun K9 g9 => (zAa (zAr zAc call91 rfl rfl rfl rfl (c91 g7) ?_)))))))))
  rintro _ gm ⟨bq, rfl, ga⟩
  refine w_p (zA8 underlying153 rfl rfl) rfl (w_p (zAi (v := _) rfl rfl) rfl (zAd (zAb (g9 _ _ (zAw ?_)))))
  refine zBs [5,7,10,11,12,13,14,15,16,17,18,19,20,21,22] [10] (fun k vs w => ∃ j : Nat, vs = [.int .i64 j] ∧ j ≤ 4 ∧ k = 4 - j ∧ (∀ q < j, flawIs (l.grades.take i) l.grades[i] q = false) ∧ St w0 w ((bq, blk 157 flawCells) :: (b3, blk 61 l.grades[i].cells) :: F)) (4) ?_ ?_
  ·
   exact ⟨0, rfl, by omega, by omega, (fun q hq => by omega), ga⟩
  intro k vs μ gn hI gq gb
  obtain ⟨j, rfl, hja, rfl, hfl, hs⟩ := hI
  refine zAe (fun gr gc => (zAa (w_p (zBw rfl rfl rfl rfl) rfl (zAd (zAb (gc _ _ (zAe (fun gt gd => (zAu rfl rfl (fun g3 => ?_) (fun g3 => ?_))))))))))
  ·
   try simp only [zS] at g3
   refine zAs (zAb (gd _ _ (zAe (fun gu gf => (zAw ?_)))))
   refine zAe (fun gv gg => ?_)
   have hj2 : j < 4 := by omega
   have hxq := flaw_at (w0 := w0) (L := (bq, blk 157 flawCells) :: (b3, blk 61 l.grades[i].cells) :: F) (i := 0) rfl hj2
   refine zAa (w_p (zA3 underlying153 sizeOf157 rfl rfl rfl rfl (i := _) rfl (by omega)) rfl (w_p (zA4 (vs := [_,_]) isAgg157 sizeOf157 hs rfl rfl hxq) rfl (zBf (cs := [_,_]) zAc zeroValue157 rfl hs (fun gw gx gh => ?_))))
   refine zA6 (i := 0) (v := .agg #[.int _ _, .func _ _ _]) (vs := [_,_]) zAc sizeOf157 rfl rfl rfl rfl rfl (by simp [Value.oneCell']) gh rfl (zNl rfl) (fun gy g4 => ?_)
   refine zAd (zAb (gg _ _ (zAe (fun gz gi => (zAa (w_p (zAf (o := 1) (i := 1) underlying157 rfl sizeOf155 rfl rfl rfl) rfl (w_p (zAj isAgg155 g4 rfl rfl (zAk (i := 0) (vs := [_]) rfl rfl)) rfl ?_)))))))
   refine w_p (zAf (o := 0) (i := 0) underlying26 rfl sizeOf22 rfl rfl rfl) rfl (w_p (zAj isAgg22 g4.tail.tail.tail rfl rfl (show Ats _ _ _ _ [_] from Ats.part hb 0 1)) rfl (zAz rfl rfl (zD9 zAc rfl rfl rfl rfl (flaw_con _ _ l.grades hm.lg hm.cg hm.g.cons.cons.cons i hi (hm.ng _ (List.getElem_mem hi)) j hj2 g4) ?_)))
   rintro _ gA ⟨rfl, g0⟩
   refine zAd (zAb (gi _ _ (zAu rfl rfl (fun g5 => ?_) (fun g5 => ?_))))
   ·
    try simp only [zS] at g5
    refine zAe (fun gB gj => (zAa (w_p (zAf (o := 0) (i := 0) underlying157 rfl sizeOf36 rfl rfl rfl) rfl (w_p (zAj isAgg36 g0 rfl rfl (zAk (i := 0) (vs := [_]) rfl rfl)) rfl (zBe rfl rfl (zAd (zAb (gj _ _ (zAy (zAv (zAg (zAg (zAv (zAg (zA1 (l := [.tmp 5]) (vs := [_]) rfl ⟨⟨rfl, (rfl : _ = Value.int _ _)⟩, trivial⟩ ?_)))))))))))))))
    first
      | exact ⟨congrArg (Value.int .i64) (gradeE_flaw hj2 (by assumption) hfl).symm, g0.tail.tail.tail⟩
      | (have hj4 : j = 4 := by omega
         subst hj4
         exact ⟨congrArg (Value.int .i64) (gradeE_fine hfl).symm, g0.tail.tail.tail⟩)
   try simp only [zS] at g5
   refine zAs (zAl (zAb (gf _ _ (zAa (w_p (zBg rfl rfl rfl rfl (by omega) (by omega)) rfl (zAz rfl rfl (zAd (zAb (gb _ _ (nxI (4 - (j + 1)) (by omega) ?_))))))))))
   exact ⟨j + 1, rfl, by omega, rfl, (fun q hq => by rcases Nat.lt_or_ge q j with h | h; exact hfl q h; have hqj : q = j := (by omega); subst hqj; assumption), g0.tail⟩
  try simp only [zS] at g3
  refine zBl (zAm (zAm (zA0 (zAb (g8 _ _ (zAe (fun gC gk => (zAa (zA5 rfl rfl (zAd (zAb (gk _ _ (zAy (zA1 (l := [.tmp 5]) (vs := [_]) rfl ⟨⟨rfl, (rfl : _ = Value.int _ _)⟩, trivial⟩ ?_))))))))))))))
  first
    | exact ⟨congrArg (Value.int .i64) (gradeE_flaw hj2 (by assumption) hfl).symm, hs.tail.tail⟩
    | (have hj4 : j = 4 := by omega
       subst hj4
       exact ⟨congrArg (Value.int .i64) (gradeE_fine hfl).symm, hs.tail.tail⟩)

theorem c93 {w0 w : World} {F : List (Nat × Obj)} (i : Int) (b : Bunch) (bf : List Bunch) (hs : St w0 w F) :
  Con Tryz.prog 93 [.int .i64 i, .agg b.cells.toArray] w fun v w' => v = .int .i64 (bunchE bf b) ∧ St w0 w' F := by
  refine zAt (n := 43) func93 rfl rfl (zNl rfl) ?_
  refine zAe (fun K2 gc => (zAa (zCa (v := .agg #[.int _ _, .int _ _, .int _ _, .int _ _]) (cs := [_,_,_,_]) zAc rfl rfl rfl hs (fun b3 w4 g9 => ?_))))
  refine zA5 rfl rfl (zAd (zAb (gc _ _ (zAe (fun K7 gd => (zAw ?_))))))
  refine zAe (fun K9 ga => (zAa (w_p (zAf (o := 0) (i := 0) underlying65 rfl sizeOf46 rfl rfl rfl) rfl (w_p (zAf (o := 0) (i := 0) underlying46 rfl sizeOf3 rfl rfl rfl) rfl (w_p (zAj isAgg3 g9 rfl rfl (zAk (i := 0) (vs := [_]) rfl rfl)) rfl ?_)))))
  refine w_p (zAf (o := 0) (i := 0) underlying65 rfl sizeOf46 rfl rfl rfl) rfl (w_p (zAf (o := 1) (i := 1) underlying46 rfl sizeOf3 rfl rfl rfl) rfl (w_p (zAj isAgg3 g9 rfl rfl (zAk (i := 0) (vs := [_]) rfl rfl)) rfl ?_))
  refine zBb (ps := [(0, _),(1, _)]) (pv := [(0, .int _ _),(1, .int _ _)]) (cs := [_,_]) zAc rfl rfl (fun w => Try_HD_fb0 _ _ w) g9 (fun gq gr gf => ?_)
  refine zAr zAc call57 rfl rfl rfl rfl (c57 _ _ _ [_,_] _ (by simp) (zBt (i := 0) (rows := [[_], [_]]) rfl (by simp) rfl) gf) ?_
  rintro _ gt ⟨rfl, g7⟩
  refine w_p (zAi (v := .bool _) rfl rfl) rfl (zBi (fun g0 => ?_) (fun g0 => ?_))
  ·
   try simp only [zS] at g0
   refine zAh rfl rfl rfl ?_
   refine zAh rfl rfl rfl ?_
   refine zAh rfl rfl rfl ?_
   refine zAh rfl rfl rfl ?_
   refine zAh rfl rfl rfl ?_
   refine zAh rfl rfl rfl ?_
   refine zAh rfl rfl rfl ?_
   refine zAh rfl rfl rfl ?_
   refine w_p (zAx (v := _) rfl rfl rfl rfl) rfl (w_p (zAo (v := .bool _) rfl rfl) rfl (zAd (zAb (ga _ _ (zB1 rfl rfl ?_)))))
   refine zAe (fun gu gg => (zAa (zA5 rfl rfl (zAd (zAb (gg _ _ (zAy (zAv (zAg (zA1 (l := [.tmp 4]) (vs := [_]) rfl ⟨⟨rfl, (rfl : _ = Value.int _ _)⟩, trivial⟩ ?_))))))))))
   try simp only [List.any_cons, List.any_nil, Bool.or_false, Bool.or_eq_false_iff] at g0
   exact ⟨congrArg (Value.int .i64) (by simp [bunchE, g0] <;> omega), g7.tail.tail⟩
  try simp only [zS] at g0
  refine w_y rfl rfl rfl (zAf (o := 2) (i := 1) underlying65 rfl sizeOf46 rfl rfl rfl) rfl ?_
  refine w_y rfl rfl rfl (zAf (o := 0) (i := 0) underlying46 rfl sizeOf3 rfl rfl rfl) rfl ?_
  refine w_y rfl rfl rfl (zAj isAgg3 g7 rfl rfl (zAk (i := 1) (vs := [_]) rfl rfl)) rfl ?_
  refine w_y rfl rfl rfl (zAf (o := 2) (i := 1) underlying65 rfl sizeOf46 rfl rfl rfl) rfl ?_
  refine w_y rfl rfl rfl (zAf (o := 1) (i := 1) underlying46 rfl sizeOf3 rfl rfl rfl) rfl ?_
  refine w_y rfl rfl rfl (zAj isAgg3 g7 rfl rfl (zAk (i := 1) (vs := [_]) rfl rfl)) rfl ?_
  refine zBb (ps := [(0, _),(1, _)]) (pv := [(0, .int _ _),(1, .int _ _)]) (cs := [_,_]) (zAq rfl rfl rfl) rfl rfl (fun w => Try_HD_fb0 _ _ w) g7 (fun gv gw gh => ?_)
  refine zAr (zAq rfl rfl rfl) call57 rfl rfl rfl rfl (c57 _ _ _ [_,_] _ (by simp) (zBt (i := 0) (rows := [[_], [_]]) rfl (by simp) rfl) gh) ?_
  rintro _ gx ⟨rfl, g8⟩
  refine w_p (zA9 (v := .bool _) rfl rfl rfl rfl) rfl (w_p (zAo (v := .bool _) rfl rfl) rfl (zAd (zAb (ga _ _ (zAu rfl rfl (fun g3 => ?_) (fun g3 => ?_))))))
  ·
   try simp only [zS] at g3
   refine zAe (fun gy gi => (zAa (zA5 rfl rfl (zAd (zAb (gi _ _ (zAy (zAv (zAg (zA1 (l := [.tmp 4]) (vs := [_]) rfl ⟨⟨rfl, (rfl : _ = Value.int _ _)⟩, trivial⟩ ?_))))))))))
   try simp only [List.any_cons, List.any_nil, Bool.or_false, Bool.or_eq_false_iff] at g0 g3
   exact ⟨congrArg (Value.int .i64) (by simp [bunchE, g0, g3] <;> omega), g8.tail.tail.tail⟩
  try simp only [zS] at g3
  refine zAe (fun gz gb => ?_)
  have hbb : 1 ≤ b.lo ∧ b.lo ≤ 12 ∧ 1 ≤ b.hi ∧ b.hi ≤ 12 := by
    have hq : [b.lo, b.hi].any (out 1 12) = false := by assumption
    simp [out] at hq; omega
  refine zAa (w_p (zAf (o := 0) (i := 0) underlying65 rfl sizeOf46 rfl rfl rfl) rfl (w_p (zAf (o := 1) (i := 1) underlying46 rfl sizeOf3 rfl rfl rfl) rfl (w_p (zAj isAgg3 g8 rfl rfl (zAk (i := 2) (vs := [_]) rfl rfl)) rfl ?_)))
  refine w_p (zAf (o := 0) (i := 0) underlying65 rfl sizeOf46 rfl rfl rfl) rfl (w_p (zAf (o := 0) (i := 0) underlying46 rfl sizeOf3 rfl rfl rfl) rfl (w_p (zAj isAgg3 g8 rfl rfl (zAk (i := 2) (vs := [_]) rfl rfl)) rfl ?_))
  refine w_p (zE0 rfl rfl rfl rfl (by omega) (by omega)) rfl (zBb (ps := [(0, _)]) (pv := [(0, .int _ _)]) (cs := [_]) zAc rfl rfl (fun w => zHi _ w) g8 (fun gA gB gj => ?_))
  refine zAr zAc call57 rfl rfl rfl rfl (c57 _ _ _ [_] _ (by simp) (zBt (i := 0) (rows := [[_]]) rfl (by simp) rfl) gj) ?_
  rintro _ gC ⟨rfl, g6⟩
  refine w_p (zAi (v := .bool _) rfl rfl) rfl (zBi (fun g4 => ?_) (fun g4 => ?_))
  ·
   try simp only [zS] at g4
   refine zAh rfl rfl rfl ?_
   refine zAh rfl rfl rfl ?_
   refine zAh rfl rfl rfl ?_
   refine zAh rfl rfl rfl ?_
   refine zAh rfl rfl rfl ?_
   refine zAh rfl rfl rfl ?_
   refine zAh rfl rfl rfl ?_
   refine w_p (zAx (v := _) rfl rfl rfl rfl) rfl (w_p (zAo (v := .bool _) rfl rfl) rfl (zAd (zAb (gb _ _ (zB1 rfl rfl ?_)))))
   refine zAe (fun gE gk => (zAa (zA5 rfl rfl (zAd (zAb (gk _ _ (zAy (zAv (zAg (zA1 (l := [.tmp 4]) (vs := [_]) rfl ⟨⟨rfl, (rfl : _ = Value.int _ _)⟩, trivial⟩ ?_))))))))))
   try simp only [List.any_cons, List.any_nil, Bool.or_false, Bool.or_eq_false_iff] at g0 g3 g4
   exact ⟨congrArg (Value.int .i64) (by simp [bunchE, g0, g3, g4] <;> omega), g6.tail.tail.tail.tail⟩
  try simp only [zS] at g4
  refine w_y rfl rfl rfl (zAf (o := 2) (i := 1) underlying65 rfl sizeOf46 rfl rfl rfl) rfl ?_
  refine w_y rfl rfl rfl (zAf (o := 0) (i := 0) underlying46 rfl sizeOf3 rfl rfl rfl) rfl ?_
  refine w_y rfl rfl rfl (zAj isAgg3 g6 rfl rfl (zAk (i := 3) (vs := [_]) rfl rfl)) rfl ?_
  refine w_y rfl rfl rfl (zAf (o := 2) (i := 1) underlying65 rfl sizeOf46 rfl rfl rfl) rfl ?_
  refine w_y rfl rfl rfl (zAf (o := 1) (i := 1) underlying46 rfl sizeOf3 rfl rfl rfl) rfl ?_
  refine w_y rfl rfl rfl (zAj isAgg3 g6 rfl rfl (zAk (i := 3) (vs := [_]) rfl rfl)) rfl ?_
  refine w_y rfl rfl rfl (zD5 rfl rfl rfl rfl) rfl ?_
  refine w_p (zA9 (v := .bool _) rfl rfl rfl rfl) rfl (w_p (zAo (v := .bool _) rfl rfl) rfl (zAd (zAb (gb _ _ (zAu rfl rfl (fun g5 => ?_) (fun g5 => ?_))))))
  ·
   try simp only [zS] at g5
   refine zAe (fun gF gm => (zAa (zA5 rfl rfl (zAd (zAb (gm _ _ (zAy (zAv (zAg (zA1 (l := [.tmp 4]) (vs := [_]) rfl ⟨⟨rfl, (rfl : _ = Value.int _ _)⟩, trivial⟩ ?_))))))))))
   try simp only [List.any_cons, List.any_nil, Bool.or_false, Bool.or_eq_false_iff] at g0 g3 g4 g5
   exact ⟨congrArg (Value.int .i64) (by simp [bunchE, g0, g3, g4, g5] <;> omega), g6.tail.tail.tail.tail⟩
  try simp only [zS] at g5
  refine zAs (zAl (zAb (gd _ _ (zAe (fun gG gn => (zAa (zA5 rfl rfl (zAd (zAb (gn _ _ (zAy (zA1 (l := [.tmp 4]) (vs := [_]) rfl ⟨⟨rfl, (rfl : _ = Value.int _ _)⟩, trivial⟩ ?_))))))))))))
  try simp only [List.any_cons, List.any_nil, Bool.or_false, Bool.or_eq_false_iff] at g0 g3 g4 g5
  exact ⟨congrArg (Value.int .i64) (by simp [bunchE, g0, g3, g4, g5] <;> omega), g6.tail.tail.tail.tail⟩

theorem c95 {w0 w : World} {F : List (Nat × Obj)} (l : Lot) (p : At3) (hm : LIn w0 F l p) (h6 : l.bunches.length ≤ 6) (i : Int) (x : Count) (bf : List Count) (bm : Nat) (hb : Ats w0 F bm 0 (l.cells p)) (hs : St w0 w F) :
  Con Tryz.prog 95 [.int .i64 i, .agg x.cells.toArray, .pointer (some ⟨bm, 0, none⟩)] w fun v w' => v = .int .i64 (countE l.bunches.length bf x) ∧ St w0 w' F := by
  refine zAt (n := 21) func95 rfl rfl (zNl rfl) ?_
  have hpl := pow_le _ h6
  refine zAe (fun K2 g8 => (zAa (zCa (v := .agg #[.int _ _, .int _ _]) (cs := [_,_]) zAc rfl rfl rfl hs (fun b3 w4 g9 => ?_))))
  refine zA5 rfl rfl (zAd (zAb (g8 _ _ (zAe (fun K7 ga => (zAw ?_))))))
  refine zAe (fun K9 gb => (zCn [] [(0,0),(1,1),(2,0),(3,0),(4,0),(5,0),(6,1),(7,2),(8,2),(9,0)] zCb (by kernel_rfl) g9 (fun gi g5 => ?_)))
  refine d_w rfl (fun _ => zAf (o := 1) (i := 1) underlying26 rfl sizeOf23 rfl rfl rfl) rfl ?_
  refine zBd rfl zAc rfl g5 (fun _ hq => (zAj isAgg23 hq.tail rfl rfl (show Ats _ _ _ _ [_] from Ats.part hb 1 1))) ?_
  refine d_w rfl (fun _ => zA8 underlying23 rfl rfl) rfl ?_
  refine d_w rfl (fun _ => zI1 (x := 1) (y := _) rfl rfl rfl rfl rfl rfl (by first | omega | exact zBo (by omega)) (by first | omega | exact zBo (by omega))) rfl ?_
  refine d_w rfl (fun _ => zGt (z' := 2 ^ l.bunches.length - 1) (pow_all h6) (zE0 rfl rfl rfl rfl (by omega) (by omega))) rfl ?_
  refine d_w rfl (fun _ => zAf (o := 0) (i := 0) underlying67 rfl sizeOf3 rfl rfl rfl) rfl ?_
  refine zBd rfl zAc rfl g5 (fun _ hq => (zAj isAgg3 hq rfl rfl (zAk (i := 0) (vs := [_]) rfl rfl))) ?_
  refine zCq rfl ?_
  refine zBb (ps := [(0, _)]) (pv := [(0, .int _ _)]) (cs := [_]) zAc rfl rfl (fun w => zHi _ w) g5 (fun gj gk g6 => ?_)
  refine zAd (qn ⟨g6.tail, ?_⟩)
  refine zCq rfl ?_
  refine zAr zAc call57 rfl rfl rfl rfl (c57 _ _ _ [_] _ (by simp) (zBt (i := 0) (rows := [[_]]) rfl (by simp) rfl) g6) ?_
  rintro _ gm ⟨rfl, g4⟩
  refine zAd (qn ⟨g4.tail, ?_⟩)
  refine d_w rfl (fun _ => zAo (v := .bool _) rfl rfl) rfl ?_
  refine zCf ?_
  refine zAb (gb _ _ (zAu rfl rfl (fun g0 => ?_) (fun g0 => ?_)))
  ·
   try simp only [zS] at g0
   refine zAe (fun gn gc => (zAa (zA5 rfl rfl (zAd (zAb (gc _ _ (zAy (zAv (zAg (zA1 (l := [.tmp 5]) (vs := [_]) rfl ⟨⟨rfl, (rfl : _ = Value.int _ _)⟩, trivial⟩ ?_))))))))))
   try simp only [List.any_cons, List.any_nil, Bool.or_false, Bool.or_eq_false_iff] at g0
   exact ⟨congrArg (Value.int .i64) (by simp [countE, g0] <;> omega), g4.tail.tail⟩
  try simp only [zS] at g0
  refine zAe (fun gq gd => (zAa (w_p (zAf (o := 1) (i := 1) underlying67 rfl sizeOf3 rfl rfl rfl) rfl (w_p (zAj isAgg3 g4 rfl rfl (zAk (i := 1) (vs := [_]) rfl rfl)) rfl (zBb (ps := [(0, _)]) (pv := [(0, .int _ _)]) (cs := [_]) zAc rfl rfl (fun w => zHi _ w) g4 (fun gr gt gf => ?_))))))
  refine zAr zAc call57 rfl rfl rfl rfl (c57 _ _ _ [_] _ (by simp) (zBt (i := 0) (rows := [[_]]) rfl (by simp) rfl) gf) ?_
  rintro _ gu ⟨rfl, g7⟩
  refine w_p (zAo (v := .bool _) rfl rfl) rfl (zAd (zAb (gd _ _ (zAu rfl rfl (fun g3 => ?_) (fun g3 => ?_)))))
  ·
   try simp only [zS] at g3
   refine zAe (fun gv gg => (zAa (zA5 rfl rfl (zAd (zAb (gg _ _ (zAy (zAv (zAg (zA1 (l := [.tmp 5]) (vs := [_]) rfl ⟨⟨rfl, (rfl : _ = Value.int _ _)⟩, trivial⟩ ?_))))))))))
   try simp only [List.any_cons, List.any_nil, Bool.or_false, Bool.or_eq_false_iff] at g0 g3
   exact ⟨congrArg (Value.int .i64) (by simp [countE, g0, g3] <;> omega), g7.tail.tail.tail⟩
  try simp only [zS] at g3
  refine zAs (zAl (zAb (ga _ _ (zAe (fun gw gh => (zAa (zA5 rfl rfl (zAd (zAb (gh _ _ (zAy (zA1 (l := [.tmp 5]) (vs := [_]) rfl ⟨⟨rfl, (rfl : _ = Value.int _ _)⟩, trivial⟩ ?_))))))))))))
  try simp only [List.any_cons, List.any_nil, Bool.or_false, Bool.or_eq_false_iff] at g0 g3
  exact ⟨congrArg (Value.int .i64) (by simp [countE, g0, g3] <;> omega), g7.tail.tail.tail⟩

theorem c61 {w0 w : World} {F : List (Nat × Obj)} (l : Lot) (p : At3) (hm : LIn w0 F l p)  (hs : St w0 w F) :
  Con Tryz.prog 61 [.agg (l.cells p).toArray] w fun v w' => v = .tuple #[.int .i64 (check l).1, .int .i64 (check l).2.1, .int .i64 (check l).2.2] ∧ St w0 w' F := by
  refine zAt (n := 54) func61 rfl rfl (zNl rfl) ?_
  have hlg := hm.lg
  have hlb := hm.lb
  have hlc := hm.lc
  refine zAe (fun K2 gd => (zAa (zCa (v := .agg #[.slice _ _ _, .slice _ _ _, .slice _ _ _]) (cs := [_,_,_]) zAc rfl rfl rfl hs (fun b3 w4 gb => ?_))))
  refine zA5 rfl rfl (zA5 rfl rfl (zA5 rfl rfl (zAd (zAb (gd _ _ (zAe (fun K7 gf => (zAe (fun K9 gg => (zAa (w_p (zAf (o := 0) (i := 0) underlying26 rfl sizeOf22 rfl rfl rfl) rfl ?_)))))))))))
  refine w_p (zAj isAgg22 gb rfl rfl (zAk (i := 0) (vs := [_]) rfl rfl)) rfl (w_p (zA8 underlying22 rfl rfl) rfl (zBb (ps := [(0, _)]) (pv := [(0, .int _ _)]) (cs := [_]) zAc rfl rfl (fun w => zHi _ w) gb (fun gF gG gh => ?_)))
  refine zAr zAc call57 rfl rfl rfl rfl (c57 _ _ _ [_] _ (by simp) (zBt (i := 0) (rows := [[_]]) rfl (by simp) rfl) gh) ?_
  rintro _ gH ⟨rfl, ga⟩
  refine zAd (zAb (gg _ _ (zAu rfl rfl (fun g0 => ?_) (fun g0 => ?_))))
  ·
   try simp only [zS] at g0
   refine zAe (fun gI gi => (zAa (zA5 rfl rfl (zA5 rfl rfl (zA5 rfl rfl (zAd (zAb (gi _ _ (zAy (zAg (zA1 (l := [.tmp 2, .tmp 3, .tmp 4]) (vs := [_,_,_]) rfl ⟨⟨rfl, (rfl : _ = Value.int _ _)⟩, ⟨rfl, (rfl : _ = Value.int _ _)⟩, ⟨rfl, (rfl : _ = Value.int _ _)⟩, trivial⟩ ?_)))))))))))
   try simp only [List.any_cons, List.any_nil, Bool.or_false, Bool.or_eq_false_iff] at g0
   refine ⟨tup3 ?_, ga.tail.tail⟩; unfold check failE
   try have e1 : ¬ ((6:Int) < (l.bunches.length : Int)) := by omega
   try have e2 : ¬ ((4:Int) < (l.counts.length : Int)) := by omega
   first
     | (simp [zCo, g0, e1, e2]; done)
     | (simp [zCo, g0, e1]; done)
     | (simp [zCo, g0]; done)
  try simp only [zS] at g0
  refine zAs (zAb (gf _ _ (zAe (fun gJ gj => (zAa (w_p (zAf (o := 0) (i := 0) underlying26 rfl sizeOf22 rfl rfl rfl) rfl (w_p (zAj isAgg22 ga rfl rfl (zAk (i := 1) (vs := [_]) rfl rfl)) rfl ?_)))))))
  refine w_p (zCc (fv := []) (cv := [_]) rfl rfl rfl rfl) rfl (zAr zAc call89 rfl rfl rfl rfl (c89 (F := _ :: ((b3, blk 26 (l.cells p)) :: F)) _ _ l.grades hlg hm.g.cons.cons (.func (.func 90) #[] #[.pointer (some ⟨b3,0, none⟩)]) gradeE (fun i hi X w hs => zDd call90 (c90 (F := X ++ (_ :: ((b3, blk 26 (l.cells p)) :: F))) l p hm.cons.cons.app i hi _ (Ats.app (Ats.cons (zAk (i := 0) (vs := l.cells p) rfl rfl))) hs)) ga) ?_)
  rintro _ gK ⟨rfl, g8⟩
  refine w_p (zAi (v := .tuple _) rfl rfl) rfl (w_p (zAp (v := .int _ _) rfl rfl rfl) rfl (w_p (zAp (v := .int _ _) rfl rfl rfl) rfl (zBe rfl rfl (zBe rfl rfl (zAd (zAb (gj _ _ (zAe (fun gL gk => (zAw ?_))))))))))
  refine zAe (fun gM gm => (zAa (zAz rfl rfl (w_p (zB2 rfl rfl rfl rfl) rfl (w_p (zAo (v := .bool _) rfl rfl) rfl (zAd (zAb (gm _ _ (zAu rfl rfl (fun g3 => ?_) (fun g3 => ?_))))))))))
  ·
   try simp only [zS] at g3
   refine zAe (fun gN gn => (zAa (zAz rfl rfl (zAz rfl rfl (zA5 rfl rfl (zBe rfl rfl (zBe rfl rfl (zAd (zAb (gn _ _ (zAy (zAv (zAg (zA1 (l := [.tmp 2, .tmp 3, .tmp 4]) (vs := [_,_,_]) rfl ⟨⟨rfl, (rfl : _ = Value.int _ _)⟩, ⟨rfl, (rfl : _ = Value.int _ _)⟩, ⟨rfl, (rfl : _ = Value.int _ _)⟩, trivial⟩ ?_))))))))))))))
   try simp only [List.any_cons, List.any_nil, Bool.or_false, Bool.or_eq_false_iff] at g0 g3
   refine ⟨tup3 ?_, g8.tail.tail⟩; unfold check failE
   try have e1 : ¬ ((6:Int) < (l.bunches.length : Int)) := by omega
   try have e2 : ¬ ((4:Int) < (l.counts.length : Int)) := by omega
   first
     | (simp [zCo, g0, g3, e1, e2]; done)
     | (simp [zCo, g0, g3, e1]; done)
     | (simp [zCo, g0, g3]; done)
  try simp only [zS] at g3
  refine zAe (fun gP gq => (zAa (w_p (zAf (o := 1) (i := 1) underlying26 rfl sizeOf23 rfl rfl rfl) rfl (w_p (zAj isAgg23 g8 rfl rfl (zAk (i := 1) (vs := [_]) rfl rfl)) rfl (w_p (zA8 underlying23 rfl rfl) rfl ?_)))))
  refine w_p (zD5 rfl rfl rfl rfl) rfl (w_p (zAo (v := .bool _) rfl rfl) rfl (zAd (zAb (gq _ _ (zAu rfl rfl (fun g4 => ?_) (fun g4 => ?_))))))
  ·
   try simp only [zS] at g4
   refine zAe (fun gQ gr => (zAa (zA5 rfl rfl (zA5 rfl rfl (zA5 rfl rfl (zAd (zAb (gr _ _ (zAy (zAv (zAg (zA1 (l := [.tmp 2, .tmp 3, .tmp 4]) (vs := [_,_,_]) rfl ⟨⟨rfl, (rfl : _ = Value.int _ _)⟩, ⟨rfl, (rfl : _ = Value.int _ _)⟩, ⟨rfl, (rfl : _ = Value.int _ _)⟩, trivial⟩ ?_))))))))))))
   try simp only [List.any_cons, List.any_nil, Bool.or_false, Bool.or_eq_false_iff] at g0 g3 g4
   refine ⟨tup3 ?_, g8.tail.tail⟩; unfold check failE
   try have e1 : ¬ ((6:Int) < (l.bunches.length : Int)) := by omega
   try have e2 : ¬ ((4:Int) < (l.counts.length : Int)) := by omega
   first
     | (simp [zCo, g0, g3, g4, e1, e2]; done)
     | (simp [zCo, g0, g3, g4, e1]; done)
     | (simp [zCo, g0, g3, g4]; done)
  try simp only [zS] at g4
  refine zAs (zAl (zAb (gk _ _ (zAe (fun gR gt => (zAa (w_p (zAf (o := 1) (i := 1) underlying26 rfl sizeOf23 rfl rfl rfl) rfl (w_p (zAj isAgg23 g8 rfl rfl (zAk (i := 1) (vs := [_]) rfl rfl)) rfl ?_))))))))
  refine zAr zAc call92 rfl rfl rfl rfl (c92 (F := _ :: ((b3, blk 26 (l.cells p)) :: F)) _ _ l.bunches hlb hm.b.cons.cons (.func (.func 93) #[] #[]) bunchE (fun i hi X w hs => zDd call93 (c93 (F := X ++ (_ :: ((b3, blk 26 (l.cells p)) :: F))) i l.bunches[i] _ hs)) g8) ?_
  rintro _ gS ⟨rfl, g9⟩
  refine w_p (zAi (v := .tuple _) rfl rfl) rfl (w_p (zAp (v := .int _ _) rfl rfl rfl) rfl (w_p (zAp (v := .int _ _) rfl rfl rfl) rfl (zBe rfl rfl (zBe rfl rfl (zAd (zAb (gt _ _ (zAe (fun gU gu => (zAw ?_))))))))))
  refine zAe (fun gV gv => (zAa (zAz rfl rfl (w_p (zB2 rfl rfl rfl rfl) rfl (w_p (zAo (v := .bool _) rfl rfl) rfl (zAd (zAb (gv _ _ (zAu rfl rfl (fun g5 => ?_) (fun g5 => ?_))))))))))
  ·
   try simp only [zS] at g5
   refine zAe (fun gW gw => (zAa (zAz rfl rfl (zAz rfl rfl (zA5 rfl rfl (zBe rfl rfl (zBe rfl rfl (zAd (zAb (gw _ _ (zAy (zAv (zAg (zA1 (l := [.tmp 2, .tmp 3, .tmp 4]) (vs := [_,_,_]) rfl ⟨⟨rfl, (rfl : _ = Value.int _ _)⟩, ⟨rfl, (rfl : _ = Value.int _ _)⟩, ⟨rfl, (rfl : _ = Value.int _ _)⟩, trivial⟩ ?_))))))))))))))
   try simp only [List.any_cons, List.any_nil, Bool.or_false, Bool.or_eq_false_iff] at g0 g3 g4 g5
   refine ⟨tup3 ?_, g9.tail.tail⟩; unfold check failE
   try have e1 : ¬ ((6:Int) < (l.bunches.length : Int)) := by omega
   try have e2 : ¬ ((4:Int) < (l.counts.length : Int)) := by omega
   first
     | (simp [zCo, g0, g3, g4, g5, e1, e2]; done)
     | (simp [zCo, g0, g3, g4, g5, e1]; done)
     | (simp [zCo, g0, g3, g4, g5]; done)
  try simp only [zS] at g5
  refine zAe (fun gX gx => (zAa (w_p (zAf (o := 2) (i := 2) underlying26 rfl sizeOf24 rfl rfl rfl) rfl (w_p (zAj isAgg24 g9 rfl rfl (zAk (i := 1) (vs := [_]) rfl rfl)) rfl (w_p (zA8 underlying24 rfl rfl) rfl ?_)))))
  refine w_p (zD5 rfl rfl rfl rfl) rfl (w_p (zAo (v := .bool _) rfl rfl) rfl (zAd (zAb (gx _ _ (zAu rfl rfl (fun g6 => ?_) (fun g6 => ?_))))))
  ·
   try simp only [zS] at g6
   refine zAe (fun gY gy => (zAa (zA5 rfl rfl (zA5 rfl rfl (zA5 rfl rfl (zAd (zAb (gy _ _ (zAy (zAv (zAg (zA1 (l := [.tmp 2, .tmp 3, .tmp 4]) (vs := [_,_,_]) rfl ⟨⟨rfl, (rfl : _ = Value.int _ _)⟩, ⟨rfl, (rfl : _ = Value.int _ _)⟩, ⟨rfl, (rfl : _ = Value.int _ _)⟩, trivial⟩ ?_))))))))))))
   try simp only [List.any_cons, List.any_nil, Bool.or_false, Bool.or_eq_false_iff] at g0 g3 g4 g5 g6
   refine ⟨tup3 ?_, g9.tail.tail⟩; unfold check failE
   try have e1 : ¬ ((6:Int) < (l.bunches.length : Int)) := by omega
   try have e2 : ¬ ((4:Int) < (l.counts.length : Int)) := by omega
   first
     | (simp [zCo, g0, g3, g4, g5, g6, e1, e2]; done)
     | (simp [zCo, g0, g3, g4, g5, g6, e1]; done)
     | (simp [zCo, g0, g3, g4, g5, g6]; done)
  try simp only [zS] at g6
  refine zAs (zAl (zAb (gu _ _ (zAe (fun gZ gz => (zAa (w_p (zAf (o := 2) (i := 2) underlying26 rfl sizeOf24 rfl rfl rfl) rfl (w_p (zAj isAgg24 g9 rfl rfl (zAk (i := 1) (vs := [_]) rfl rfl)) rfl ?_))))))))
  refine w_p (zCc (fv := []) (cv := [_]) rfl rfl rfl rfl) rfl (zAr zAc call94 rfl rfl rfl rfl (c94 (F := _ :: ((b3, blk 26 (l.cells p)) :: F)) _ _ l.counts hlc hm.c.cons.cons (.func (.func 95) #[] #[.pointer (some ⟨b3,0, none⟩)]) (countE l.bunches.length) (fun i hi X w hs => zDd call95 (c95 (F := X ++ (_ :: ((b3, blk 26 (l.cells p)) :: F))) l p hm.cons.cons.app (by omega) i l.counts[i] _ _ (Ats.app (Ats.cons (zAk (i := 0) (vs := l.cells p) rfl rfl))) hs)) g9) ?_)
  rintro _ hD ⟨rfl, gc⟩
  refine w_p (zAi (v := .tuple _) rfl rfl) rfl (w_p (zAp (v := .int _ _) rfl rfl rfl) rfl (w_p (zAp (v := .int _ _) rfl rfl rfl) rfl (zBe rfl rfl (zBe rfl rfl (zAd (zAb (gz _ _ (zAe (fun hG gA => (zAe (fun hH gB => (zAa (zAz rfl rfl ?_)))))))))))))
  refine w_p (zB2 rfl rfl rfl rfl) rfl (zAd (zAb (gB _ _ (zAu rfl rfl (fun g7 => ?_) (fun g7 => ?_)))))
  ·
   try simp only [zS] at g7
   refine zAe (fun hO gC => (zAa (zAz rfl rfl (zAz rfl rfl (zA5 rfl rfl (zBe rfl rfl (zBe rfl rfl (zAd (zAb (gC _ _ (zAy (zAg (zA1 (l := [.tmp 2, .tmp 3, .tmp 4]) (vs := [_,_,_]) rfl ⟨⟨rfl, (rfl : _ = Value.int _ _)⟩, ⟨rfl, (rfl : _ = Value.int _ _)⟩, ⟨rfl, (rfl : _ = Value.int _ _)⟩, trivial⟩ ?_)))))))))))))
   try simp only [List.any_cons, List.any_nil, Bool.or_false, Bool.or_eq_false_iff] at g0 g3 g4 g5 g6 g7
   refine ⟨tup3 ?_, gc.tail.tail⟩; unfold check failE
   try have e1 : ¬ ((6:Int) < (l.bunches.length : Int)) := by omega
   try have e2 : ¬ ((4:Int) < (l.counts.length : Int)) := by omega
   first
     | (simp [zCo, g0, g3, g4, g5, g6, g7, e1, e2]; done)
     | (simp [zCo, g0, g3, g4, g5, g6, g7, e1]; done)
     | (simp [zCo, g0, g3, g4, g5, g6, g7]; done)
  try simp only [zS] at g7
  refine zAs (zAb (gA _ _ (zAe (fun hX gE => (zAa (zA5 rfl rfl (zA5 rfl rfl (zA5 rfl rfl (zAd (zAb (gE _ _ (zAy (zA1 (l := [.tmp 2, .tmp 3, .tmp 4]) (vs := [_,_,_]) rfl ⟨⟨rfl, (rfl : _ = Value.int _ _)⟩, ⟨rfl, (rfl : _ = Value.int _ _)⟩, ⟨rfl, (rfl : _ = Value.int _ _)⟩, trivial⟩ ?_)))))))))))))
  try simp only [List.any_cons, List.any_nil, Bool.or_false, Bool.or_eq_false_iff] at g0 g3 g4 g5 g6 g7
  refine ⟨tup3 ?_, gc.tail.tail⟩; unfold check failE
  try have e1 : ¬ ((6:Int) < (l.bunches.length : Int)) := by omega
  try have e2 : ¬ ((4:Int) < (l.counts.length : Int)) := by omega
  first
    | (simp [zCo, g0, g3, g4, g5, g6, g7, e1, e2]; done)
    | (simp [zCo, g0, g3, g4, g5, g6, g7, e1]; done)
    | (simp [zCo, g0, g3, g4, g5, g6, g7]; done)

end Go.Proofs.Hn
/- Plain words of lists in their order, and of all sets of some numbers, for all layers. No conditions. -/
namespace Go.Rt
def hasI (l : List Int) (z : Int) : Bool := l.any fun y => decide (y = z)
theorem zIn {l : List Int} {z : Int} {i : Nat} (hi : i < l.length) : hasI (l.take (i + 1)) z = (hasI (l.take i) z || decide (l[i] = z)) := by
  unfold hasI; rw [List.take_succ_eq_append_getElem hi, List.any_append]; simp
theorem hasI_mem {l : List Int} {z : Int} : hasI l z = true ↔ z ∈ l := by simp [hasI]
def othersTo (l : List Int) : Nat → List Int
  | 0 => []
  | i + 1 => if hasI l i then othersTo l i else othersTo l i ++ [(i : Int)]
theorem zJi : ∀ (a b c : List Int), less a b = true → less b c = true → less a c = true
  | a, [], _, h, _ => by cases a <;> simp [less] at h
  | _, _ :: _, [], _, h => by simp [less] at h
  | [], _ :: _, _ :: _,_, _ => rfl
  | x :: a, y :: b, z :: c, h1, h2 => by
    simp only [less] at h1 h2 ⊢
    by_cases e1 : x = y
    · subst e1
      simp only [if_true] at h1
      by_cases e2 : x = z
      · subst e2; simp only [if_true] at h2 ⊢; exact zJi a b c h1 h2
      · rw [if_neg e2] at h2 ⊢; exact h2
    · rw [if_neg e1] at h1
      by_cases e2 : y = z
      · subst e2; rw [if_neg e1]; exact h1
      · rw [if_neg e2] at h2
        simp only [decide_eq_true_eq] at h1 h2
        rw [if_neg (by omega)]; simp only [decide_eq_true_eq]; omega
def leastN (x : List Int) : Int := match x.getLast? with | none => 0 | some z => z + 1
def nextTo (x : List Int) (n : Nat) : List (List Int) := ((List.range n).filter fun q : Nat => decide (leastN x ≤ (q : Int))).map fun q : Nat => x ++ [(q : Int)]
def choices (below : Nat) : Nat → List (List Int)
  | 0 => [[]]
  | i + 1 => (choices below i).flatMap fun x => nextTo x below
def chTo (below i k : Nat) : List (List Int) := ((choices below i).take k).flatMap fun x => nextTo x below
theorem flat_le {α β : Type} {f : α → List β} {m : Nat} : ∀ (l : List α), (∀ x ∈ l, (f x).length ≤ m) → (l.flatMap f).length ≤ l.length * m
  | [], _ => by simp
  | a :: l, h => by
    rw [List.flatMap_cons, List.length_append, List.length_cons, Nat.succ_mul]
    have h1 := h a (.head _)
    have h2 := flat_le l fun x hx => h x (.tail _ hx)
    omega
def pickL (shops l : List Int) : List Int := l.map fun z => shops.getD z.toNat 0
def setsMany (shops : List Int) (many : Nat) : List (List Int) := (choices shops.length many).map (pickL shops)
def setsTo (shops : List Int) : Nat → List (List Int)
  | 0 => []
  | k + 1 => setsTo shops k ++ setsMany shops k
def setsL (shops : List Int) : List (List Int) := setsTo shops (shops.length + 1)
namespace Ls
def before (a b : List Int) : Bool := decide (a.length < b.length) || (decide (a.length = b.length) && less a b)
theorem zGq (a : List Int) : before a a = false := by simp [before, zGj]
theorem zEz {a b c : List Int} (h1 : before a b = true) (h2 : before b c = true) : before a c = true := by
  unfold before at *
  simp only [Bool.or_eq_true, Bool.and_eq_true, decide_eq_true_eq] at *
  rcases h1 with h1 | ⟨h1, h1'⟩ <;> rcases h2 with h2 | ⟨h2, h2'⟩
  · left; omega
  · left; omega
  · left; omega
  · right; exact ⟨by omega, zJi _ _ _ h1' h2'⟩
theorem zJ6 {a b : List Int} (h : before a b = true) : before b a = false := by
  cases hb : before b a with
  | false => rfl
  | true => have := zEz h hb; rw [zGq] at this; cases this
theorem zG4 {a b : List Int} (h1 : before a b = false) (h2 : before b a = false) : a = b := by
  unfold before at *
  simp only [Bool.or_eq_false_iff, Bool.and_eq_false_iff, decide_eq_false_iff_not] at *
  have hl : a.length = b.length := by omega
  have e1 : less a b = false := by rcases h1.2 with h | h; omega; exact h
  have e2 : less b a = false := by rcases h2.2 with h | h; omega; exact h
  exact zIk a b hl e1 e2
end Ls
end Go.Rt
/- Plain laws of the hand layer: the first of the fewest. No conditions. -/
namespace Go.Rt.Ha
theorem zGd : ∀ n < 7, ∀ sub < 64, sub < 2 ^ n → (setsL (listL sub n)).Pairwise fun a b => before a b = true := by decide +kernel
theorem sets_in : ∀ n < 7, ∀ sub < 64, sub < 2 ^ n → ∀ l ∈ setsL (listL sub n), ∃ b, b < 2 ^ n ∧ (bitDiff b sub = 0 ∧ l = listL b n) := by
  have h : ∀ n < 7, ∀ sub < 64, sub < 2 ^ n → ∀ l ∈ setsL (listL sub n), ((List.range (2 ^ n)).any fun b => decide (bitDiff b sub = 0 ∧ l = listL b n)) = true := by decide +kernel
  intro n hn sub hs g0 l hl
  obtain ⟨b, hb, hd⟩ := List.any_eq_true.1 (h n hn sub hs g0 l hl)
  exact ⟨b, by simpa using hb, by simpa using hd⟩
theorem zIb : ∀ n < 7, ∀ sub < 64, sub < 2 ^ n → ∀ b < 2 ^ n, bitDiff b sub = 0 → listL b n ∈ setsL (listL sub n) := by
  have h : ∀ n < 7, ∀ sub < 64, sub < 2 ^ n → ((List.range (2 ^ n)).all fun b => !decide (bitDiff b sub = 0) || decide (listL b n ∈ setsL (listL sub n))) = true := by decide +kernel
  intro n hn sub hs g0 b hb hd
  have := List.all_eq_true.1 (h n hn sub hs g0) b (by simpa using hb)
  simpa [hd] using this
structure FewS (do_ : Nat → Bool) (n k : Nat) (s : List Int × Bool) : Prop where
  no : s.2 = false → s.1 = [] ∧ ∀ b < k, do_ b = false
  yes : s.2 = true → ∃ b, b < k ∧ do_ b = true ∧ s.1 = listL b n ∧ ∀ c < k, do_ c = true → listL c n = s.1 ∨ before s.1 (listL c n) = true
end Go.Rt.Ha
/- Plain laws of the hand layer: grades as lists and as bits, spans, sums. No conditions. -/
namespace Go.Rt.Ha
theorem bit_iff (b j : Nat) : bit b j = 1 ↔ b.testBit j = true := by
  unfold bit Nat.testBit
  rw [Nat.and_comm 1, Nat.and_one_is_mod]
  have := Nat.mod_two_eq_zero_or_one (b >>> j)
  rcases this with h | h <;> rw [h] <;> simp
theorem one_shl (k : Nat) : 1 <<< k = 2 ^ k := by rw [Nat.shiftLeft_eq, Nat.one_mul]
theorem zKi (gs : List Grade) (h : Int) (k : Nat) : ∀ ss : List Int, (orG gs h ss).testBit k = ss.any fun s => decide ((ofG gs 0 h s + 1).toNat = k)
  | [] => by simp [orG]
  | s :: ss => by rw [orG, Nat.testBit_or, zKi gs h k ss, one_shl, Nat.testBit_two_pow, List.any_cons]
theorem zIh (h s : Int) : ∀ (gs : List Grade) (i : Int), 0 ≤ i → ofG gs i h s = -1 ∨ (i ≤ ofG gs i h s ∧ ofG gs i h s < i + gs.length)
  | [], _, _ => .inl rfl
  | g :: gs, i, hi => by
    unfold ofG
    split
    · right; simp only [List.length_cons]; omega
    · rcases zIh h s gs (i + 1) (by omega) with h | h
      · exact .inl h
      · right; simp only [List.length_cons]; omega
theorem ofG_ge (gs : List Grade) (h s : Int) : -1 ≤ ofG gs 0 h s := by rcases zIh h s gs 0 (by omega) with e | e <;> omega
def gStep (gs : List Grade) (h : Int) (out : List Int) (s : Int) : List Int := if hasI out (ofG gs 0 h s) then out else out ++ [ofG gs 0 h s]
def gradesL (gs : List Grade) (h : Int) (ss : List Int) : List Int := ss.foldl (gStep gs h) []
theorem gStep_mem {gs : List Grade} {h : Int} {out : List Int} {s z : Int} : z ∈ gStep gs h out s ↔ z ∈ out ∨ ofG gs 0 h s = z := by
  unfold gStep
  split
  · rename_i hm
    rw [hasI_mem] at hm
    constructor
    · exact .inl
    · rintro (h | rfl)
      · exact h
      · exact hm
  · rw [List.mem_append, List.mem_singleton]
    constructor
    · rintro (h | rfl)
      · exact .inl h
      · exact .inr rfl
    · rintro (h | rfl)
      · exact .inl h
      · exact .inr rfl
theorem grades_mem {gs : List Grade} {h : Int} {z : Int} : ∀ (ss out : List Int), z ∈ ss.foldl (gStep gs h) out ↔ z ∈ out ∨ ∃ s ∈ ss, ofG gs 0 h s = z
  | [], out => by simp
  | s :: ss, out => by
    rw [List.foldl_cons, grades_mem ss, gStep_mem, or_assoc]
    simp
theorem gradesL_mem {gs : List Grade} {h : Int} {z : Int} {ss : List Int} : z ∈ gradesL gs h ss ↔ ∃ s ∈ ss, ofG gs 0 h s = z := by
  unfold gradesL; rw [grades_mem]; simp
theorem grades_has {gs : List Grade} {h g : Int} (hg : -1 ≤ g) (ss : List Int) : hasI (gradesL gs h ss) g = (orG gs h ss).testBit (g + 1).toNat := by
  rw [Bool.eq_iff_iff, hasI_mem, gradesL_mem, zKi, List.any_eq_true]
  constructor
  · rintro ⟨s, hs, e⟩; exact ⟨s, hs, by simp [e]⟩
  · rintro ⟨s, hs, e⟩
    have := ofG_ge gs h s
    simp only [decide_eq_true_eq] at e
    exact ⟨s, hs, by omega⟩
def onlyG (l : List Int) (g : Int) : Bool := decide (l.length = 1) && decide (l.getD 0 0 = g)
theorem orG_one {gs : List Grade} {h g : Int} {ss : List Int} (hne : ss ≠ []) (hg : -1 ≤ g) : orG gs h ss = 2 ^ (g + 1).toNat ↔ ∀ s ∈ ss, ofG gs 0 h s = g := by
  constructor
  · intro e s hs
    have h1 := zKi gs h (ofG gs 0 h s + 1).toNat ss
    rw [e, Nat.testBit_two_pow] at h1
    have h2 : (ss.any fun q => decide ((ofG gs 0 h q + 1).toNat = (ofG gs 0 h s + 1).toNat)) = true := List.any_eq_true.2 ⟨s, hs, by simp⟩
    rw [h2] at h1
    have := ofG_ge gs h s
    simp only [decide_eq_true_eq] at h1
    omega
  · intro hall
    apply Nat.eq_of_testBit_eq
    intro k
    rw [zKi, Nat.testBit_two_pow]
    obtain ⟨s, hs⟩ := List.exists_mem_of_ne_nil _ hne
    rw [Bool.eq_iff_iff, List.any_eq_true, decide_eq_true_eq]
    constructor
    · rintro ⟨q, hq, e⟩; rw [hall q hq] at e; simpa using e
    · intro e; exact ⟨s, hs, by rw [hall s hs]; simpa using e⟩
def scarsOf (l : Lot) (b : Nat) : List Int := spanL (bunchOf l b).slo (bunchOf l b).shi
def couldR (l : Lot) (ws : List (List Int)) (b : Nat) (g : Int) : Bool := ws.any fun h => hasI (gradesL l.grades (at_ h b) (scarsOf l b)) g
def mustR (l : Lot) (ws : List (List Int)) (b : Nat) (g : Int) : Bool := ws.all fun h => onlyG (gradesL l.grades (at_ h b) (scarsOf l b)) g
def gradeTo (l : Lot) (ws : List (List Int)) (b : Nat) : Nat → List Int
  | 0 => []
  | k + 1 => gradeTo l ws b k ++ if couldR l ws b ((k : Int) - 1) then [(k : Int) - 1] else []
def spanR (b : Nat) : List (List Int) → Int × Int
  | [] => (0,0)
  | h :: r => r.foldl (joinS b) (at_ h b, at_ h b)
end Go.Rt.Ha
/- Plain laws of the hand layer: lots that are, their ways, totals. No conditions. -/
namespace Go.Rt.Ha
structure Lot.Ok (l : Lot) : Prop where
  lg : 1 ≤ l.grades.length ∧ l.grades.length ≤ 4
  lb : l.bunches.length ≤ 6
  lc : l.counts.length ≤ 4
  grade : ∀ g ∈ l.grades, 1 ≤ g.hands ∧ g.hands ≤ 12 ∧ 0 ≤ g.scars ∧ g.scars ≤ 9
  bunch : ∀ b ∈ l.bunches, 1 ≤ b.lo ∧ b.lo ≤ b.hi ∧ b.hi ≤ 12 ∧ b.hi - b.lo ≤ 3 ∧ 0 ≤ b.slo ∧ b.slo ≤ b.shi ∧ b.shi ≤ 9
  count : ∀ c ∈ l.counts, 1 ≤ c.bits ∧ c.bits ≤ 2 ^ l.bunches.length - 1 ∧ 0 ≤ c.hands ∧ c.hands ≤ 72
theorem zFn {α : Type} (err : List α → α → Int) : ∀ (l b : List α) (i : Int), (firstE err b i l).2 = 0 → ∀ k (h : k < l.length), err (b ++ l.take k) l[k] = 0
  | [], _,_,_, k, h => by simp at h
  | x :: l, b, i, h, k, hk => by
    unfold firstE at h
    by_cases he : err b x = 0
    · rw [if_pos he] at h
      match k with
      | 0 => simpa using he
      | k + 1 =>
        have := zFn err l (b ++ [x]) (i + 1) h k (by simpa using hk)
        simpa using this
    · rw [if_neg he] at h
      exact absurd h he
theorem zEh {α : Type} {err : List α → α → Int} {lo most : Int} {l : List α} (h : (failE err lo most l).2 = 0) : (lo ≤ l.length ∧ (l.length : Int) ≤ most) ∧ ∀ k (h : k < l.length), err (l.take k) l[k] = 0 := by
  unfold failE at h
  split at h
  · cases h
  · rename_i ho
    unfold out at ho
    simp only [Bool.or_eq_true, decide_eq_true_eq, not_or] at ho
    exact ⟨by omega, fun k hk => by simpa using zFn err l [] 0 h k hk⟩
theorem zGn {l : Lot} (h : (check l).2.2 = 0) : (failE gradeE 1 4 l.grades).2 = 0 ∧ (failE bunchE 0 6 l.bunches).2 = 0 ∧ (failE (countE l.bunches.length) 0 4 l.counts).2 = 0 := by
  unfold check at h
  split at h
  · rename_i h1; exact absurd h h1
  · rename_i h1
    split at h
    · rename_i h2; exact absurd h h2
    · rename_i h2
      split at h
      · rename_i h3; exact absurd h h3
      · rename_i h3
        exact ⟨by omega, by omega, by omega⟩
theorem check_ok {l : Lot} (h : (check l).2.2 = 0) : l.Ok := by
  obtain ⟨h1, h2, h3⟩ := zGn h
  have h1 := zEh h1
  have h2 := zEh h2
  have h3 := zEh h3
  refine ⟨by omega, by omega, by omega, fun g hg => ?_, fun b hb => ?_, fun c hc => ?_⟩
  · obtain ⟨k, hk, rfl⟩ := List.getElem_of_mem hg
    have := h1.2 k hk
    unfold gradeE out at this
    split at this
    · rename_i h; exact absurd this h
    · split at this
      · cases this
      · rename_i h
        simp only [Bool.or_eq_true, decide_eq_true_eq, not_or] at h
        omega
  · obtain ⟨k, hk, rfl⟩ := List.getElem_of_mem hb
    have := h2.2 k hk
    unfold bunchE out at this
    split at this
    · cases this
    · rename_i h
      simp only [Bool.or_eq_true, decide_eq_true_eq, not_or] at h
      split at this
      · cases this
      · rename_i h'
        simp only [Bool.or_eq_true, decide_eq_true_eq, not_or] at h'
        omega
  · obtain ⟨k, hk, rfl⟩ := List.getElem_of_mem hc
    have := h3.2 k hk
    unfold countE out at this
    split at this
    · cases this
    · rename_i h
      simp only [Bool.or_eq_true, decide_eq_true_eq, not_or] at h
      split at this
      · cases this
      · rename_i h'
        simp only [Bool.or_eq_true, decide_eq_true_eq, not_or] at h'
        omega
theorem upto_mem : ∀ (n : Nat) (lo z : Int), z ∈ upto lo n ↔ lo ≤ z ∧ z < lo + n
  | 0, lo, z => by simp [upto]
  | n + 1, lo, z => by
    rw [upto, List.mem_cons, upto_mem n (lo + 1) z]
    omega
theorem zKf {lo hi z : Int} : z ∈ spanL lo hi ↔ lo ≤ z ∧ z ≤ hi := by
  unfold spanL; rw [upto_mem]; omega
theorem span_ne {lo hi : Int} (h : lo ≤ hi) : spanL lo hi ≠ [] := List.ne_nil_of_mem (zKf.2 ⟨Int.le_refl lo, h⟩)
theorem zJn : ∀ (bs : List Bunch) (h : List Int), h ∈ felt bs ↔ h.length = bs.length ∧ ∀ i (hi : i < bs.length), bs[i].lo ≤ at_ h i ∧ at_ h i ≤ bs[i].hi
  | [], h => by simp [felt]
  | b :: bs, h => by
    simp only [felt, List.mem_flatMap, List.mem_map]
    constructor
    · rintro ⟨n, hn, r, hr, rfl⟩
      have ih := (zJn bs r).1 hr
      refine ⟨by simp [ih.1], fun i hi => ?_⟩
      cases i with
      | zero => exact zKf.1 hn
      | succ i => exact ih.2 i (by simpa using hi)
    · rintro ⟨h1, h2⟩
      cases h with
      | nil => simp at h1
      | cons n r =>
        refine ⟨n, zKf.2 (h2 0 (by simp)), r, (zJn bs r).2 ⟨by simpa using h1, fun i hi => h2 (i + 1) (by simpa using hi)⟩, rfl⟩
theorem zH3 {l : Lot} {but : Nat} {h : List Int} (hw : h ∈ ways l but) : h ∈ felt l.bunches := (List.mem_filter.1 hw).1
theorem zIx {l : Lot} {b : Nat} (h : b < l.bunches.length) : bunchOf l b = l.bunches[b] := by unfold bunchOf; simp [List.getD, h]
theorem way_at {l : Lot} (hok : l.Ok) {but : Nat} {h : List Int} (hw : h ∈ ways l but) {b : Nat} (hb : b < l.bunches.length) : 1 ≤ at_ h b ∧ at_ h b ≤ 12 ∧ (bunchOf l b).lo ≤ at_ h b ∧ at_ h b ≤ (bunchOf l b).hi := by
  have h1 := ((zJn _ _).1 (zH3 hw)).2 b hb
  have h2 := hok.bunch _ (List.getElem_mem hb)
  rw [zIx hb]
  omega
theorem scars_ne {l : Lot} (hok : l.Ok) {b : Nat} (hb : b < l.bunches.length) : scarsOf l b ≠ [] := by
  have h2 := hok.bunch _ (List.getElem_mem hb)
  unfold scarsOf
  rw [zIx hb]
  exact span_ne h2.2.2.2.2.2.1
def sumsR (l : Lot) (g : Int) (h : List Int) : Nat → Int × Int
  | 0 => (0,0)
  | k + 1 => let s := sumsR l g h k; let z := gradesL l.grades (at_ h k) (scarsOf l k)
    if hasI z g then ((if z.length = 1 then s.1 + at_ h k else s.1), s.2 + at_ h k) else s
def totStepR (l : Lot) (g : Int) (s : Int × Int) (h : List Int) : Int × Int := (min (min s.1 (sumsR l g h l.bunches.length).1) (sumsR l g h l.bunches.length).2, max (max s.2 (sumsR l g h l.bunches.length).1) (sumsR l g h l.bunches.length).2)
def totalR (l : Lot) (g : Int) (ws : List (List Int)) : Int × Int := ws.foldl (totStepR l g) (72,0)
end Go.Rt.Ha
/- Plain laws of the hand layer: Pick, Next and Wrong, as the reference has them. No conditions. -/
namespace Go.Rt.Ha
def noneTo (l : Lot) (ws : List (List Int)) (b g : Nat) : Nat → Bool
  | 0 => !couldR l ws b (-1)
  | k + 1 => noneTo l ws b g k && !couldR l ws b ((g : Int) + 1 + k)
def fitR (l : Lot) (ws : List (List Int)) (g : Nat) : Nat → List Int
  | 0 => []
  | b + 1 => fitR l ws g b ++ if noneTo l ws b g (l.grades.length - (g + 1)) then [(b : Int)] else []
theorem fit_lt (l : Lot) (g : Nat) (ws : List (List Int)) : ∀ k, fitTo l g ws k < 2 ^ k
  | 0 => by simp [fitTo]
  | k + 1 => by
    have ih := fit_lt l g ws k
    simp only [fitTo]
    split
    · rw [Nat.pow_succ]; omega
    · refine Nat.or_lt_two_pow (by rw [Nat.pow_succ]; omega) ?_
      rw [one_shl]; exact Nat.pow_lt_pow_right (by omega) (by omega)
def leastR (ws : List (List Int)) (own : List Int) : Int := ws.foldl (fun s h => min s (someOf h own)) 72
def pickR (l : Lot) (g many : Int) : List Int × Int :=
  if enterE l (pickE l g many) ≠ 0 then ([], enterE l (pickE l g many)) else
  match (setsL (fitR l (ways l 0) g.toNat l.bunches.length)).find? fun own => decide (many ≤ leastR (ways l 0) own) with | some x => (x, 0) | none => ([], 9)
theorem zB4 {l : Lot} {e : Int} (h : enterE l e = 0) : (check l).2.2 = 0 ∧ e = 0 ∧ ways l 0 ≠ [] := by
  unfold enterE at h
  split at h
  · rename_i h1; exact absurd h h1
  · rename_i h1
    split at h
    · rename_i h2; exact absurd h h2
    · rename_i h2
      split at h
      · cases h
      · rename_i h3; exact ⟨by omega, by omega, h3⟩
theorem zF3 {n : Int} {b : Nat} (h : idxE n b = 0) : 0 ≤ n ∧ n < b := by
  unfold idxE at h
  split at h
  · cases h
  · rename_i h1
    unfold out at h1
    simp only [Bool.or_eq_true, decide_eq_true_eq, not_or] at h1
    omega
theorem pickE_zero {l : Lot} {g many : Int} (h : pickE l g many = 0) : 0 ≤ g ∧ g < l.grades.length ∧ 0 ≤ many ∧ many ≤ 72 := by
  unfold pickE at h
  split at h
  · rename_i h1; exact absurd h h1
  · rename_i h1
    have := zF3 (n := g) (b := l.grades.length) (by omega)
    split at h
    · cases h
    · rename_i h2
      unfold out at h2
      simp only [Bool.or_eq_true, decide_eq_true_eq, not_or] at h2
      omega
def soR (but : List Int) (h : List Int) : Nat → List Count → Bool
  | _, [] => true
  | i, c :: l => (hasI but i || decide (counted c.bits.toNat 0 h = c.hands)) && soR but h (i + 1) l
def waysR (l : Lot) (but : List Int) : List (List Int) := (felt l.bunches).filter fun h => soR but h 0 l.counts
theorem list_has (b : Nat) (k : Nat) : ∀ n, k < n → hasI (listL b n) k = decide (bit b k = 1)
  | 0, h => by omega
  | n + 1, h => by
    have hz : ∀ m, ∀ z ∈ listL b m, z < (m : Int) := by
      intro m
      induction m with
      | zero => intro z hz; cases hz
      | succ m ih =>
        intro z hz
        rw [listL, List.mem_append] at hz
        rcases hz with h | h
        · have := ih z h; omega
        · split at h
          · rw [List.mem_singleton] at h; omega
          · cases h
    rw [listL]
    unfold hasI
    rw [List.any_append]
    by_cases e : k = n
    · subst e
      have : (listL b k).any (fun y => decide (y = (k : Int))) = false := by
        rw [List.any_eq_false]
        intro z hz'
        have := hz k z hz'
        simp only [decide_eq_true_eq]; omega
      rw [this, Bool.false_or]
      split
      · rename_i h; simp [h]
      · rename_i h; simp [h]
    · have ih := list_has b k n (by omega)
      unfold hasI at ih
      rw [ih]
      have : (if bit b n = 1 then [(n : Int)] else []).any (fun y => decide (y = (k : Int))) = false := by
        split
        · simp; omega
        · rfl
      rw [this, Bool.or_false]
theorem so_same (b n : Nat) (h : List Int) : ∀ (cs : List Count) (i : Nat), i + cs.length ≤ n → soR (listL b n) h i cs = soFrom b h i cs
  | [], _, _ => rfl
  | c :: cs, i, hi => by
    simp only [List.length_cons] at hi
    rw [soR, soFrom, so_same b n h cs (i + 1) (by omega), list_has b i n (by omega)]
theorem ways_same (l : Lot) (b : Nat) : waysR l (listL b l.counts.length) = ways l b := by
  unfold waysR ways
  congr 1
  funext h
  exact so_same b l.counts.length h l.counts 0 (by omega)
def choicesTo (n : Nat) : Nat → List (List Int)
  | 0 => []
  | k + 1 => choicesTo n k ++ choices n k
def wrongR (l : Lot) : List Int × Int := if (check l).2.2 ≠ 0 then ([], (check l).2.2) else
  match (choicesTo l.counts.length l.counts.length).find? fun x => !(waysR l x).isEmpty with | some x => (x, 0) | none => ((choices l.counts.length l.counts.length).getD 0 [], 0)
end Go.Rt.Ha
/- Plain laws of the hand layer: Hands, Grade, Total, Refused and Next, as the reference has them. No conditions. -/
namespace Go.Rt.Ha
structure SpanF (b : Nat) (ws : List (List Int)) (s : Int × Int) : Prop where
  all : ∀ h ∈ ws, s.1 ≤ at_ h b ∧ at_ h b ≤ s.2
  lo : ∃ h ∈ ws, at_ h b = s.1
  hi : ∃ h ∈ ws, at_ h b = s.2
def handsR (l : Lot) (b : Int) : (Int × Int) × Int := if enterE l (idxE b l.bunches.length) ≠ 0 then ((0,0), enterE l (idxE b l.bunches.length)) else (spanR b.toNat (ways l 0), 0)
def gradeR (l : Lot) (b : Int) : List Int × Int := if enterE l (idxE b l.bunches.length) ≠ 0 then ([], enterE l (idxE b l.bunches.length)) else (gradeTo l (ways l 0) b.toNat (l.grades.length + 1), 0)
def totR (l : Lot) (g : Int) : (Int × Int) × Int := if enterE l (idxE g l.grades.length) ≠ 0 then ((0,0), enterE l (idxE g l.grades.length)) else (totalR l g (ways l 0), 0)
def sureR (l : Lot) (ws : List (List Int)) : Nat → List Int
  | 0 => []
  | k + 1 => sureR l ws k ++ if mustR l ws k (-1) then [(k : Int)] else []
def mayR (l : Lot) (ws : List (List Int)) : Nat → List Int
  | 0 => []
  | k + 1 => mayR l ws k ++ if couldR l ws k (-1) then [(k : Int)] else []
def refusedR (l : Lot) : List Int × List Int × Int := if enterE l 0 ≠ 0 then ([], [], enterE l 0) else (sureR l (ways l 0) l.bunches.length, mayR l (ways l 0) l.bunches.length, 0)
def nextRTo (ws : List (List Int)) : Nat → Int × Int
  | 0 => (-1,0)
  | k + 1 => let s := nextRTo ws k
    if (spanR k ws).1 < (spanR k ws).2 ∧ (s.1 < 0 ∨ leftW k ws < s.2) then ((k : Int), leftW k ws) else s
def nextR (l : Lot) : Int × Int × Int := if enterE l 0 ≠ 0 then (0,0, enterE l 0) else if (nextRTo (ways l 0) l.bunches.length).1 < 0 then (0,0,9) else ((nextRTo (ways l 0) l.bunches.length).1, (nextRTo (ways l 0) l.bunches.length).2,0)
end Go.Rt.Ha
/- Plain laws of the hand layer: Check as the reference has it; a lot that is told by a way. No conditions. -/
namespace Go.Rt.Ha
def bunchR (b : Bunch) : Int := if ends b.lo b.hi 1 12 = 7 ∨ ends b.slo b.shi 0 9 = 7 then 7 else if ends b.lo b.hi 1 12 ≠ 0 ∨ ends b.slo b.shi 0 9 ≠ 0 ∨ 3 < b.hi - b.lo then 2 else 0
theorem zFd (before : List Bunch) (b : Bunch) : bunchR b = bunchE before b := by
  unfold bunchR bunchE ends
  cases h1 : out 1 12 b.lo <;> cases h2 : out 1 12 b.hi <;> cases h3 : out 0 9 b.slo <;> cases h4 : out 0 9 b.shi <;> simp [out] <;> (repeat' split) <;> simp_all <;> omega
def allN : Nat → Int
  | 0 => 0
  | k + 1 => 2 * allN k + 1
theorem allN_eq : ∀ n, allN n = 2 ^ n - 1
  | 0 => by simp [allN]
  | n + 1 => by rw [allN, allN_eq n, Int.pow_succ]; omega
def toldC (h : List Int) (c : Count) : Count := { c with hands := counted c.bits.toNat 0 h }
def told (l : Lot) (h : List Int) : Lot := { l with counts := l.counts.map (toldC h) }
theorem counted_in (bits : Nat) : ∀ (h : List Int) (i : Nat), (∀ z ∈ h, 0 ≤ z ∧ z ≤ 12) → 0 ≤ counted bits i h ∧ counted bits i h ≤ 12 * h.length
  | [], _, _ => by simp [counted]
  | z :: h, i, hz => by
    have ih := counted_in bits h (i + 1) fun y hy => hz y (.tail _ hy)
    have := hz z (.head _)
    simp only [counted, List.length_cons]
    split <;> omega
theorem zKo {l : Lot} (hok : l.Ok) {h : List Int} (hf : h ∈ felt l.bunches) : h.length = l.bunches.length ∧ ∀ z ∈ h, 1 ≤ z ∧ z ≤ 12 := by
  have h1 := (zJn _ _).1 hf
  refine ⟨h1.1, fun z hz => ?_⟩
  obtain ⟨i, hi, rfl⟩ := List.getElem_of_mem hz
  have h2 := h1.2 i (by omega)
  have h3 := hok.bunch _ (List.getElem_mem (show i < l.bunches.length by omega))
  have e : at_ h i = h[i] := by unfold at_; simp [List.getD, hi]
  rw [e] at h2
  omega
end Go.Rt.Ha
/- Plain words of the hand layer: all ways, as they are yielded one after the other, filled up to six numbers. No conditions. -/
namespace Go.Rt.Ha
def pad6 (h : List Int) : List Int := h ++ List.replicate (6 - h.length) 0
theorem pad6_len {h : List Int} (hl : h.length ≤ 6) : (pad6 h).length = 6 := by simp [pad6]; omega
theorem pad6_inj {a b : List Int} (h : a.length = b.length) (e : pad6 a = pad6 b) : a = b := by
  unfold pad6 at e
  exact (List.append_inj e h).1
theorem zG1 (bits : Nat) (x : Int) : ∀ (l : List Int) (i : Nat), counted bits i (l ++ [x]) = counted bits i l + if bit bits (i + l.length) = 1 then x else 0
  | [], i => by simp [counted]
  | y :: l, i => by
    simp only [List.cons_append, counted, zG1 bits x l (i + 1), List.length_cons]
    rw [show i + 1 + l.length = i + (l.length + 1) by omega]; omega
theorem counted_pad (bits : Nat) (l : List Int) (i : Nat) : ∀ k, counted bits i (l ++ List.replicate k 0) = counted bits i l
  | 0 => by simp
  | k + 1 => by
    rw [List.replicate_succ', ← List.append_assoc, zG1, counted_pad bits l i k]; simp
theorem so_pad (but : Nat) (h : List Int) : ∀ (cs : List Count) (i : Nat), soFrom but (pad6 h) i cs = soFrom but h i cs
  | [], i => rfl
  | c :: cs, i => by simp only [soFrom, so_pad but h cs (i + 1)]; unfold pad6; rw [counted_pad]
theorem zG0 {bits : Nat} {h : List Int} {b : Nat} (hb : b < h.length) : counted bits 0 (h.take (b + 1)) = counted bits 0 (h.take b) + h[b] * ((bit bits b : Nat) : Int) := by
  rw [List.take_succ_eq_append_getElem hb, zG1]
  rw [List.length_take, Nat.min_eq_left (by omega), Nat.zero_add]
  have : bit bits b = 0 ∨ bit bits b = 1 := by unfold bit; have := Nat.and_lt_two_pow (x := bits >>> b) (y := 1) (n := 1) (by omega); omega
  rcases this with h | h <;> simp [h]
theorem zIr {bits : Nat} {h : List Int} (hh : ∀ z ∈ h, 0 ≤ z ∧ z ≤ 12) (b : Nat) (hl : h.length ≤ 6) : 0 ≤ counted bits 0 (h.take b) ∧ counted bits 0 (h.take b) ≤ 72 := by
  have := counted_in bits (h.take b) 0 (fun z hz => hh z (List.mem_of_mem_take hz))
  have h2 : (h.take b).length ≤ 6 := by rw [List.length_take]; omega
  omega
theorem so_no {but : Nat} {h : List Int} {cs : List Count} {i : Nat} (hi : i < cs.length) (hb : bit but i = 0) (hc : counted cs[i].bits.toNat 0 h ≠ cs[i].hands) : soFrom but h i (cs.drop i) = false := by
  rw [List.drop_eq_getElem_cons hi]; simp only [soFrom]; simp [hb, hc]
theorem so_yes {but : Nat} {h : List Int} {cs : List Count} {i : Nat} (hi : i < cs.length) (hc : bit but i = 1 ∨ counted cs[i].bits.toNat 0 h = cs[i].hands) : soFrom but h i (cs.drop i) = soFrom but h (i + 1) (cs.drop (i + 1)) := by
  rw [List.drop_eq_getElem_cons hi]; simp only [soFrom]
  rcases hc with h | h <;> simp [h]
theorem so_end {but : Nat} {h : List Int} {cs : List Count} {i : Nat} (hi : cs.length ≤ i) : soFrom but h i (cs.drop i) = true := by rw [List.drop_of_length_le hi]; rfl
theorem bit01 (b j : Nat) : bit b j = 0 ∨ bit b j = 1 := by unfold bit; have := Nat.and_lt_two_pow (x := b >>> j) (y := 1) (n := 1) (by omega); omega
def segW (l : Lot) (but d : Nat) (pre : List Int) : List (List Int) := (((felt (l.bunches.drop d)).map (pre ++ ·)).filter fun h => soFrom but h 0 l.counts).map pad6
theorem seg_all (l : Lot) (but : Nat) : segW l but 0 [] = (ways l but).map pad6 := by simp [segW, ways]
theorem seg_leaf {l : Lot} {but d : Nat} {pre : List Int} (hd : l.bunches.length ≤ d) : segW l but d pre = if soFrom but pre 0 l.counts then [pad6 pre] else [] := by
  unfold segW; rw [List.drop_of_length_le hd]; simp only [felt, List.map_cons, List.append_nil, List.map_nil, List.filter_cons, List.filter_nil]; split <;> rfl
def restW (l : Lot) (but d : Nat) (pre : List Int) (xs : List Int) : List (List Int) := xs.flatMap fun x => segW l but (d + 1) (pre ++ [x])
theorem seg_node {l : Lot} {but d : Nat} {pre : List Int} (hd : d < l.bunches.length) : segW l but d pre = restW l but d pre (spanL l.bunches[d].lo l.bunches[d].hi) := by
  unfold segW restW
  rw [List.drop_eq_getElem_cons hd]
  simp only [felt, List.map_flatMap, List.filter_flatMap, List.map_map]
  congr 1; funext x
  unfold segW
  congr 3; funext h; simp
theorem rest_cons (l : Lot) (but d : Nat) (pre : List Int) (x : Int) (xs : List Int) : restW l but d pre (x :: xs) = segW l but (d + 1) (pre ++ [x]) ++ restW l but d pre xs := rfl
theorem upto_step {lo : Int} {k n : Nat} (h : k < n) : upto (lo + k) (n - k) = (lo + k) :: upto (lo + (k + 1 : Nat)) (n - (k + 1)) := by
  rw [show n - k = (n - (k + 1)) + 1 by omega, upto, show lo + (k : Int) + 1 = lo + (k + 1 : Nat) by omega]
theorem upto_nodup : ∀ (n : Nat) (lo : Int), (upto lo n).Nodup
  | 0, _ => by simp [upto]
  | n + 1, lo => by
    simp only [upto, List.nodup_cons]
    exact ⟨fun h => by have := (upto_mem n (lo + 1) lo).1 h; omega, upto_nodup n (lo + 1)⟩
theorem felt_nodup : ∀ bs : List Bunch, (felt bs).Nodup
  | [] => by simp [felt]
  | b :: bs => by
    have ih := felt_nodup bs
    have key : ∀ xs : List Int, xs.Nodup → (xs.flatMap fun n => (felt bs).map (n :: ·)).Nodup := by
      intro xs
      induction xs with
      | nil => intro _; simp
      | cons x xs ihx =>
        intro hn
        rw [List.nodup_cons] at hn
        rw [List.flatMap_cons, List.nodup_append]
        refine ⟨by unfold List.Nodup; rw [List.pairwise_map]; exact List.Pairwise.imp (fun h e => h (by simpa using e)) ih, ihx hn.2, ?_⟩
        intro a ha b hb hab
        obtain ⟨u, _, rfl⟩ := List.mem_map.1 ha
        obtain ⟨y, hy, hb⟩ := List.mem_flatMap.1 hb
        obtain ⟨v, _, rfl⟩ := List.mem_map.1 hb
        injection hab with h1 h2
        subst h1
        exact hn.1 hy
    exact key _ (upto_nodup _ _)
theorem ways_nodup (l : Lot) (but : Nat) : (ways l but).Nodup := (felt_nodup _).filter _
theorem way_len {l : Lot} {but : Nat} {h : List Int} (hw : h ∈ ways l but) : h.length = l.bunches.length := ((zJn _ _).1 (zH3 hw)).1
theorem padw_nodup (l : Lot) (but : Nat) : ((ways l but).map pad6).Nodup := by
  have key : ∀ ws : List (List Int), (∀ h ∈ ws, h.length = l.bunches.length) → ws.Nodup → (ws.map pad6).Nodup := by
    intro ws
    induction ws with
    | nil => intro _ _; simp
    | cons x ws ih =>
      intro hl hn
      rw [List.nodup_cons] at hn
      rw [List.map_cons, List.nodup_cons]
      refine ⟨fun h => ?_, ih (fun h hh => hl h (.tail _ hh)) hn.2⟩
      obtain ⟨y, hy, he⟩ := List.mem_map.1 h
      have := pad6_inj ((hl y (.tail _ hy)).trans (hl x (.head _)).symm) he
      subst this
      exact hn.1 hy
  exact key _ (fun h hh => way_len hh) (ways_nodup l but)
theorem zG9 {l : Lot} (hok : l.Ok) {but : Nat} {h : List Int} (hw : h ∈ (ways l but).map pad6) : h.length = 6 ∧ ∀ z ∈ h, 0 ≤ z ∧ z ≤ 12 := by
  obtain ⟨x, hx, rfl⟩ := List.mem_map.1 hw
  have hl := way_len hx
  have h6 := hok.lb
  refine ⟨pad6_len (by omega), fun z hz => ?_⟩
  unfold pad6 at hz
  rcases List.mem_append.1 hz with h | h
  · have := (zKo hok (zH3 hx)).2 z h; omega
  · have := (List.mem_replicate.1 h).2; omega
theorem zHr (h : List Int) (b : Nat) : (pad6 h).getD b 0 = at_ h b := by
  unfold pad6 at_
  by_cases hb : b < h.length
  · simp [List.getD, List.getElem?_append_left hb]
  · simp only [List.getD, List.getElem?_append_right (by omega : h.length ≤ b), List.getElem?_replicate]
    rw [List.getElem?_eq_none (by omega : h.length ≤ b)]
    split <;> rfl
theorem zero_notin {l : Lot} (hok : l.Ok) {but : Nat} (hn : 0 < l.bunches.length) : List.replicate 6 (0 : Int) ∉ (ways l but).map pad6 := by
  intro h
  obtain ⟨x, hx, he⟩ := List.mem_map.1 h
  have h1 := zHr x 0
  rw [he] at h1
  have h2 := way_at hok hx hn
  rw [← h1] at h2
  simp at h2
theorem zDm {α : Type} {l : List α} {i : Nat} {x : α} {r : List α} (h : l.drop i = x :: r) : i < l.length := by
  rcases Nat.lt_or_ge i l.length with h1 | h1
  · exact h1
  · rw [List.drop_of_length_le h1] at h; cases h
theorem zKp {α : Type} {l : List α} {i : Nat} {x : α} {r : List α} (h : l.drop i = x :: r) : l[i]'(zDm h) = x := by
  rw [List.drop_eq_getElem_cons (zDm h)] at h
  injection h
theorem zDj {α : Type} {l : List α} {i : Nat} {x : α} {r : List α} (h : l.drop i = x :: r) : l.drop (i + 1) = r := by
  rw [List.drop_eq_getElem_cons (zDm h)] at h
  injection h
theorem drop_done {α : Type} {l : List α} {i : Nat} (hi : i ≤ l.length) (h : l.drop i = []) : i = l.length := by
  have := congrArg List.length h; simp at this; omega
theorem zC3 {α : Type} {l : List α} {i : Nat} {x : α} {r : List α} (hn : l.Nodup) (h : l.drop i = x :: r) : x ∉ r := by
  have h1 : (l.drop i).Nodup := List.Sublist.nodup (List.drop_sublist _ _) hn
  rw [h, List.nodup_cons] at h1; exact h1.1
theorem cur_pad {cur pre : List Int} {d : Nat} (hl : cur.length = 6) (hp : pre.length = d) (hk : cur.take d = pre) (hz : ∀ j, d ≤ j → cur.getD j 0 = 0) : cur = pad6 pre := by
  apply List.ext_getElem?
  intro j
  unfold pad6
  subst hk
  have hpl : (cur.take d).length ≤ 6 := by simp; omega
  by_cases hj : j < d
  · by_cases h6 : j < 6
    · rw [List.getElem?_append_left (by simp; omega), List.getElem?_take, if_pos hj]
    · rw [List.getElem?_eq_none (by omega), List.getElem?_eq_none (by simp; omega)]
  · by_cases h6 : j < 6
    · rw [List.getElem?_append_right (by simp; omega), List.getElem?_replicate, if_pos (by simp at *; omega)]
      have := hz j (by omega)
      simpa [List.getD, show j < cur.length by omega] using this
    · rw [List.getElem?_eq_none (by omega), List.getElem?_eq_none (by simp; omega)]
theorem set_take {cur pre : List Int} {d : Nat} {x : Int} (hk : cur.take d = pre) (hd : d < cur.length) : (cur.set d x).take (d + 1) = pre ++ [x] := by
  rw [List.take_succ_eq_append_getElem (by simpa using hd), List.take_set_of_le (Nat.le_refl _), hk]; simp
theorem set_zero {cur : List Int} {d n : Nat} {x : Int} (hd : d < n) (hz : ∀ j, n ≤ j → cur.getD j 0 = 0) : ∀ j, n ≤ j → (cur.set d x).getD j 0 = 0 := by
  intro j hj
  have := hz j hj
  simp only [List.getD, List.getElem?_set_ne (show d ≠ j by omega)] at this ⊢; exact this
theorem zD6 {cur pre : List Int} {d : Nat} {x : Int} (hk : cur.take (d + 1) = pre ++ [x]) (hp : pre.length = d) : cur.take d = pre := by
  have h := congrArg (List.take d) hk
  rw [List.take_take, Nat.min_eq_left (by omega)] at h
  rw [h, ← hp]; simp
end Go.Rt.Ha
/- The walking engine, part 12: ranges over functions that keep something of their own. No conditions. -/
namespace Go.Rt
open Go.RowKit
variable {r : Option Nat} {P : Program} {ops : Array Oper} {Q : Exit → Act → World → Prop} {rest : List Oper} {n : Nat} {ρ : Nat → Value} {ds : List Deferred} {w w0 : World} {L : List (Nat × Obj)}
def IterC (P : Program) (k : FuncId) (first captured : List Value) (xs : List Value) (w0 : World) (F : List (Nat × Obj)) (C : (Nat → List (Nat × Obj) → Prop) → (List (Nat × Obj) → Prop) → Prop) : Prop :=
  ∀ (J : Nat → List (Nat × Obj) → Prop) (Js : List (Nat × Obj) → Prop), C J Js → ∀ (yv : Value) (B X : List (Nat × Obj)) (w : World), (∃ f a b, yv = .func f a b) →
    (∀ i (hi : i < xs.length) B X w, J i B → St w0 w (X ++ (B ++ F)) → FCon P yv [xs[i]] w fun v w' => ∃ B', St w0 w' (X ++ (B' ++ F)) ∧ (v = .bool true ∧ J (i + 1) B' ∨ v = .bool false ∧ Js B')) →
    J 0 B → St w0 w (X ++ (B ++ F)) →
    Con P k (first ++ ([yv] ++ captured)) w fun _ w' => ∃ B', St w0 w' (X ++ (B' ++ F)) ∧ (J xs.length B' ∨ Js B')
def ClsM (K : List (Nat × Obj) → Prop) (J : Nat → List (Nat × Obj) → Prop) (Js : List (Nat × Obj) → Prop) : Prop :=
  ∃ (J0 : Nat → List (Nat × Obj) → Prop) (Js0 : List (Nat × Obj) → Prop), (∀ i Bx, J i Bx ↔ ∃ B M, Bx = B ++ M ∧ K M ∧ J0 i B) ∧ ∀ Bx, Js Bx ↔ ∃ B M, Bx = B ++ M ∧ K M ∧ Js0 B
theorem clsM_range {K : List (Nat × Obj) → Prop} {J : Nat → List (Nat × Obj) → Prop} {Js : Code → List (Nat × Obj) → Prop} (J0 : Nat → List (Nat × Obj) → Prop) (Js0 : Code → List (Nat × Obj) → Prop) (h1 : ∀ i Bx, J i Bx ↔ ∃ B M, Bx = B ++ M ∧ K M ∧ J0 i B) (h2 : ∀ c Bx, Js c Bx ↔ ∃ B M, Bx = B ++ M ∧ K M ∧ Js0 c B) (a b : Nat × Obj) (cc : Code → Nat × Obj) :
    ClsM K (fun i Bx => ∃ B, Bx = a :: b :: B ∧ J i B) (fun Bx => ∃ B c, Bx = cc c :: b :: B ∧ Js c B) := by
  refine ⟨fun i B => ∃ B0, B = a :: b :: B0 ∧ J0 i B0, fun B => ∃ B0 c, B = cc c :: b :: B0 ∧ Js0 c B0, fun i Bx => ⟨?_, ?_⟩, fun Bx => ⟨?_, ?_⟩⟩
  · rintro ⟨B, rfl, hJ⟩
    obtain ⟨B0, M, rfl, hK, h⟩ := (h1 i B).1 hJ
    exact ⟨a :: b :: B0, M, rfl, hK, B0, rfl, h⟩
  · rintro ⟨B, M, rfl, hK, B0, rfl, h⟩
    exact ⟨B0 ++ M, rfl, (h1 i _).2 ⟨B0, M, rfl, hK, h⟩⟩
  · rintro ⟨B, c, rfl, hJ⟩
    obtain ⟨B0, M, rfl, hK, h⟩ := (h2 c B).1 hJ
    exact ⟨cc c :: b :: B0, M, rfl, hK, B0, c, rfl, h⟩
  · rintro ⟨B, M, rfl, hK, B0, c, rfl, h⟩
    exact ⟨B0 ++ M, c, rfl, (h2 c _).2 ⟨B0, M, rfl, hK, h⟩⟩
theorem st_in {P X B R : List (Nat × Obj)} (h : St w0 w (P ++ (X ++ (B ++ R)))) : St w0 w ((P ++ (X ++ B)) ++ R) := by simpa only [List.append_assoc] using h
theorem st_out {P X B R : List (Nat × Obj)} (h : St w0 w ((P ++ (X ++ B)) ++ R)) : St w0 w (P ++ (X ++ (B ++ R))) := by simpa only [List.append_assoc] using h
theorem w_rangeC {C : (Nat → List (Nat × Obj) → Prop) → (List (Nat × Obj) → Prop) → Prop} {g : Operand} {pt : Nat} {assign body : Code} {k : FuncId} {first captured : Array Value} {xs : List Value} {F : List (Nat × Obj)} (B : List (Nat × Obj)) (J : Nat → List (Nat × Obj) → Prop) (Js : Code → List (Nat × Obj) → Prop)
    (hog : okO n g = true) (hg : ev ρ g = .func (.func k) first captured) (hpt : Nat.blt pt n = true) (hC : CF P k) (hit : IterC P k first.toList captured.toList xs w0 F C) (hcls : ∀ (a b : Nat × Obj) (cc : Code → Nat × Obj), C (fun i Bx => ∃ B, Bx = a :: b :: B ∧ J i B) (fun Bx => ∃ B c, Bx = cc c :: b :: B ∧ Js c B)) (hst : St w0 w L) (hperm : L.Perm (B ++ F)) (h0 : J 0 B)
    (round : ∀ l i (hi : i < xs.length) B X X' w, J i B → St w0 w (B ++ (X ++ F)) → ∀ K : Act → World → Prop,
      (∀ a w Y, St w0 w (Y ++ (X ++ F)) → (∀ w', St w0 w' (Y ++ (X' ++ F)) → WC (some l) P body (Rd w0 J Js i (X' ++ F)) a w') → K a w) →
      WC (some l) P assign (Exit.then K fun _ _ _ => False) (A n (upd ρ pt xs[i]) []) w)
    (hend : ∀ bd B w, J xs.length B → St w0 w ((bd, .deferred (some [])) :: (B ++ F)) → Q .normal (A n ρ (mk bd :: ds)) w)
    (hjump : ∀ bd c B w, Js c B → St w0 w ((bd, .deferred (some [])) :: (B ++ F)) → WC none P c Q (A n ρ (mk bd :: ds)) w) :
    WC none P (.rangeFunc g #[pt] assign body) Q (A n ρ ds) w := by
  refine wpIn_rangeFunc (F := FW none) fun fn _ => ?_
  have henter := run_enterLoop_outer (P := P) (w := w) fn (A n ρ ds).tmps #[pt] assign body
  let bd := w.heap.size
  let l := w.heap.size + 1
  let rc (s : LoopState) (pend : Option Code) : Obj := .loop { state := s, pending := pend, fn := fn, tmps := fa n ρ, params := #[pt], assign := assign, body := body, defers := bd }
  let w1 : World := (w.alloc (.deferred (some []))).alloc (rc .ready none)
  have hst1 : St w0 w1 ((l, rc .ready none) :: (bd, .deferred (some [])) :: L) := by
    have h1 := (hst.alloc (.deferred (some []))).alloc (rc .ready none)
    rw [World.size_alloc] at h1
    exact h1
  refine ⟨l, [mk bd], w1, { target := .fn (.func k) captured, args := first ++ #[.func (.yield l) #[] #[]] }, w1, k, first ++ #[.func (.yield l) #[] #[]] ++ captured, w1, henter, ?_, fun _ _ => trivial, ?_, fun h => (by simp at h), ?_⟩
  · have e1 : (#[Operand.const (Value.func (Fn.yield l) #[] #[])].map (A n ρ ds).eval) = #[Value.func (Fn.yield l) #[] #[]] := by simp [Act.eval]
    simp only [resolve, rangeCall, zB3 hog, hg, Deferred.ofValue, e1]
    rfl
  · exact hC (first ++ #[Value.func (Fn.yield l) #[] #[]] ++ captured) w1
  · have hperm1 : ((l, rc .ready none) :: (bd, .deferred (some [])) :: L).Perm ([] ++ (((l, rc .ready none) :: (bd, .deferred (some [])) :: B) ++ F)) := (List.Perm.cons _ (List.Perm.cons _ hperm))
    have hI := hit (fun i Bx => ∃ B, Bx = (l, rc .ready none) :: (bd, .deferred (some [])) :: B ∧ J i B) (fun Bx => ∃ B c, Bx = (l, rc .done (some c)) :: (bd, .deferred (some [])) :: B ∧ Js c B) (hcls (l, rc .ready none) (bd, .deferred (some [])) (fun c => (l, rc .done (some c)))) (.func (.yield l) #[] #[])
      ((l, rc .ready none) :: (bd, .deferred (some [])) :: B) [] w1 ⟨_, _,_, rfl⟩ ?_ ⟨B, rfl, h0⟩ (hst1.perm hperm1)
    · have hargs : (first ++ #[Value.func (Fn.yield l) #[] #[]] ++ captured) = (first.toList ++ ([Value.func (Fn.yield l) #[] #[]] ++ captured.toList)).toArray := by
        apply Array.ext'; simp
      rw [hargs]
      refine CallsIn.mono hI ?_
      rintro e w' ⟨v, rfl, B', hst', hB⟩
      rcases hB with ⟨B, rfl, hB⟩ | ⟨B, c, rfl, hB⟩
      · have hg' := hst'.get (i := 0) rfl
        refine ⟨none, _, run_endLoop hg' (by simp), ?_⟩
        exact hend bd B _ hB (hst'.putObj (i := 0) rfl _).tail
      · have hg' := hst'.get (i := 0) rfl
        refine ⟨some c, _, run_endLoop hg' (by simp), ?_⟩
        exact hjump bd c B _ hB (hst'.putObj (i := 0) rfl _).tail
    · rintro i hi Bx X w2 ⟨B, rfl, hB⟩ hst2
      have hp : (X ++ (((l, rc .ready none) :: (bd, .deferred (some [])) :: B) ++ F)).Perm ((l, rc .ready none) :: (bd, .deferred (some [])) :: (X ++ (B ++ F))) := zBc X [(l, rc .ready none), (bd, .deferred (some []))] (B ++ F)
      have hst3 := hst2.perm hp
      have hg' := hst3.get (i := 0) rfl
      refine .inr ⟨l, fn, fa n (upd ρ pt xs[i]), assign, body, rfl, ?_, ?_⟩
      · rw [run_yield hg' rfl]
        simp [rc, fa_put]
      · refine roundIn_of_wpIn (F := FW none) trivial ?_
        have hp2 : ((l, rc .ready none) :: (bd, .deferred (some [])) :: (X ++ (B ++ F))).Perm (B ++ (((l, rc .ready none) :: (bd, .deferred (some [])) :: X) ++ F)) :=
          zBc ((l, rc .ready none) :: (bd, .deferred (some [])) :: X) B F
        refine round l i hi B ((l, rc .ready none) :: (bd, .deferred (some [])) :: X) ((l, rc .busy none) :: (bd, .deferred (some [])) :: X) w2 hB (hst3.perm hp2) _ ?_
        intro a w3 Y hst4 hbody
        have hp3 : (Y ++ (((l, rc .ready none) :: (bd, .deferred (some [])) :: X) ++ F)).Perm ((l, rc .ready none) :: (Y ++ (((bd, .deferred (some [])) :: X) ++ F))) := zBc Y [(l, rc .ready none)] _
        have hst5 := hst4.perm hp3
        have hg5 := hst5.get (i := 0) rfl
        refine ⟨_, run_beginRound hg5 rfl, ?_⟩
        have hst6 := hst5.putObj (i := 0) rfl (rc .busy none)
        have hp4 : ((l, rc .busy none) :: (Y ++ (((bd, .deferred (some [])) :: X) ++ F))).Perm (Y ++ (((l, rc .busy none) :: (bd, .deferred (some [])) :: X) ++ F)) := (zBc Y [(l, rc .busy none)] _).symm
        refine w_mono (hbody _ (hst6.perm hp4)) ?_
        have back : ∀ (B' : List (Nat × Obj)) (w : World) (s : LoopState) (pend : Option Code), St w0 w (B' ++ (((l, rc .busy none) :: (bd, .deferred (some [])) :: X) ++ F)) → w.heap[l]? = some (rc .busy none) ∧
            St w0 (w.putObj l (rc s pend)) (X ++ (((l, rc s pend) :: (bd, .deferred (some [])) :: B') ++ F)) := by
          intro B' w s pend h
          have h1 := h.perm (zBc B' [(l, rc .busy none)] (((bd, .deferred (some [])) :: X) ++ F))
          refine ⟨h1.get (i := 0) rfl, ?_⟩
          have h2 := h1.putObj (i := 0) rfl (rc s pend)
          refine h2.perm ?_
          show ((l, rc s pend) :: (B' ++ (((bd, .deferred (some [])) :: X) ++ F))).Perm _
          refine (List.Perm.cons _ (zBc B' [(bd, .deferred (some []))] (X ++ F))).trans ?_
          refine (List.Perm.cons _ (List.Perm.cons _ (zBc B' X F))).trans ?_
          exact (zBc X [(l, rc s pend), (bd, .deferred (some []))] (B' ++ F)).symm
        intro e a' w' hq
        cases e with
        | normal =>
          obtain ⟨B', hs, hJ⟩ := hq
          obtain ⟨hb1, hb2⟩ := back B' w' .ready none hs
          exact ⟨_, _, run_endRound none hb1, _, rfl, _, hb2, .inl ⟨rfl, B', rfl, hJ⟩⟩
        | ret =>
          obtain ⟨B', hs, hJ⟩ := hq
          obtain ⟨hb1, hb2⟩ := back B' w' .done (some .ret) hs
          exact ⟨_, _, run_endRound (some .ret) hb1, _, rfl, _, hb2, .inr ⟨rfl, B', _, rfl, hJ⟩⟩
        | exit id =>
          obtain ⟨B', hs, hJ⟩ := hq
          obtain ⟨hb1, hb2⟩ := back B' w' .done (some (.exit id)) hs
          exact ⟨_, _, run_endRound (some (.exit id)) hb1, _, rfl, _, hb2, .inr ⟨rfl, B', _, rfl, hJ⟩⟩
        | goto t => exact hq.elim
        | panic c => exact hq.elim
        | outgrown => exact hq.elim

end Go.Rt
set_option maxRecDepth 20000
namespace Go.Proofs.Hn
open Go.Proofs.Tryz
open Go.Rt Go.Rt.Ha
attribute [local irreducible] WL WC Con Yd At Ats Sl Agree DW
theorem Try_HE_fb0 (x0 : Option Addr) (l0 c0 : Nat) (x1 : Option Addr) (l1 c1 : Nat) (x2 : Option Addr) (l2 c2 : Nat) (x3 : Int) (x4 : Option Nat) (w : World) : (Instr.build 142 [(0, .agg #[.slice x0 l0 c0, .slice x1 l1 c1, .slice x2 l2 c2]),(1, .int .i64 x3),(2, .map x4)].toArray).run Tryz.prog w = .ok (.agg #[.slice x0 l0 c0, .slice x1 l1 c1, .slice x2 l2 c2, .int .i64 x3, .map x4]) w := by kernel_rfl
structure LK (w0 : World) (F : List (Nat × Obj)) (l : Lot) (p : At3) (but lb mm : Nat) : Prop where
  i : LIn w0 F l p
  b : Ats w0 F lb 0 [.slice p.ag l.grades.length p.cg, .slice p.ab l.bunches.length p.cb, .slice p.ac l.counts.length p.cc, .int .i64 (but : Int), .map (some mm)]
  ok : l.Ok
  bt : but < 1000
theorem LK.mono {w0 : World} {F F' : List (Nat × Obj)} {l : Lot} {p : At3} {but lb mm : Nat} (h : LK w0 F l p but lb mm) (hs : ∀ w, St w0 w F' → St w0 w F) : LK w0 F' l p but lb mm := ⟨h.i.mono hs, h.b.mono hs, h.ok, h.bt⟩
theorem LK.cons {w0 : World} {F : List (Nat × Obj)} {x : Nat × Obj} {l : Lot} {p : At3} {but lb mm : Nat} (h : LK w0 F l p but lb mm) : LK w0 (x :: F) l p but lb mm := h.mono fun _ h => h.tail
theorem LK.app {w0 : World} {F B : List (Nat × Obj)} {l : Lot} {p : At3} {but lb mm : Nat} (h : LK w0 F l p but lb mm) : LK w0 (B ++ F) l p but lb mm := h.mono fun _ h => h.drop
theorem counted_takeD {bits : Nat} {h : List Int} {b : Nat} (hb : b < h.length) : counted bits 0 (h.take (b + 1)) = counted bits 0 (h.take b) + h.getD b 0 * ((bit bits b : Nat) : Int) := by
  rw [zG0 hb]; simp [List.getD, hb]
theorem mul_bit {a : Int} (bits b : Nat) (h0 : 0 ≤ a) (h1 : a ≤ 12) : 0 ≤ a * ((bit bits b : Nat) : Int) ∧ a * ((bit bits b : Nat) : Int) ≤ 12 := by
  rcases bit01 bits b with h | h <;> rw [h] <;> simp <;> omega
theorem getD_12 {h : List Int} (hh : ∀ z ∈ h, 0 ≤ z ∧ z ≤ 12) (b : Nat) : 0 ≤ h.getD b 0 ∧ h.getD b 0 ≤ 12 := by
  by_cases hb : b < h.length
  · simp only [List.getD, List.getElem?_eq_getElem hb, Option.getD_some]; exact hh _ (List.getElem_mem hb)
  · simp [List.getD, List.getElem?_eq_none (by omega : h.length ≤ b)]
theorem pow64 {n : Nat} (h : n ≤ 6) : (2:Int) ^ n ≤ 64 := by
  match n, h with
  | 0, _ => decide
  | 1, _ => decide
  | 2, _ => decide
  | 3, _ => decide
  | 4, _ => decide
  | 5, _ => decide
  | 6, _ => decide
theorem iv1 {a b : Int} (h : a = b) : [Value.int .i64 a] = [Value.int .i64 b] := by rw [h]
theorem iv2 {a b c d : Int} (h : a = b) (h2 : c = d) : [Value.int .i64 a, Value.int .i64 c] = [Value.int .i64 b, Value.int .i64 d] := by rw [h, h2]
theorem c76 {w0 w : World} {F : List (Nat × Obj)} (l : Lot) (p : At3) (but lb mm : Nat) (hk : LK w0 F l p but lb mm) (h : List Int) (h6 : h.length = 6) (hh : ∀ z ∈ h, 0 ≤ z ∧ z ≤ 12) (hs : St w0 w F) :
  Con Tryz.prog 76 [.pointer (some ⟨lb, 0, none⟩), ia h] w fun v w' => v = .bool (soFrom but h 0 l.counts) ∧ St w0 w' F := by
  refine zAt (n := 51) func76 rfl rfl (zNl rfl) ?_
  obtain ⟨ag, cg, ab, cb, ac, cc⟩ := p
  have hb := hk.b
  have hbt := hk.bt
  have hlg := hk.ok.lg
  have hlb := hk.ok.lb
  have hlc := hk.ok.lc
  refine zAe (fun K2 gb => (zAa (w_boxI (l := _) zAc rfl rfl rfl hs (fun b3 w4 g6 => ?_))))
  refine zA5 rfl rfl (zAd (zAb (gb _ _ (zAe (fun K7 gc => (zAe (fun K9 gd => (zAa (w_p (zAi (v := .pointer _) rfl rfl) rfl (w_p (zBy rfl rfl) rfl ?_))))))))))
  refine w_p (zAf (o := 0) (i := 0) underlying142 rfl sizeOf26 rfl rfl rfl) rfl (w_p (zAf (o := 2) (i := 2) underlying26 rfl sizeOf24 rfl rfl rfl) rfl (w_p (zAj isAgg24 g6.tail rfl rfl (show Ats _ _ _ _ [_] from Ats.part hb 2 1)) rfl (w_p (zA8 underlying24 rfl rfl) rfl ?_)))
  refine w_p (zAi (v := _) rfl rfl) rfl (zAd (zAb (gd _ _ (zAw ?_))))
  refine zBs [4,5,6,7,8,9,16,17,18,19,20,21,22,23,24,25,26,27,28,29,30,31,32,33,34,35,36,37,38,39,40,41,42,43,44,45,46,47,48,49,50] [16] (fun k vs w => ∃ (i : Nat), vs = [.int .i64 i] ∧ i ≤ l.counts.length ∧ k = l.counts.length - i ∧ soFrom but h 0 l.counts = soFrom but h i (l.counts.drop i) ∧ St w0 w ((b3, blk 101 (iv h)) :: F)) (l.counts.length) ?_ ?_
  ·
   exact ⟨0, rfl, by omega, by omega, rfl, g6⟩
  intro k vs μ gy hI gz g7
  obtain ⟨i, rfl, hia, rfl, hinv, hs⟩ := hI
  refine zAe (fun gA gf => (zAa (w_p (zBw rfl rfl rfl rfl) rfl (zAd (zAb (gf _ _ (zAe (fun gB gg => (zAu rfl rfl (fun g0 => ?_) (fun g0 => ?_))))))))))
  ·
   try simp only [zS] at g0
   refine zAs (zAb (gg _ _ (zAe (fun gC g8 => (zAw ?_)))))
   refine zAe (fun gE gh => ?_)
   have hi2 : i < l.counts.length := by omega
   obtain ⟨bx, ox, hbx, hx⟩ := zKh hk.i.c hi2
   subst hbx
   have hcx := hk.ok.count _ (List.getElem_mem hi2)
   have hp63 := pow64 hlb
   have hb01 := bit01 but i
   refine zAa (zAz rfl rfl (w_p (zA3 underlying24 sizeOf67 rfl rfl rfl rfl (i := _) rfl (by omega)) rfl (w_p (zA4 (vs := [_,_]) isAgg67 sizeOf67 hs.tail rfl rfl hx) rfl (zBf (cs := [_,_]) zAc zeroValue67 rfl hs (fun gi gF gj => ?_)))))
   refine zBe rfl rfl (zA6 (i := 0) (v := .agg #[.int _ _, .int _ _]) (vs := [_,_]) zAc sizeOf67 rfl rfl rfl rfl rfl (by simp [Value.oneCell']) gj rfl (zNl rfl) (fun gG g9 => ?_))
   refine zAd (zAb (gh _ _ (zAe (fun gH gk => (zAa (zA5 rfl rfl (zAd (zAb (gk _ _ (zAe (fun gI gm => (zAe (fun gJ gn => (zAa (w_p (zCz (i := 1) isAgg101 sizeOf101 (by first | omega | rfl | (simp only [h6, zL] <;> omega)) g9 rfl rfl rfl) rfl ?_)))))))))))))))
   refine w_p (zAi (v := _) rfl rfl) rfl (zAd (zAb (gn _ _ (zAw ?_))))
   refine zBs [7,8,9,22,23,24,25,26,27,28,29,30,31,32,33,34,35] [7,22] (fun k vs w => ∃ (b : Nat), vs = [.int .i64 (counted (l.counts[i]'hi2).bits.toNat 0 (h.take b)), .int .i64 b] ∧ b ≤ 6 ∧ k = 6 - b ∧ St w0 w ((gi, blk 67 (Count.cells (l.counts[i]'hi2))) :: (b3, blk 101 (iv h)) :: F)) (6) ?_ ?_
   ·
    exact ⟨0, rfl, by omega, by omega, g9⟩
   intro k vs μ gK hI gL gq
   obtain ⟨b, rfl, hba, rfl, hs⟩ := hI
   refine zAe (fun gM gr => (zAa (w_p (zBw rfl rfl rfl rfl) rfl (zAd (zAb (gr _ _ (zAe (fun gN gt => (zAu rfl rfl (fun g3 => ?_) (fun g3 => ?_))))))))))
   ·
    try simp only [zS] at g3
    refine zAs (zAb (gt _ _ (zAe (fun gP gu => (zAw ?_)))))
    refine zAe (fun gQ gv => ?_)
    have hb6 : b < 6 := by omega
    refine zAa (zAz rfl rfl (w_p (zKc (i := b) underlying101 underlying3 sizeOf3 rfl rfl rfl rfl rfl rfl (by omega) (by first | omega | rfl | (simp only [h6, zL] <;> omega))) rfl ?_))
    refine zBe rfl rfl (zBe rfl rfl (zAd (zAb (gv _ _ ?_))))
    have hcb := zIr (bits := (l.counts[i]'hi2).bits.toNat) hh b (by omega)
    have hg := getD_12 hh b
    have hmb := mul_bit (l.counts[i]'hi2).bits.toNat b hg.1 hg.2
    refine zAa (zAz rfl rfl (zAz rfl rfl (w_p (zAf (o := 0) (i := 0) underlying67 rfl sizeOf3 rfl rfl rfl) rfl (w_p (zAj isAgg3 hs rfl rfl (zAk (i := 0) (vs := [_]) rfl rfl)) rfl (zAz rfl rfl (w_p (zJ9 (x := (l.counts[i]'hi2).bits.toNat) (y := b) rfl rfl rfl rfl (by first | rfl | omega) (by first | rfl | omega) (by first | omega | exact zBo (by omega))) rfl ?_))))))
    refine w_p (show Yd _ _ _ _ (.int .i64 ((bit (l.counts[i]'hi2).bits.toNat b : Nat) : Int)) from (zI2 (x := _) (y := 1) rfl rfl rfl rfl rfl rfl (by first | omega | exact zBo (by omega)) (by first | omega | exact zBo (by omega)))) rfl ?_
    refine w_p (y_mul rfl rfl rfl rfl (by omega) (by omega)) rfl (w_p (zBg rfl rfl rfl rfl (by omega) (by omega)) rfl (zBe rfl rfl (zAd (zAl (zAb (gu _ _ (zAa (w_p (zBg rfl rfl rfl rfl (by omega) (by omega)) rfl ?_))))))))
    refine zAz rfl rfl (zAd (zAb (gq _ _ (nxI (6 - (b + 1)) (by omega) ?_))))
    exact ⟨b + 1, iv2 (counted_takeD (by omega)).symm rfl, by omega, rfl, hs⟩
   try simp only [zS] at g3
   refine zBl (zAm (zAm (zA0 (zAb (gm _ _ (zAe (fun gR ga => ?_)))))))
   have hct : counted (l.counts[i]'hi2).bits.toNat 0 (h.take b) = counted (l.counts[i]'hi2).bits.toNat 0 h := by rw [List.take_of_length_le (by omega)]
   refine zAa (w_p (zAi (v := .pointer _) rfl rfl) rfl (w_p (zBy rfl rfl) rfl (w_p (zAf (o := 3) (i := 1) underlying142 rfl sizeOf3 rfl rfl rfl) rfl (w_p (zAj isAgg3 hs.tail.tail rfl rfl (show Ats _ _ _ _ [_] from Ats.part hb 3 1)) rfl ?_))))
   refine zAz rfl rfl (w_p (zJ9 (x := but) (y := i) rfl rfl rfl rfl (by first | rfl | omega) (by first | rfl | omega) (by first | omega | exact zBo (by omega))) rfl ?_)
   refine w_p (show Yd _ _ _ _ (.int .i64 ((bit but i : Nat) : Int)) from (zI2 (x := _) (y := 1) rfl rfl rfl rfl rfl rfl (by first | omega | exact zBo (by omega)) (by first | omega | exact zBo (by omega)))) rfl ?_
   refine w_p (zB6 rfl rfl rfl rfl) rfl (w_p (zAi (v := .bool _) rfl rfl) rfl (zBi (fun g4 => ?_) (fun g4 => ?_)))
   ·
    try simp only [zS] at g4
    refine w_y rfl rfl rfl (zA2 rfl rfl) rfl ?_
    refine w_y rfl rfl rfl (zAf (o := 1) (i := 1) underlying67 rfl sizeOf3 rfl rfl rfl) rfl ?_
    refine w_y rfl rfl rfl (zAj isAgg3 hs rfl rfl (zAk (i := 0) (vs := [_]) rfl rfl)) rfl ?_
    refine w_y rfl rfl rfl (zB2 rfl rfl rfl rfl) rfl ?_
    refine w_p (zAx (v := .bool _) rfl rfl rfl rfl) rfl (zAd (zAb (ga _ _ (zAu rfl rfl (fun g5 => ?_) (fun g5 => ?_)))))
    ·
     try simp only [zS] at g5
     refine zAe (fun gS gw => (zAa (zA5 rfl rfl (zAd (zAb (gw _ _ (zAy (zAv (zAg (zAg (zAv (zAg (zA1 (l := [.tmp 4]) (vs := [_]) rfl ⟨⟨rfl, (rfl : _ = Value.bool _)⟩, trivial⟩ ?_)))))))))))))
     first
       | exact ⟨congrArg Value.bool (hinv.trans (so_no hi2 (by omega) (by omega))).symm, hs.tail.tail⟩
       | exact ⟨congrArg Value.bool (hinv.trans (so_end (by omega))).symm, hs.tail.tail⟩
    try simp only [zS] at g5
    refine zAs (zAl (zAb (g8 _ _ (zAa (w_p (zBg rfl rfl rfl rfl (by omega) (by omega)) rfl (zAz rfl rfl (zAd (zAb (g7 _ _ (nxI (l.counts.length - (i + 1)) (by omega) ?_))))))))))
    exact ⟨i + 1, rfl, by omega, rfl, hinv.trans (so_yes hi2 (by omega)), hs.tail⟩
   try simp only [zS] at g4
   refine zAh rfl rfl rfl ?_
   refine zAh rfl rfl rfl ?_
   refine zAh rfl rfl rfl ?_
   refine zAh rfl rfl rfl ?_
   refine w_p (zA9 (v := _) rfl rfl rfl rfl) rfl (zAd (zAb (ga _ _ (zBx rfl rfl ?_))))
   refine zAs (zAl (zAb (g8 _ _ (zAa (w_p (zBg rfl rfl rfl rfl (by omega) (by omega)) rfl (zAz rfl rfl (zAd (zAb (g7 _ _ (nxI (l.counts.length - (i + 1)) (by omega) ?_))))))))))
   exact ⟨i + 1, rfl, by omega, rfl, hinv.trans (so_yes hi2 (by omega)), hs.tail⟩
  try simp only [zS] at g0
  refine zBl (zAm (zAm (zA0 (zAb (gc _ _ (zAe (fun gU gx => (zAa (zA5 rfl rfl (zAd (zAb (gx _ _ (zAy (zA1 (l := [.tmp 4]) (vs := [_]) rfl ⟨⟨rfl, (rfl : _ = Value.bool _)⟩, trivial⟩ ?_))))))))))))))
  first
    | exact ⟨congrArg Value.bool (hinv.trans (so_no hi2 (by omega) (by omega))).symm, hs.tail⟩
    | exact ⟨congrArg Value.bool (hinv.trans (so_end (by omega))).symm, hs.tail⟩

theorem c63 {w0 w : World} {F : List (Nat × Obj)} (l : Lot) (p : At3) (but : Nat) (hs : St w0 w F) :
  Con Tryz.prog 63 [.agg (l.cells p).toArray, .int .i64 (but : Int)] w fun v w' => ∃ lb mm, v = .pointer (some ⟨lb, 0, none⟩) ∧ St w0 w' ((lb, blk 142 [.slice p.ag l.grades.length p.cg, .slice p.ab l.bunches.length p.cb, .slice p.ac l.counts.length p.cc, .int .i64 (but : Int), .map (some mm)]) :: (mm, .map #[] 0) :: F) := by
  refine zAt (n := 10) func63 rfl rfl (zNl rfl) ?_
  refine zAe (fun K2 g3 => (zAa (zCa (v := .agg #[.slice _ _ _, .slice _ _ _, .slice _ _ _]) (cs := [_,_,_]) zAc rfl rfl rfl hs (fun b3 w4 g0 => ?_))))
  refine zA5 rfl rfl (zAd (zAb (g3 _ _ (zAe (fun K7 g4 => (zAa (w_p (zA4 (vs := [_,_,_]) isAgg26 sizeOf26 g0 rfl rfl (zAk (i := 0) (vs := [_,_,_]) rfl rfl)) rfl ?_)))))))
  refine zAz rfl rfl (w_makeMap zAc g0 (fun b8 w9 g5 => ?_))
  refine w_p (zBv (ps := [(0, _),(1, _),(2, _)]) (pv := [(0, .agg #[.slice _ _ _, .slice _ _ _, .slice _ _ _]),(1, .int _ _),(2, .map _)]) rfl rfl (fun w => Try_HE_fb0 _ _ _ _ _ _ _ _ _ _ _ w)) rfl (zCa (v := .agg #[.slice _ _ _, .slice _ _ _, .slice _ _ _, .int _ _, .map _]) (cs := [_,_,_,_,_]) zAc rfl rfl rfl g5 (fun g7 g8 g6 => ?_))
  refine w_p (zAo (v := .pointer _) rfl rfl) rfl (zAd (zAb (g4 _ _ (zAy (zA1 (l := [.tmp 4]) (vs := [_]) rfl ⟨⟨rfl, show _ = (.pointer _ : Value) from rfl⟩, trivial⟩ ?_)))))
  exact ⟨_, _, rfl, (St.perm (L := [_,_,_] ++ F) g6 (zBc [_,_] [_] F)).tail⟩

end Go.Proofs.Hn
set_option maxRecDepth 20000
namespace Go.Proofs.Hn
open Go.Proofs.Tryz
open Go.Rt Go.Rt.Ha
attribute [local irreducible] WL WC Con Yd At Ats Sl Agree DW
theorem Try_flat101 : flatInts Tryz.prog 101 6 = true := by kernel_rfl
def NextC (l : Lot) (but lb bp bh bla bs bY bn : Nat) (Ls : List (List Int)) (J : Nat → List (Nat × Obj) → Prop) (Js : List (Nat × Obj) → Prop) (yv : Value) (w0 : World) (F : List (Nat × Obj)) (rem : Nat) : Prop :=
  ∀ (d : Nat) (pre cur last : List Int) (i : Nat) (R : List (List Int)) (B X : List (Nat × Obj)) (w : World), d + rem = l.bunches.length → pre.length = d → cur.length = 6 → (∀ z ∈ cur, 0 ≤ z ∧ z ≤ 12) → cur.take d = pre → (∀ j, l.bunches.length ≤ j → cur.getD j 0 = 0) → i ≤ Ls.length →
    Ls.drop i = segW l but d pre ++ R → last.length = 6 → (0 < l.bunches.length → last ∉ Ls.drop i) → J i B → St w0 w ((bn, blk 127 [.func (.func 77) #[] #[.pointer (some ⟨bp, 0, none⟩), .pointer (some ⟨bh, 0, none⟩), .pointer (some ⟨bla, 0, none⟩), .pointer (some ⟨bs, 0, none⟩), .pointer (some ⟨bY, 0, none⟩), .pointer (some ⟨bn, 0, none⟩)]]) :: (bla, blk 101 (iv last)) :: (bh, blk 101 (iv cur)) :: (bs, blk 139 [.func (.func 76) #[.pointer (some ⟨lb, 0, none⟩)] #[]]) :: (bY, blk 139 [yv]) :: (X ++ (B ++ F))) →
    Con Tryz.prog 77 [.int .i64 (d : Int), .pointer (some ⟨bp, 0, none⟩), .pointer (some ⟨bh, 0, none⟩), .pointer (some ⟨bla, 0, none⟩), .pointer (some ⟨bs, 0, none⟩), .pointer (some ⟨bY, 0, none⟩), .pointer (some ⟨bn, 0, none⟩)] w fun v w' => ∃ (cur' last' : List Int) (B' : List (Nat × Obj)), cur'.length = 6 ∧ (∀ z ∈ cur', 0 ≤ z ∧ z ≤ 12) ∧ last'.length = 6 ∧ cur'.take d = pre ∧ (∀ j, l.bunches.length ≤ j → cur'.getD j 0 = 0) ∧ St w0 w' ((bn, blk 127 [.func (.func 77) #[] #[.pointer (some ⟨bp, 0, none⟩), .pointer (some ⟨bh, 0, none⟩), .pointer (some ⟨bla, 0, none⟩), .pointer (some ⟨bs, 0, none⟩), .pointer (some ⟨bY, 0, none⟩), .pointer (some ⟨bn, 0, none⟩)]]) :: (bla, blk 101 (iv last')) :: (bh, blk 101 (iv cur')) :: (bs, blk 139 [.func (.func 76) #[.pointer (some ⟨lb, 0, none⟩)] #[]]) :: (bY, blk 139 [yv]) :: (X ++ (B' ++ F))) ∧
      ((v = .bool true ∧ ∃ i', i' ≤ Ls.length ∧ Ls.drop i' = R ∧ (0 < l.bunches.length → last' ∉ R) ∧ J i' B') ∨ (v = .bool false ∧ Js B'))
theorem zBp {Ls R : List (List Int)} {cur : List Int} {i : Nat} {b : Bool} (hpos : Ls.drop i = (if b = true then [cur] else []) ++ R) (h : b = false) : Ls.drop i = R := by rw [hpos, h]; rfl
theorem leaf_some {Ls R : List (List Int)} {cur : List Int} {i : Nat} {b : Bool} (hpos : Ls.drop i = (if b = true then [cur] else []) ++ R) (h : b = true) : Ls.drop i = cur :: R := by rw [hpos, h]; rfl
theorem zCx {Ls R : List (List Int)} {cur last : List Int} {i : Nat} {b : Bool} (hpos : Ls.drop i = (if b = true then [cur] else []) ++ R) (hl : last ∉ Ls.drop i) (h : cur = last) : b = false := by
  cases hb : b with
  | false => rfl
  | true => exact absurd (by rw [leaf_some hpos hb, h]; exact .head _) hl
theorem fr6 {w0 w : World} {R : List (Nat × Obj)} {a b c e f g : Nat × Obj} (hs : St w0 w (a :: b :: c :: e :: f :: g :: R)) : St w0 w (b :: c :: e :: f :: g :: a :: R) := hs.perm (zBc [a] [b, c, e, f, g] R)
theorem bk6 {w0 w : World} {R : List (Nat × Obj)} {a b c e f g : Nat × Obj} (hs : St w0 w (b :: c :: e :: f :: g :: a :: R)) : St w0 w (a :: b :: c :: e :: f :: g :: R) := hs.perm (zBc [b, c, e, f, g] [a] R)
theorem set_12 {cur : List Int} {d : Nat} {x : Int} (h : ∀ z ∈ cur, 0 ≤ z ∧ z ≤ 12) (h0 : 0 ≤ x) (h1 : x ≤ 12) : ∀ z ∈ cur.set d x, 0 ≤ z ∧ z ≤ 12 := by
  intro z hz
  rcases List.mem_or_eq_of_mem_set hz with hz | rfl
  · exact h z hz
  · exact ⟨h0, h1⟩
theorem rest_next {l : Lot} {but d : Nat} {pre : List Int} {lo : Int} {q n : Nat} (h : q < n) : restW l but d pre (upto (lo + q) (n - q)) = segW l but (d + 1) (pre ++ [lo + q]) ++ restW l but d pre (upto (lo + (q + 1 : Nat)) (n - (q + 1))) := by rw [upto_step h, rest_cons]
theorem zEl {l : Lot} {but d : Nat} {pre : List Int} {lo : Int} {q n : Nat} (h : n ≤ q) : restW l but d pre (upto (lo + q) (n - q)) = [] := by rw [show n - q = 0 by omega]; rfl
theorem c77 {w0 : World} {F : List (Nat × Obj)} (l : Lot) (p : At3) (but lb mm : Nat) (hk : LK w0 F l p but lb mm)  (bp bh bla bs bY bn : Nat) (h1 : Ats w0 F bp 0 [.pointer (some ⟨lb, 0, none⟩)]) (Ls : List (List Int)) (hnd : Ls.Nodup) (J : Nat → List (Nat × Obj) → Prop) (Js : List (Nat × Obj) → Prop) (yv : Value) (hy : ∀ (i : Nat) (x : List Int) (R : List (List Int)) (B X : List (Nat × Obj)) (w : World), Ls.drop i = x :: R → J i B → St w0 w (X ++ (B ++ F)) → FCon Tryz.prog yv [ia x] w fun v w' => ∃ B', St w0 w' (X ++ (B' ++ F)) ∧ (v = .bool true ∧ J (i + 1) B' ∨ v = .bool false ∧ Js B')) (rem : Nat) (ih : ∀ r, rem = r + 1 → NextC l but lb bp bh bla bs bY bn Ls J Js yv w0 F r) : NextC l but lb bp bh bla bs bY bn Ls J Js yv w0 F rem := by
  intro d pre cur last i R B X w hdr hpl hcl hcr hkt hz hi hpos hll hlast hJ hs
  obtain ⟨ag, cg, ab, cb, ac, cc⟩ := p
  have hb := hk.b
  have hlb := hk.ok.lb
  refine zAt (n := 61) func77 rfl rfl (zNl rfl) ?_
  refine zAe (fun K2 gn => (zAa (zA5 rfl rfl (zAd (zAb (gn _ _ (zAe (fun K4 gq => (zAe (fun K6 gr => (zAa (zAz rfl rfl (w_p (zAj isAgg92 hs.tail.tail.tail.tail.tail.drop.drop rfl rfl h1) rfl ?_)))))))))))))
  refine w_p (zBy rfl rfl) rfl (w_p (zAf (o := 0) (i := 0) underlying142 rfl sizeOf26 rfl rfl rfl) rfl (w_p (zAf (o := 1) (i := 1) underlying26 rfl sizeOf23 rfl rfl rfl) rfl (w_p (zAj isAgg23 hs.tail.tail.tail.tail.tail.drop.drop rfl rfl (show Ats _ _ _ _ [_] from Ats.part hb 1 1)) rfl ?_)))
  refine w_p (zA8 underlying23 rfl rfl) rfl (w_p (zB6 rfl rfl rfl rfl) rfl (zAd (zAb (gr _ _ (zAu rfl rfl (fun h7 => ?_) (fun h7 => ?_))))))
  ·
   try simp only [zS] at h7
   refine zAe (fun K9 gg => (zAe (fun gL g7 => ?_)))
   have hr0 : rem = 0 := by omega
   subst hr0
   have hcur := cur_pad hcl hpl hkt (by have hdn : d = l.bunches.length := (by omega); subst hdn; exact hz)
   have hsp : soFrom but pre 0 l.counts = soFrom but cur 0 l.counts := by rw [hcur, so_pad]
   rw [seg_leaf (by omega), hsp, ← hcur] at hpos
   refine zAa (zAz rfl rfl (w_p (zD5 rfl rfl rfl rfl) rfl (w_p (zAi (v := .bool _) rfl rfl) rfl (zBi (fun g8 => ?_) (fun g8 => ?_)))))
   ·
    try simp only [zS] at g8
    refine w_y rfl rfl rfl (zCz (i := 2) isAgg101 sizeOf101 (by first | omega | rfl | (simp only [hcl, hll, zL] <;> omega)) hs rfl rfl rfl) rfl ?_
    refine w_y rfl rfl rfl (zCz (i := 1) isAgg101 sizeOf101 (by first | omega | rfl | (simp only [hcl, hll, zL] <;> omega)) hs rfl rfl rfl) rfl ?_
    refine w_y rfl rfl rfl (zKd (l := _) (m := _) eqGuardType101 Try_flat101 (by first | omega | rfl | (simp only [hcl, hll, zL] <;> omega)) (by first | omega | rfl | (simp only [hcl, hll, zL] <;> omega)) rfl rfl rfl rfl rfl rfl) rfl ?_
    refine w_p (zAx (v := .bool _) rfl rfl rfl rfl) rfl (w_p (zAi (v := .bool _) rfl rfl) rfl (zBi (fun g9 => ?_) (fun g9 => ?_)))
    ·
     try simp only [zS] at g9
     refine zAh rfl rfl rfl ?_
     refine zAh rfl rfl rfl ?_
     refine zAh rfl rfl rfl ?_
     refine zAh rfl rfl rfl ?_
     refine w_p (zAx (v := _) rfl rfl rfl rfl) rfl (zAd (zAb (g7 _ _ (zB1 rfl rfl ?_))))
     refine zAe (fun gM gt => (zAa (zA5 rfl rfl (zAd (zAb (gt _ _ (zAy (zAg (zAg (zA1 (l := [.tmp 8]) (vs := [_]) rfl ⟨⟨rfl, (rfl : _ = Value.bool _)⟩, trivial⟩ ?_))))))))))
     first
       | exact ⟨cur, last, B, hcl, hcr, hll, hkt, hz, hs, .inl ⟨rfl, i, hi, zBp hpos (zCx hpos (hlast (by omega)) (by assumption)), (by rw [← zBp hpos (zCx hpos (hlast (by omega)) (by assumption))]; exact hlast), hJ⟩⟩
       | exact ⟨cur, last, B, hcl, hcr, hll, hkt, hz, hs, .inl ⟨rfl, i, hi, zBp hpos (by assumption), (by rw [← zBp hpos (by assumption)]; exact hlast), hJ⟩⟩
       | exact ⟨cur, cur, B1, hcl, hcr, hcl, hkt, hz, hs, .inl ⟨rfl, i + 1, zDm hpos2, zDj hpos2, (fun _ => zC3 hnd hpos2), hJ1⟩⟩
       | exact ⟨cur, cur, B1, hcl, hcr, hcl, hkt, hz, hs, .inr ⟨rfl, hJ1⟩⟩
       | exact ⟨cur2, last2, B2, hc2, hr2, hl2, zD6 hk2 hpl, hz2, hs, .inr ⟨rfl, hJ2⟩⟩
       | (rw [zEl (by omega), List.nil_append] at hpos
          exact ⟨cur, last, B, hcl, hcr, hll, hkt, hz, hs, .inl ⟨rfl, i, hi, hpos, (by rw [← hpos]; exact hlast), hJ⟩⟩)
    try simp only [zS] at g9
    refine w_y rfl rfl rfl (zAj isAgg139 hs rfl rfl (zAk (i := 3) (vs := [_]) rfl rfl)) rfl ?_
    refine w_y rfl rfl rfl (zCz (i := 2) isAgg101 sizeOf101 (by first | omega | rfl | (simp only [hcl, hll, zL] <;> omega)) hs rfl rfl rfl) rfl ?_
    refine zAr (zAq rfl rfl rfl) call76 rfl rfl rfl rfl (c76 l _ but lb mm hk.app.app.cons.cons.cons.cons.cons cur hcl hcr hs) ?_
    rintro _ gN ⟨rfl, g5⟩
    refine w_y rfl rfl rfl (zDz rfl rfl) rfl ?_
    refine w_p (zA9 (v := .bool _) rfl rfl rfl rfl) rfl (zAd (zAb (g7 _ _ (zAu rfl rfl (fun ga => ?_) (fun ga => ?_)))))
    ·
     try simp only [zS] at ga
     refine zAe (fun gP gu => (zAa (zA5 rfl rfl (zAd (zAb (gu _ _ (zAy (zAg (zAg (zA1 (l := [.tmp 8]) (vs := [_]) rfl ⟨⟨rfl, (rfl : _ = Value.bool _)⟩, trivial⟩ ?_))))))))))
     first
       | exact ⟨cur, last, B, hcl, hcr, hll, hkt, hz, g5, .inl ⟨rfl, i, hi, zBp hpos (zCx hpos (hlast (by omega)) (by assumption)), (by rw [← zBp hpos (zCx hpos (hlast (by omega)) (by assumption))]; exact hlast), hJ⟩⟩
       | exact ⟨cur, last, B, hcl, hcr, hll, hkt, hz, g5, .inl ⟨rfl, i, hi, zBp hpos (by assumption), (by rw [← zBp hpos (by assumption)]; exact hlast), hJ⟩⟩
       | exact ⟨cur, cur, B1, hcl, hcr, hcl, hkt, hz, g5, .inl ⟨rfl, i + 1, zDm hpos2, zDj hpos2, (fun _ => zC3 hnd hpos2), hJ1⟩⟩
       | exact ⟨cur, cur, B1, hcl, hcr, hcl, hkt, hz, g5, .inr ⟨rfl, hJ1⟩⟩
       | exact ⟨cur2, last2, B2, hc2, hr2, hl2, zD6 hk2 hpl, hz2, g5, .inr ⟨rfl, hJ2⟩⟩
       | (rw [zEl (by omega), List.nil_append] at hpos
          exact ⟨cur, last, B, hcl, hcr, hll, hkt, hz, g5, .inl ⟨rfl, i, hi, hpos, (by rw [← hpos]; exact hlast), hJ⟩⟩)
    try simp only [zS] at ga
    refine zAs (zAb (gg _ _ (zAe (fun gQ gv => ?_))))
    have hpos2 := leaf_some hpos (by assumption)
    refine zAa (w_p (zCz (i := 2) isAgg101 sizeOf101 (by first | omega | rfl | (simp only [hcl, hll, zL] <;> omega)) g5 rfl rfl rfl) rfl ?_)
    refine zDf (i := 1) (l := _) zAc sizeOf101 (by first | omega | rfl | (simp only [hcl, hll, zL] <;> omega)) rfl rfl rfl rfl rfl g5 rfl (by first | omega | rfl | (simp only [hcl, hll, zL] <;> omega)) (fun gR gb => ?_)
    refine zAd (zAb (gv _ _ (zAe (fun gS gh => (zAa (w_p (zAj isAgg139 gb rfl rfl (zAk (i := 4) (vs := [_]) rfl rfl)) rfl (w_p (zCz (i := 2) isAgg101 sizeOf101 (by first | omega | rfl | (simp only [hcl, hll, zL] <;> omega)) gb rfl rfl rfl) rfl ?_)))))))
    refine zD9 zAc rfl rfl rfl rfl (hy i _ R B (_ :: _ :: _ :: _ :: _ :: X) _ hpos2 hJ gb) ?_
    rintro _ gU ⟨B1, g0, (⟨rfl, hJ1⟩ | ⟨rfl, hJ1⟩)⟩
    ·
     replace g0 := (show St _ _ (_ :: _ :: _ :: _ :: _ :: X ++ (B1 ++ (F))) from g0)
     refine w_p (zAo (v := .bool _) rfl rfl) rfl (zAd (zAb (gh _ _ (zAy (zAg (zA1 (l := [.tmp 8]) (vs := [_]) rfl ⟨⟨rfl, (rfl : _ = Value.bool _)⟩, trivial⟩ ?_))))))
     first
       | exact ⟨cur, last, B, hcl, hcr, hll, hkt, hz, g0, .inl ⟨rfl, i, hi, zBp hpos (zCx hpos (hlast (by omega)) (by assumption)), (by rw [← zBp hpos (zCx hpos (hlast (by omega)) (by assumption))]; exact hlast), hJ⟩⟩
       | exact ⟨cur, last, B, hcl, hcr, hll, hkt, hz, g0, .inl ⟨rfl, i, hi, zBp hpos (by assumption), (by rw [← zBp hpos (by assumption)]; exact hlast), hJ⟩⟩
       | exact ⟨cur, cur, B1, hcl, hcr, hcl, hkt, hz, g0, .inl ⟨rfl, i + 1, zDm hpos2, zDj hpos2, (fun _ => zC3 hnd hpos2), hJ1⟩⟩
       | exact ⟨cur, cur, B1, hcl, hcr, hcl, hkt, hz, g0, .inr ⟨rfl, hJ1⟩⟩
       | exact ⟨cur2, last2, B2, hc2, hr2, hl2, zD6 hk2 hpl, hz2, g0, .inr ⟨rfl, hJ2⟩⟩
       | (rw [zEl (by omega), List.nil_append] at hpos
          exact ⟨cur, last, B, hcl, hcr, hll, hkt, hz, g0, .inl ⟨rfl, i, hi, hpos, (by rw [← hpos]; exact hlast), hJ⟩⟩)
    replace g0 := (show St _ _ (_ :: _ :: _ :: _ :: _ :: X ++ (B1 ++ (F))) from g0)
    refine w_p (zAo (v := .bool _) rfl rfl) rfl (zAd (zAb (gh _ _ (zAy (zAg (zA1 (l := [.tmp 8]) (vs := [_]) rfl ⟨⟨rfl, (rfl : _ = Value.bool _)⟩, trivial⟩ ?_))))))
    first
      | exact ⟨cur, last, B, hcl, hcr, hll, hkt, hz, g0, .inl ⟨rfl, i, hi, zBp hpos (zCx hpos (hlast (by omega)) (by assumption)), (by rw [← zBp hpos (zCx hpos (hlast (by omega)) (by assumption))]; exact hlast), hJ⟩⟩
      | exact ⟨cur, last, B, hcl, hcr, hll, hkt, hz, g0, .inl ⟨rfl, i, hi, zBp hpos (by assumption), (by rw [← zBp hpos (by assumption)]; exact hlast), hJ⟩⟩
      | exact ⟨cur, cur, B1, hcl, hcr, hcl, hkt, hz, g0, .inl ⟨rfl, i + 1, zDm hpos2, zDj hpos2, (fun _ => zC3 hnd hpos2), hJ1⟩⟩
      | exact ⟨cur, cur, B1, hcl, hcr, hcl, hkt, hz, g0, .inr ⟨rfl, hJ1⟩⟩
      | exact ⟨cur2, last2, B2, hc2, hr2, hl2, zD6 hk2 hpl, hz2, g0, .inr ⟨rfl, hJ2⟩⟩
      | (rw [zEl (by omega), List.nil_append] at hpos
         exact ⟨cur, last, B, hcl, hcr, hll, hkt, hz, g0, .inl ⟨rfl, i, hi, hpos, (by rw [← hpos]; exact hlast), hJ⟩⟩)
   try simp only [zS] at g8
   refine zAh rfl rfl rfl ?_
   refine zAh rfl rfl rfl ?_
   refine zAh rfl rfl rfl ?_
   refine w_p (zA9 (v := _) rfl rfl rfl rfl) rfl (w_p (zAi (v := .bool _) rfl rfl) rfl (w_y rfl rfl rfl (zAj isAgg139 hs rfl rfl (zAk (i := 3) (vs := [_]) rfl rfl)) rfl (w_y rfl rfl rfl (zCz (i := 2) isAgg101 sizeOf101 (by first | omega | rfl | (simp only [hcl, hll, zL] <;> omega)) hs rfl rfl rfl) rfl ?_)))
   refine zAr (zAq rfl rfl rfl) call76 rfl rfl rfl rfl (c76 l _ but lb mm hk.app.app.cons.cons.cons.cons.cons cur hcl hcr hs) ?_
   rintro _ gV ⟨rfl, g6⟩
   refine w_y rfl rfl rfl (zDz rfl rfl) rfl ?_
   refine w_p (zA9 (v := .bool _) rfl rfl rfl rfl) rfl (zAd (zAb (g7 _ _ (zAu rfl rfl (fun gc => ?_) (fun gc => ?_)))))
   ·
    try simp only [zS] at gc
    refine zAe (fun gW gw => (zAa (zA5 rfl rfl (zAd (zAb (gw _ _ (zAy (zAg (zAg (zA1 (l := [.tmp 8]) (vs := [_]) rfl ⟨⟨rfl, (rfl : _ = Value.bool _)⟩, trivial⟩ ?_))))))))))
    first
      | exact ⟨cur, last, B, hcl, hcr, hll, hkt, hz, g6, .inl ⟨rfl, i, hi, zBp hpos (zCx hpos (hlast (by omega)) (by assumption)), (by rw [← zBp hpos (zCx hpos (hlast (by omega)) (by assumption))]; exact hlast), hJ⟩⟩
      | exact ⟨cur, last, B, hcl, hcr, hll, hkt, hz, g6, .inl ⟨rfl, i, hi, zBp hpos (by assumption), (by rw [← zBp hpos (by assumption)]; exact hlast), hJ⟩⟩
      | exact ⟨cur, cur, B1, hcl, hcr, hcl, hkt, hz, g6, .inl ⟨rfl, i + 1, zDm hpos2, zDj hpos2, (fun _ => zC3 hnd hpos2), hJ1⟩⟩
      | exact ⟨cur, cur, B1, hcl, hcr, hcl, hkt, hz, g6, .inr ⟨rfl, hJ1⟩⟩
      | exact ⟨cur2, last2, B2, hc2, hr2, hl2, zD6 hk2 hpl, hz2, g6, .inr ⟨rfl, hJ2⟩⟩
      | (rw [zEl (by omega), List.nil_append] at hpos
         exact ⟨cur, last, B, hcl, hcr, hll, hkt, hz, g6, .inl ⟨rfl, i, hi, hpos, (by rw [← hpos]; exact hlast), hJ⟩⟩)
   try simp only [zS] at gc
   refine zAs (zAb (gg _ _ (zAe (fun gX gx => ?_))))
   have hpos2 := leaf_some hpos (by assumption)
   refine zAa (w_p (zCz (i := 2) isAgg101 sizeOf101 (by first | omega | rfl | (simp only [hcl, hll, zL] <;> omega)) g6 rfl rfl rfl) rfl ?_)
   refine zDf (i := 1) (l := _) zAc sizeOf101 (by first | omega | rfl | (simp only [hcl, hll, zL] <;> omega)) rfl rfl rfl rfl rfl g6 rfl (by first | omega | rfl | (simp only [hcl, hll, zL] <;> omega)) (fun gY gd => ?_)
   refine zAd (zAb (gx _ _ (zAe (fun gZ gi => (zAa (w_p (zAj isAgg139 gd rfl rfl (zAk (i := 4) (vs := [_]) rfl rfl)) rfl (w_p (zCz (i := 2) isAgg101 sizeOf101 (by first | omega | rfl | (simp only [hcl, hll, zL] <;> omega)) gd rfl rfl rfl) rfl ?_)))))))
   refine zD9 zAc rfl rfl rfl rfl (hy i _ R B (_ :: _ :: _ :: _ :: _ :: X) _ hpos2 hJ gd) ?_
   rintro _ hD ⟨B1, g3, (⟨rfl, hJ1⟩ | ⟨rfl, hJ1⟩)⟩
   ·
    replace g3 := (show St _ _ (_ :: _ :: _ :: _ :: _ :: X ++ (B1 ++ (F))) from g3)
    refine w_p (zAo (v := .bool _) rfl rfl) rfl (zAd (zAb (gi _ _ (zAy (zAg (zA1 (l := [.tmp 8]) (vs := [_]) rfl ⟨⟨rfl, (rfl : _ = Value.bool _)⟩, trivial⟩ ?_))))))
    first
      | exact ⟨cur, last, B, hcl, hcr, hll, hkt, hz, g3, .inl ⟨rfl, i, hi, zBp hpos (zCx hpos (hlast (by omega)) (by assumption)), (by rw [← zBp hpos (zCx hpos (hlast (by omega)) (by assumption))]; exact hlast), hJ⟩⟩
      | exact ⟨cur, last, B, hcl, hcr, hll, hkt, hz, g3, .inl ⟨rfl, i, hi, zBp hpos (by assumption), (by rw [← zBp hpos (by assumption)]; exact hlast), hJ⟩⟩
      | exact ⟨cur, cur, B1, hcl, hcr, hcl, hkt, hz, g3, .inl ⟨rfl, i + 1, zDm hpos2, zDj hpos2, (fun _ => zC3 hnd hpos2), hJ1⟩⟩
      | exact ⟨cur, cur, B1, hcl, hcr, hcl, hkt, hz, g3, .inr ⟨rfl, hJ1⟩⟩
      | exact ⟨cur2, last2, B2, hc2, hr2, hl2, zD6 hk2 hpl, hz2, g3, .inr ⟨rfl, hJ2⟩⟩
      | (rw [zEl (by omega), List.nil_append] at hpos
         exact ⟨cur, last, B, hcl, hcr, hll, hkt, hz, g3, .inl ⟨rfl, i, hi, hpos, (by rw [← hpos]; exact hlast), hJ⟩⟩)
   replace g3 := (show St _ _ (_ :: _ :: _ :: _ :: _ :: X ++ (B1 ++ (F))) from g3)
   refine w_p (zAo (v := .bool _) rfl rfl) rfl (zAd (zAb (gi _ _ (zAy (zAg (zA1 (l := [.tmp 8]) (vs := [_]) rfl ⟨⟨rfl, (rfl : _ = Value.bool _)⟩, trivial⟩ ?_))))))
   first
     | exact ⟨cur, last, B, hcl, hcr, hll, hkt, hz, g3, .inl ⟨rfl, i, hi, zBp hpos (zCx hpos (hlast (by omega)) (by assumption)), (by rw [← zBp hpos (zCx hpos (hlast (by omega)) (by assumption))]; exact hlast), hJ⟩⟩
     | exact ⟨cur, last, B, hcl, hcr, hll, hkt, hz, g3, .inl ⟨rfl, i, hi, zBp hpos (by assumption), (by rw [← zBp hpos (by assumption)]; exact hlast), hJ⟩⟩
     | exact ⟨cur, cur, B1, hcl, hcr, hcl, hkt, hz, g3, .inl ⟨rfl, i + 1, zDm hpos2, zDj hpos2, (fun _ => zC3 hnd hpos2), hJ1⟩⟩
     | exact ⟨cur, cur, B1, hcl, hcr, hcl, hkt, hz, g3, .inr ⟨rfl, hJ1⟩⟩
     | exact ⟨cur2, last2, B2, hc2, hr2, hl2, zD6 hk2 hpl, hz2, g3, .inr ⟨rfl, hJ2⟩⟩
     | (rw [zEl (by omega), List.nil_append] at hpos
        exact ⟨cur, last, B, hcl, hcr, hll, hkt, hz, g3, .inl ⟨rfl, i, hi, hpos, (by rw [← hpos]; exact hlast), hJ⟩⟩)
  try simp only [zS] at h7
  refine zAs (zAb (gq _ _ (zAe (fun hG gy => ?_))))
  obtain ⟨r, rfl⟩ : ∃ r, rem = r + 1 := ⟨rem - 1, by omega⟩
  have ih2 := ih r rfl
  have hd2 : d < l.bunches.length := by omega
  rw [seg_node hd2] at hpos
  have hbb := hk.ok.bunch _ (List.getElem_mem hd2)
  obtain ⟨bx, ox, hbx, hx⟩ := zG7 hk.i.b hd2
  subst hbx
  refine zAa (w_p (zAj isAgg92 hs.tail.tail.tail.tail.tail.drop.drop rfl rfl h1) rfl (w_p (zBy rfl rfl) rfl (w_p (zAf (o := 0) (i := 0) underlying142 rfl sizeOf26 rfl rfl rfl) rfl (w_p (zAf (o := 1) (i := 1) underlying26 rfl sizeOf23 rfl rfl rfl) rfl ?_))))
  refine w_p (zAj isAgg23 hs.tail.tail.tail.tail.tail.drop.drop rfl rfl (show Ats _ _ _ _ [_] from Ats.part hb 1 1)) rfl (zAz rfl rfl (w_p (zA3 underlying23 sizeOf65 rfl rfl rfl rfl (i := d) (by omega) (by omega)) rfl (w_p (zAf (o := 0) (i := 0) underlying65 rfl sizeOf46 rfl rfl rfl) rfl ?_)))
  refine w_p (zA4 (vs := [_,_]) isAgg46 sizeOf46 hs.tail.tail.tail.tail.tail.drop.drop rfl rfl (show Ats _ _ _ _ [_,_] from Ats.part hx 0 2)) rfl (zBf (cs := [_,_]) zAc zeroValue46 rfl hs (fun gz hH gA => ?_))
  refine zA6 (i := 0) (v := .agg #[.int _ _, .int _ _]) (vs := [_,_]) zAc sizeOf46 rfl rfl rfl rfl rfl (by simp [Value.oneCell']) gA rfl (zNl rfl) (fun hO gj => ?_)
  refine zAd (zAb (gy _ _ (zAe (fun hX gB => (zAe (fun hY gC => (zAa (w_p (zAf (o := 0) (i := 0) underlying46 rfl sizeOf3 rfl rfl rfl) rfl (w_p (zAj isAgg3 gj rfl rfl (zAk (i := 0) (vs := [_]) rfl rfl)) rfl ?_)))))))))
  refine zBe rfl rfl (zAd (zAb (gC _ _ (zAw ?_))))
  refine zBs [8,10,47,48,49,50,51,52,53,54,55,56,57,58,59,60] [10] (fun k vs w => ∃ (q : Nat) (cur last : List Int) (i : Nat) (B : List (Nat × Obj)), vs = [.int .i64 ((l.bunches[d]'hd2).lo + q)] ∧ (q : Int) ≤ (l.bunches[d]'hd2).hi + 1 - (l.bunches[d]'hd2).lo ∧ k = ((l.bunches[d]'hd2).hi + 1 - (l.bunches[d]'hd2).lo).toNat - q ∧ cur.length = 6 ∧ (∀ z ∈ cur, 0 ≤ z ∧ z ≤ 12) ∧ last.length = 6 ∧ cur.take d = pre ∧ (∀ j, l.bunches.length ≤ j → cur.getD j 0 = 0) ∧ i ≤ Ls.length ∧ Ls.drop i = restW l but d pre (upto ((l.bunches[d]'hd2).lo + q) (((l.bunches[d]'hd2).hi + 1 - (l.bunches[d]'hd2).lo).toNat - q)) ++ R ∧ (0 < l.bunches.length → last ∉ Ls.drop i) ∧ J i B ∧ St w0 w ((gz, blk 46 [.int .i64 (l.bunches[d]'hd2).lo, .int .i64 (l.bunches[d]'hd2).hi]) :: (bn, blk 127 [.func (.func 77) #[] #[.pointer (some ⟨bp, 0, none⟩), .pointer (some ⟨bh, 0, none⟩), .pointer (some ⟨bla, 0, none⟩), .pointer (some ⟨bs, 0, none⟩), .pointer (some ⟨bY, 0, none⟩), .pointer (some ⟨bn, 0, none⟩)]]) :: (bla, blk 101 (iv last)) :: (bh, blk 101 (iv cur)) :: (bs, blk 139 [.func (.func 76) #[.pointer (some ⟨lb, 0, none⟩)] #[]]) :: (bY, blk 139 [yv]) :: (X ++ (B ++ F)))) (((l.bunches[d]'hd2).hi + 1 - (l.bunches[d]'hd2).lo).toNat) ?_ ?_
  ·
   exact ⟨0, cur, last, i, B, iv1 (by omega), by omega, by omega, hcl, hcr, hll, hkt, hz, hi, by rw [show (l.bunches[d]'hd2).lo + ((0 : Nat) : Int) = (l.bunches[d]'hd2).lo by omega, Nat.sub_zero]; exact hpos, hlast, hJ, gj⟩
  intro k vs μ j0 hI j1 gE
  clear hkt hz hi hpos hll hlast hJ hs hcl hcr
  obtain ⟨q, cur, last, i, B, rfl, hq, rfl, hcl, hcr, hll, hkt, hz, hi, hpos, hlast, hJ, hs⟩ := hI
  refine zAe (fun j2 gF => (zAe (fun j3 gG => (zAa (zAz rfl rfl (w_p (zAf (o := 1) (i := 1) underlying46 rfl sizeOf3 rfl rfl rfl) rfl (w_p (zAj isAgg3 hs rfl rfl (zAk (i := 0) (vs := [_]) rfl rfl)) rfl ?_)))))))
  refine w_p (y_leq rfl rfl rfl rfl) rfl (zAd (zAb (gG _ _ (zAu rfl rfl (fun gf => ?_) (fun gf => ?_)))))
  ·
   try simp only [zS] at gf
   refine zAs (zAb (gF _ _ (zAe (fun j4 gH => (zAw ?_)))))
   refine zAe (fun j5 gI => (zAa (zAz rfl rfl (zAz rfl rfl (w_p (zBr underlying101 sizeOf3 rfl rfl rfl rfl (i := d) (by first | rfl | omega) (by omega)) rfl ?_)))))
   refine zC0 (i := 3) (j := d) zAc sizeOf3 rfl rfl rfl rfl hs rfl (by first | omega | rfl | (simp only [hcl, hll, zL] <;> omega)) (fun j6 gk => ?_)
   refine zAd (zAb (gI _ _ (zAe (fun j7 gm => (zAa (w_p (zAj isAgg127 gk rfl rfl (zAk (i := 1) (vs := [_]) rfl rfl)) rfl (zAz rfl rfl (w_p (zBg rfl rfl rfl rfl (by omega) (by omega)) rfl ?_))))))))
   refine zAr zAc call77 rfl rfl rfl rfl (ih2 (d + 1) (pre ++ [(l.bunches[d]'hd2).lo + (q : Int)]) _ last i _ B (_ :: X) _ (by omega) (by simp; omega) (by rw [List.length_set]; exact hcl) (set_12 hcr (by omega) (by omega)) (set_take hkt (by omega)) (set_zero (by omega) hz) hi (by rw [rest_next (by omega), List.append_assoc] at hpos; exact hpos) hll hlast hJ (fr6 gk)) ?_
   rintro _ j8 ⟨cur2, last2, B2, hc2, hr2, hl2, hk2, hz2, g4, (⟨rfl, i2, hi2, hp2, hn2, hJ2⟩ | ⟨rfl, hJ2⟩)⟩
   ·
    replace g4 := bk6 (show St _ _ (_ :: _ :: _ :: _ :: _ :: _ :: (X ++ (B2 ++ F))) from g4)
    refine w_p (zDz rfl rfl) rfl (zAd (zAb (gm _ _ (zBx rfl rfl ?_))))
    refine zAs (zAl (zAb (gH _ _ (zAa (zAz rfl rfl (w_p (zBg rfl rfl rfl rfl (by omega) (by omega)) rfl (zBe rfl rfl (zAd (zAb (gE _ _ (nxI (((l.bunches[d]'hd2).hi + 1 - (l.bunches[d]'hd2).lo).toNat - (q + 1)) (by omega) ?_)))))))))))
    exact ⟨q + 1, cur2, last2, i2, B2, iv1 (by omega), by omega, rfl, hc2, hr2, hl2, zD6 hk2 hpl, hz2, hi2, hp2, (by rw [hp2]; exact hn2), hJ2, g4⟩
   replace g4 := bk6 (show St _ _ (_ :: _ :: _ :: _ :: _ :: _ :: (X ++ (B2 ++ F))) from g4)
   refine w_p (zDz rfl rfl) rfl (zAd (zAb (gm _ _ (zB1 rfl rfl ?_))))
   refine zAe (fun j9 gJ => (zAa (zA5 rfl rfl (zAd (zAb (gJ _ _ (zAy (zAv (zAg (zAg (zAv (zAg (zA1 (l := [.tmp 8]) (vs := [_]) rfl ⟨⟨rfl, (rfl : _ = Value.bool _)⟩, trivial⟩ ?_)))))))))))))
   first
     | exact ⟨cur, last, B, hcl, hcr, hll, hkt, hz, g4.tail, .inl ⟨rfl, i, hi, zBp hpos (zCx hpos (hlast (by omega)) (by assumption)), (by rw [← zBp hpos (zCx hpos (hlast (by omega)) (by assumption))]; exact hlast), hJ⟩⟩
     | exact ⟨cur, last, B, hcl, hcr, hll, hkt, hz, g4.tail, .inl ⟨rfl, i, hi, zBp hpos (by assumption), (by rw [← zBp hpos (by assumption)]; exact hlast), hJ⟩⟩
     | exact ⟨cur, cur, B1, hcl, hcr, hcl, hkt, hz, g4.tail, .inl ⟨rfl, i + 1, zDm hpos2, zDj hpos2, (fun _ => zC3 hnd hpos2), hJ1⟩⟩
     | exact ⟨cur, cur, B1, hcl, hcr, hcl, hkt, hz, g4.tail, .inr ⟨rfl, hJ1⟩⟩
     | exact ⟨cur2, last2, B2, hc2, hr2, hl2, zD6 hk2 hpl, hz2, g4.tail, .inr ⟨rfl, hJ2⟩⟩
     | (rw [zEl (by omega), List.nil_append] at hpos
        exact ⟨cur, last, B, hcl, hcr, hll, hkt, hz, g4.tail, .inl ⟨rfl, i, hi, hpos, (by rw [← hpos]; exact hlast), hJ⟩⟩)
  try simp only [zS] at gf
  refine zBl (zAm (zAm (zA0 (zAb (gB _ _ (zAe (fun ja gK => (zAa (zA5 rfl rfl (zAd (zAb (gK _ _ (zAy (zA1 (l := [.tmp 8]) (vs := [_]) rfl ⟨⟨rfl, (rfl : _ = Value.bool _)⟩, trivial⟩ ?_))))))))))))))
  first
    | exact ⟨cur, last, B, hcl, hcr, hll, hkt, hz, hs.tail, .inl ⟨rfl, i, hi, zBp hpos (zCx hpos (hlast (by omega)) (by assumption)), (by rw [← zBp hpos (zCx hpos (hlast (by omega)) (by assumption))]; exact hlast), hJ⟩⟩
    | exact ⟨cur, last, B, hcl, hcr, hll, hkt, hz, hs.tail, .inl ⟨rfl, i, hi, zBp hpos (by assumption), (by rw [← zBp hpos (by assumption)]; exact hlast), hJ⟩⟩
    | exact ⟨cur, cur, B1, hcl, hcr, hcl, hkt, hz, hs.tail, .inl ⟨rfl, i + 1, zDm hpos2, zDj hpos2, (fun _ => zC3 hnd hpos2), hJ1⟩⟩
    | exact ⟨cur, cur, B1, hcl, hcr, hcl, hkt, hz, hs.tail, .inr ⟨rfl, hJ1⟩⟩
    | exact ⟨cur2, last2, B2, hc2, hr2, hl2, zD6 hk2 hpl, hz2, hs.tail, .inr ⟨rfl, hJ2⟩⟩
    | (rw [zEl (by omega), List.nil_append] at hpos
       exact ⟨cur, last, B, hcl, hcr, hll, hkt, hz, hs.tail, .inl ⟨rfl, i, hi, hpos, (by rw [← hpos]; exact hlast), hJ⟩⟩)

end Go.Proofs.Hn
set_option maxRecDepth 20000
namespace Go.Proofs.Hn
open Go.Proofs.Tryz
open Go.Rt Go.Rt.Ha
attribute [local irreducible] WL WC Con Yd At Ats Sl Agree DW

theorem next_all {w0 : World} {F : List (Nat × Obj)} (l : Lot) (p : At3) (but lb mm : Nat) (hk : LK w0 F l p but lb mm)  (bp bh bla bs bY bn : Nat) (h1 : Ats w0 F bp 0 [.pointer (some ⟨lb, 0, none⟩)]) (Ls : List (List Int)) (hnd : Ls.Nodup) (J : Nat → List (Nat × Obj) → Prop) (Js : List (Nat × Obj) → Prop) (yv : Value) (hy : ∀ (i : Nat) (x : List Int) (R : List (List Int)) (B X : List (Nat × Obj)) (w : World), Ls.drop i = x :: R → J i B → St w0 w (X ++ (B ++ F)) → FCon Tryz.prog yv [ia x] w fun v w' => ∃ B', St w0 w' (X ++ (B' ++ F)) ∧ (v = .bool true ∧ J (i + 1) B' ∨ v = .bool false ∧ Js B')) (rem : Nat) : NextC l but lb bp bh bla bs bY bn Ls J Js yv w0 F rem := by
  induction rem with
  | zero => exact c77 l p but lb mm hk bp bh bla bs bY bn h1 Ls hnd J Js yv hy 0 (fun r h => by omega)
  | succ r ih => exact c77 l p but lb mm hk bp bh bla bs bY bn h1 Ls hnd J Js yv hy (r + 1) (fun q h => by have : q = r := (by omega); subst this; exact ih)
theorem iter_lists {w0 : World} {F : List (Nat × Obj)} {Ls : List (List Int)} {J : Nat → List (Nat × Obj) → Prop} {Js : List (Nat × Obj) → Prop} {yv : Value}
    (hy : ∀ i (hi : i < (Ls.map ia).length) B X w, J i B → St w0 w (X ++ (B ++ F)) → FCon Tryz.prog yv [(Ls.map ia)[i]] w fun v w' => ∃ B', St w0 w' (X ++ (B' ++ F)) ∧ (v = .bool true ∧ J (i + 1) B' ∨ v = .bool false ∧ Js B')) :
    ∀ (i : Nat) (x : List Int) (R : List (List Int)) (B X : List (Nat × Obj)) (w : World), Ls.drop i = x :: R → J i B → St w0 w (X ++ (B ++ F)) → FCon Tryz.prog yv [ia x] w fun v w' => ∃ B', St w0 w' (X ++ (B' ++ F)) ∧ (v = .bool true ∧ J (i + 1) B' ∨ v = .bool false ∧ Js B') := by
  intro i x R B X w hd hJ hs
  have := hy i (by simpa using zDm hd) B X w hJ hs
  rw [List.getElem_map, zKp hd] at this
  exact this
theorem zFg {w0 : World} {F : List (Nat × Obj)} (l : Lot) (p : At3) (but lb mm : Nat) (hk : LK w0 F l p but lb mm)  (bp : Nat) (h1 : Ats w0 F bp 0 [.pointer (some ⟨lb, 0, none⟩)]) : Iter Tryz.prog 75 [] [.pointer (some ⟨bp, 0, none⟩)] (((Ha.ways l but).map pad6).map ia) w0 F := by
  intro J Js yv B X w hyv hy hJ hs
  obtain ⟨yf, ya, yb, rfl⟩ := hyv
  have hlb := hk.ok.lb
  show Con Tryz.prog 75 [.func yf ya yb, .pointer (some ⟨bp, 0, none⟩)] w _
  refine zAt (n := 12) func75 rfl rfl (zNl rfl) ?_
  refine zAe (fun K2 g4 => (zAa (zCa (v := .func _ _ _) (cs := [_]) zAc rfl rfl rfl hs (fun b3 w4 g0 => ?_))))
  refine zAd (zAb (g4 _ _ (zAe (fun K7 g5 => (zAa (w_p (zAj isAgg92 g0.tail.drop.drop rfl rfl h1) rfl (w_p (zCc (fv := [_]) (cv := []) rfl rfl rfl rfl) rfl (zBf (cs := [_]) zAc zeroValue139 rfl g0 (fun b8 w9 g6 => ?_)))))))))
  refine zA6 (i := 0) (v := .func _ _ _) (vs := [_]) zAc sizeOf139 rfl rfl rfl rfl rfl (by simp [Value.oneCell']) g6 rfl (zNl rfl) (fun gj g7 => ?_)
  refine zAd (zAb (g5 _ _ (zAe (fun gk g8 => (zAa (zBf (cs := iv [0,0,0,0,0,0]) zAc zeroValue101 rfl g7 (fun g9 gm ga => ?_)))))))
  refine zBf (cs := iv [0,0,0,0,0,0]) zAc zeroValue101 rfl ga (fun gb gn gc => ?_)
  refine zAd (zAb (g8 _ _ (zAe (fun gq gd => (zAa (zBf (cs := [_]) zAc zeroValue127 rfl gc (fun gf gr gg => ?_)))))))
  refine zAd (zAb (gd _ _ (zAe (fun gt gh => (zAa (w_p (zCc (fv := []) (cv := [_,_,_,_,_,_]) rfl rfl rfl rfl) rfl (zA6 (i := 0) (v := .func _ _ _) (vs := [_]) zAc sizeOf127 rfl rfl rfl rfl rfl (by simp [Value.oneCell']) gg rfl (zNl rfl) (fun gu g3 => ?_))))))))
  refine zAd (zAb (gh _ _ (zAa (w_p (zAj isAgg127 g3 rfl rfl (zAk (i := 0) (vs := [_]) rfl rfl)) rfl (zAr zAc call77 rfl rfl rfl rfl (next_all l p but lb mm hk bp g9 gb b8 b3 gf h1 ((Ha.ways l but).map pad6) (padw_nodup l but) J Js (.func yf ya yb) (iter_lists hy) l.bunches.length 0 [] (List.replicate 6 0) (List.replicate 6 0) 0 [] B X _ (by omega) rfl rfl (fun z h => by have := (List.mem_replicate.1 h).2; omega) rfl (fun j _ => by match j with | 0 => rfl | 1 => rfl | 2 => rfl | 3 => rfl | 4 => rfl | 5 => rfl | _ + 6 => rfl) (by omega) (by rw [List.append_nil, seg_all]; rfl) rfl (fun hn => by rw [List.drop_zero]; exact zero_notin hk.ok hn) hJ g3) ?_)))))
  rintro _ gv ⟨cur2, last2, B2, _,_,_,_,_, gi, hB2⟩
  refine zAd (q_end (l := []) (vs := []) rfl trivial ?_)
  refine ⟨B2, gi.tail.tail.tail.tail.tail, ?_⟩
  rcases hB2 with ⟨_, i', hi', hd', _, hJ'⟩ | ⟨_, hJ'⟩
  · left; rw [List.length_map, ← drop_done hi' hd']; exact hJ'
  · exact .inr hJ'

theorem c43 {w0 w : World} {F : List (Nat × Obj)} (lb : Nat) (hs : St w0 w F) :
  Con Tryz.prog 43 [.pointer (some ⟨lb, 0, none⟩)] w fun v w' => ∃ bp, v = .func (.func 75) #[] #[.pointer (some ⟨bp, 0, none⟩)] ∧ St w0 w' ((bp, blk 92 [.pointer (some ⟨lb, 0, none⟩)]) :: F) := by
  refine zAt (n := 4) func43 rfl rfl (zNl rfl) ?_
  refine zAe (fun K2 g0 => (zAa (zCa (v := .pointer _) (cs := [_]) zAc rfl rfl rfl hs (fun b3 w4 g3 => ?_))))
  refine zA5 rfl rfl (zAd (zAb (g0 _ _ (zAe (fun K7 g4 => (zAa (w_p (zCc (fv := []) (cv := [_]) rfl rfl rfl rfl) rfl (w_p (zAo (v := .func _ _ _) rfl rfl) rfl ?_))))))))
  refine zAd (zAb (g4 _ _ (zAy (zA1 (l := [.tmp 2]) (vs := [_]) rfl ⟨⟨rfl, show _ = (.func _ _ _ : Value) from rfl⟩, trivial⟩ ?_))))
  exact ⟨_, rfl, g3⟩

theorem c64 {w0 w : World} {F : List (Nat × Obj)} (l : Lot) (p : At3) (but lb mm : Nat) (hk : LK w0 F l p but lb mm)  (hs : St w0 w F) :
  Con Tryz.prog 64 [.pointer (some ⟨lb, 0, none⟩)] w fun v w' => v = .bool (!(Ha.ways l but).isEmpty) ∧ St w0 w' F := by
  refine zFb (n := 6) func64 rfl rfl (zNl rfl) ?_
  refine zAe (fun K2 g5 => (zAa (zBf (cs := [_]) zAc zeroValue4 rfl hs (fun b3 w4 g6 => ?_))))
  refine zAd (zAb (g5 _ _ (zAe (fun K7 g7 => (zAe (fun K9 g8 => (zAa (w_p (zAi (v := .pointer _) rfl rfl) rfl (zAr zAc call43 rfl rfl rfl rfl (c43 _ g6) ?_)))))))))
  rintro _ gg ⟨bp, rfl, g9⟩
  refine zAd (zAb (g8 _ _ (zAw ?_)))
  refine zHp ([_]) (fun i Bx => i = 0 ∧ Bx = [(b3, blk 4 [.bool false])]) (fun c Bx => c = .ret ∧ Bx = [(b3, blk 4 [.bool true])] ∧ 0 < (Ha.ways l but).length) rfl rfl rfl call75 (zFg l p but lb mm hk.cons bp (zAk (i := 0) (vs := [_]) rfl rfl)) g9 (List.Perm.swap _ _ _) ⟨rfl, rfl⟩ ?_ ?_ ?_
  ·
   intro lp i hi Bx Xr Xr2 gh hJ hs K ga
   obtain ⟨rfl, rfl⟩ := hJ
   have hi0 : 0 < (Ha.ways l but).length := by simpa using hi
   replace hs := (show St _ _ (_ :: (Xr ++ (_ :: F))) from hs)
   refine zAs (zAb (ga _ _ (_ :: []) hs (fun gi g0 => ?_)))
   replace g0 := (show St _ _ (_ :: Xr2 ++ (_ :: F)) from g0)
   refine zAw ?_
   refine zAe (fun gj gb => (zAa (zA6 (i := 0) (v := .bool _) (vs := [_]) zAc sizeOf4 rfl rfl rfl rfl rfl (by simp [Value.oneCell']) g0 rfl (zNl rfl) (fun gk gc => ?_))))
   refine zAd (zAb (gb _ _ (zAy (zAv (rd_ret (_ :: []) gc ?_)))))
   exact ⟨rfl, rfl, hi0⟩
  ·
   intro bd Bx gm hJ hs
   obtain ⟨h0, rfl⟩ := hJ
   rw [List.length_map, List.length_map] at h0
   refine zAl (zAb (g7 _ _ (zAe (fun gn gd => (zAa (zA6 (i := 1) (v := .bool _) (vs := [_]) zAc sizeOf4 rfl rfl rfl rfl rfl (by simp [Value.oneCell']) hs rfl (zNl rfl) (fun gq gf => ?_)))))))
   refine zAd (zAb (gd _ _ (zAy (zHm (i := 0) (l := [.cell 2 4]) (vs := [_]) gf rfl rfl (fun gr g3 => ⟨⟨⟨rfl, _, rfl, zD0 isAgg4 g3 (zAk (i := 1) (vs := [_]) rfl rfl)⟩, trivial⟩, ?_⟩)))))
   first
     | exact ⟨congrArg Value.bool (by rw [List.length_eq_zero_iff.1 h0]; rfl), g3.tail.tail.tail⟩
     | exact ⟨congrArg Value.bool (by cases hd : Ha.ways l but with | nil => rw [hd] at h0; simp at h0 | cons _ _ => rfl), g3.tail.tail.tail⟩
  intro bd c Bx gt hJ hs
  obtain ⟨rfl, rfl, h0⟩ := hJ
  refine zAy (zAv (zAg (zHm (i := 0) (l := [.cell 2 4]) (vs := [_]) hs rfl rfl (fun gu g4 => ⟨⟨⟨rfl, _, rfl, zD0 isAgg4 g4 (zAk (i := 1) (vs := [_]) rfl rfl)⟩, trivial⟩, ?_⟩))))
  first
    | exact ⟨congrArg Value.bool (by rw [List.length_eq_zero_iff.1 h0]; rfl), g4.tail.tail.tail⟩
    | exact ⟨congrArg Value.bool (by cases hd : Ha.ways l but with | nil => rw [hd] at h0; simp at h0 | cons _ _ => rfl), g4.tail.tail.tail⟩

end Go.Proofs.Hn
/- Plain words of the hand layer: grades as bits, one number of scars after the other. No conditions. -/
namespace Go.Rt.Ha
theorem upto_snoc : ∀ (n : Nat) (lo : Int), upto lo (n + 1) = upto lo n ++ [lo + n]
  | 0, lo => by simp [upto]
  | n + 1, lo => by
    rw [upto, upto_snoc n (lo + 1)]
    simp only [upto, List.cons_append]
    rw [show lo + 1 + (n : Int) = lo + (n + 1 : Nat) by omega]
theorem orG_snoc (gs : List Grade) (h s : Int) : ∀ l, orG gs h (l ++ [s]) = orG gs h l ||| 1 <<< (ofG gs 0 h s + 1).toNat
  | [] => by simp [orG]
  | x :: l => by simp only [List.cons_append, orG, orG_snoc gs h s l, Nat.or_assoc]
theorem ofG_to {gs : List Grade} {h s : Int} (hl : gs.length ≤ 4) : 0 ≤ ofG gs 0 h s + 1 ∧ (ofG gs 0 h s + 1).toNat ≤ 4 ∧ ofG gs 0 h s ≤ 3 := by
  rcases zIh h s gs 0 (by omega) with e | e <;> omega
theorem shl_5 {x : Nat} (h : x ≤ 4) : 1 <<< x < 32 ∧ 0 < 1 <<< x := by
  match x, h with
  | 0, _ => decide
  | 1, _ => decide
  | 2, _ => decide
  | 3, _ => decide
  | 4, _ => decide
theorem orG_lt {gs : List Grade} {h : Int} (hl : gs.length ≤ 4) : ∀ l, orG gs h l < 32
  | [] => by simp [orG]
  | x :: l => by
    simp only [orG]
    exact Nat.or_lt_two_pow (n := 5) (shl_5 (ofG_to hl).2.1).1 (orG_lt hl l)
theorem orG_pos {gs : List Grade} {h : Int} (hl : gs.length ≤ 4) {l : List Int} (hne : l ≠ []) : 0 < orG gs h l := by
  cases l with
  | nil => exact absurd rfl hne
  | cons x l =>
    simp only [orG]
    have h1 := (shl_5 (ofG_to (gs := gs) (h := h) (s := x) hl).2.1).2
    have h2 := Nat.left_le_or (n := 1 <<< (ofG gs 0 h x + 1).toNat) (m := orG gs h l)
    omega
theorem zFa {l : Lot} (hok : l.Ok) {b : Nat} (hb : b < l.bunches.length) (h : Int) : 0 < gradesB l (bunchOf l b) h ∧ gradesB l (bunchOf l b) h < 32 := by
  have hne := scars_ne hok hb
  exact ⟨orG_pos hok.lg.2 hne, orG_lt hok.lg.2 _⟩
theorem setW_lt {l : Lot} (hok : l.Ok) (b : Nat) (ws : List (List Int)) : setW l b ws < 32 := by
  have key : ∀ (ws : List (List Int)) (s : Nat), s < 32 → ws.foldl (fun s h => s ||| gradesB l (bunchOf l b) (at_ h b)) s < 32 := by
    intro ws
    induction ws with
    | nil => intro s h; exact h
    | cons x ws ih => intro s h; exact ih _ (Nat.or_lt_two_pow (n := 5) h (orG_lt hok.lg.2 _))
  exact key ws 0 (by omega)
theorem fold_take {α β : Type} (f : β → α → β) (s : β) {l : List α} {i : Nat} (h : i < l.length) : (l.take (i + 1)).foldl f s = f ((l.take i).foldl f s) l[i] := by
  rw [List.take_succ_eq_append_getElem h, List.foldl_append]; rfl
theorem way_in {l : Lot} (hok : l.Ok) {but : Nat} {h : List Int} (hw : h ∈ ways l but) (b : Nat) : 0 ≤ at_ h b ∧ at_ h b ≤ 12 := by
  have hl := way_len hw
  unfold at_
  by_cases hb : b < h.length
  · have := (zKo hok (zH3 hw)).2 h[b] (List.getElem_mem hb)
    simp only [List.getD, List.getElem?_eq_getElem hb, Option.getD_some]; omega
  · simp [List.getD, List.getElem?_eq_none (by omega : h.length ≤ b)]
theorem span_in {l : Lot} (hok : l.Ok) {but : Nat} (b i : Nat) : 0 ≤ (spanW b ((ways l but).take i)).1 ∧ (spanW b ((ways l but).take i)).1 ≤ 12 ∧ 0 ≤ (spanW b ((ways l but).take i)).2 ∧ (spanW b ((ways l but).take i)).2 ≤ 12 := by
  have key : ∀ (ws : List (List Int)) (s : Int × Int), (∀ h ∈ ws, 0 ≤ at_ h b ∧ at_ h b ≤ 12) → 0 ≤ s.1 → s.1 ≤ 12 → 0 ≤ s.2 → s.2 ≤ 12 → 0 ≤ (ws.foldl (joinS b) s).1 ∧ (ws.foldl (joinS b) s).1 ≤ 12 ∧ 0 ≤ (ws.foldl (joinS b) s).2 ∧ (ws.foldl (joinS b) s).2 ≤ 12 := by
    intro ws
    induction ws with
    | nil => intro s _ h1 h2 h3 h4; exact ⟨h1, h2, h3, h4⟩
    | cons x ws ih =>
      intro s hh h1 h2 h3 h4
      have hx := hh x (.head _)
      refine ih _ (fun h hm => hh h (.tail _ hm)) ?_ ?_ ?_ ?_ <;> simp only [joinS] <;> omega
  exact key _ _ (fun h hh => way_in hok (List.mem_of_mem_take hh) b) (by decide) (by decide) (by decide) (by decide)
end Go.Rt.Ha
/- The walking engine, part 13: whole quotients. Plain theorems over the kit's fenced calculus. No conditions. -/
namespace Go.Rt
variable {r : Option Nat} {P : Program} {ops : Array Oper} {Q : Exit → Act → World → Prop} {rest : List Oper} {n : Nat} {ρ : Nat → Value} {ds : List Deferred} {w w0 : World} {d : Option Nat} {ty : TypeId} {p : String} {e : Array Edge} {g : Option (Nat × Bool)} {L : List (Nat × Obj)}
theorem y_quo {t t2 : TypeId} {x y : Operand} {a b : Int} (ho : okO n x = true) (ho1 : okO n y = true) (hx : ev ρ x = .int .i64 a) (hy : ev ρ y = .int .i64 b) (ha : 0 ≤ a) (hb : 0 < b) (hm : a ≤ 9223372036854775807) :
    Yd P (A n ρ ds) ⟨d, .binOp .quo t x y t2, ty, p, e, g⟩ w (.int .i64 (a / b)) := zHk ho ho1 hx hy fun w => by
  have h0 : b ≠ 0 := by omega
  have h1 : 0 ≤ a / b := Int.ediv_nonneg ha (by omega)
  have h2 : a / b ≤ a := Int.ediv_le_self _ ha
  have hw : IntKind.i64.wrap (a / b) = a / b := zFt (by omega) (by omega)
  simp [binOp_quo, Op.intDiv, h0, Int.tdiv_eq_ediv_of_nonneg ha, hw]
theorem w_drawD {id : Nat} {l : List Oper} {Q : Exit → Act → World → Prop} {C0 C : World → Prop} (late : List Nat) (ord : List (Nat × Nat)) (hm : P.follows .mixedOrders = true) (hB : drawOK l.toArray late ord = true) (hC : C0 w) (h0 : ∀ w, C0 w → C w)
    (hdrew : ∀ w, C0 w → C0 { w with drawn := w.drawn + 1 }) (h : ∀ w', C0 w' → DW r P l.toArray (fun a w => Q .normal a w) C ord (A n ρ ds) w') : WC r P (.region id l.toArray true) Q (A n ρ ds) w := by
  unfold drawOK at hB
  simp only [Bool.and_eq_true] at hB
  obtain ⟨⟨⟨h1, h2⟩, h3⟩, h4⟩ := hB
  have hst' := hdrew _ hC
  have hsz : ord.length = l.toArray.size := Nat.eq_of_beq_eq_true h3
  have := zH4 h1 h2 ord (Array.replicate l.toArray.size false) (A n ρ ds) _ (by simp) h4 (fun _ => h0 _ hst') (h _ hst')
  have hany := zFh _ _ _ _ this
  rw [hsz] at hany
  refine wpIn_mono (wpIn_region_any hm hany) ?_
  intro e a w hq
  cases e <;> first | exact hq | exact hq.elim
end Go.Rt
/- The walking engine, part 14: lookups that ask for the value alone. No conditions. -/
namespace Go.Rt
open Go.RowKit
variable {r : Option Nat} {P : Program} {ops : Array Oper} {Q : Exit → Act → World → Prop} {rest : List Oper} {n : Nat} {ρ : Nat → Value} {ds : List Deferred} {d : Option Nat} {ty : TypeId} {p : String} {e : Array Edge} {g : Option (Nat × Bool)} {w w0 : World} {L : List (Nat × Obj)}
theorem K_look1S {mt kt el : TypeId} {x y : Operand} {l : List Int} {a : Value} {m i k j : Nat} {es : Array MapEntry} {ck : Nat} {v : Value} (hU : P.underlying mt = some (.map kt el)) (hK : KeyTy P kt k) (hkl : l.length = k)
    (hst : St w0 w L) (ho : okO n x = true) (ho1 : okO n y = true) (hx : ev ρ x = .map (some m)) (hy : ev ρ y = a) (ha : a = ia l) (hi : L[i]? = some (m, .map es ck)) (hf : ∀ w, (Instr.findKey kt (ia l) es.toList).run P w = .ok (some (j, v)) w) :
    Yd P (A n ρ ds) ⟨d, .lookup mt x y false, ty, p, e, g⟩ w v := by
  unfold Yd
  have hc := hK.chk es.isEmpty l w hkl
  have : (Instr.lookup mt (.map (some m)) (ia l) false).run P w = .ok v w := by
    simp only [Instr.lookup, Sem.run_bind, run_underlying hU, Result.andThen_ok, hst.obj hi, Sem.run_pure, hc, hf, if_true]
    rfl
  simp only [execOp, zB3 ho, zB3 ho1, hx, hy, ha, Sem.run_bind, this]
  rfl
theorem K_look1N {mt kt el : TypeId} {x y : Operand} {l : List Int} {a : Value} {m i k : Nat} {es : Array MapEntry} {ck : Nat} {z : Value} (hU : P.underlying mt = some (.map kt el)) (hK : KeyTy P kt k) (hkl : l.length = k)
    (hz : ∀ w, (zeroValue el).run P w = .ok z w) (hst : St w0 w L) (ho : okO n x = true) (ho1 : okO n y = true) (hx : ev ρ x = .map (some m)) (hy : ev ρ y = a) (ha : a = ia l) (hi : L[i]? = some (m, .map es ck))
    (hf : ∀ w, (Instr.findKey kt (ia l) es.toList).run P w = .ok none w) : Yd P (A n ρ ds) ⟨d, .lookup mt x y false, ty, p, e, g⟩ w z := by
  unfold Yd
  have hc := hK.chk es.isEmpty l w hkl
  have : (Instr.lookup mt (.map (some m)) (ia l) false).run P w = .ok z w := by
    simp only [Instr.lookup, Sem.run_bind, run_underlying hU, Result.andThen_ok, hst.obj hi, Sem.run_pure, hc, hf, hz, if_true]
    rfl
  simp only [execOp, zB3 ho, zB3 ho1, hx, hy, ha, Sem.run_bind, this]
  rfl
end Go.Rt
