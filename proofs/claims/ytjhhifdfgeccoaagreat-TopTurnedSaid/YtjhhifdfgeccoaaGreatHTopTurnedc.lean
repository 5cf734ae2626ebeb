/- Own texts of this claim, joined. No conditions. -/
import Derived.Test.YtjhhifdfgeccoaaGreatHTopTurneda
import Derived.Test.YtjhhifdfgeccoaaGreatHTopTurnedb
set_option linter.unusedVariables false
set_option linter.unusedSimpArgs false
set_option maxRecDepth 20000
namespace Go.Proofs.Ut
open Go.Proofs.Tryz
open Go.Rt Go.Rt.Tu
open Go.Rt.Ha (firstE zB3 zAp zBn failE felt spanL upto zBv listL fewest fewTo bit Bunch before fewStep zB8 zCi zBx zB2 zCg zCf zBu)
attribute [local irreducible] WL WC Con Yd At Ats Sl Agree DW
theorem zDt (x0 : Int) (w : World) : (Instr.buildSlice 22 1 [(0, .int .i64 x0)].toArray).run Tryz.prog w = .ok (.slice (some ⟨w.heap.size, 0, none⟩) 1 1) (w.alloc (Go.Rt.blk 3 [.int .i64 x0])) := by kernel_rfl
theorem Try_UC_fb1 (x0 : Int) (x1 : Int) (w : World) : (Instr.buildSlice 22 2 [(0, .int .i64 x0),(1, .int .i64 x1)].toArray).run Tryz.prog w = .ok (.slice (some ⟨w.heap.size, 0, none⟩) 2 2) (w.alloc (Go.Rt.blk 3 [.int .i64 x0, .int .i64 x1])) := by kernel_rfl
theorem Try_UC_fb2 (x0 : Bool) (x1 : Int) (w : World) : (Instr.build 88 [(0, .bool x0),(1, .int .i64 x1)].toArray).run Tryz.prog w = .ok (.agg #[.bool x0, .int .i64 x1]) w := by kernel_rfl
theorem zI1 {w0 : World} {F : List (Nat × Obj)} {a : Option Addr} {l : List (Int × Int)} {i : Nat} (h : Sl w0 F a 2 (srows l)) (hi : i < l.length) : ∃ b off, a = some ⟨b, off, none⟩ ∧ Ats w0 F b (off + i * 2) (scells l[i]) := by
  obtain ⟨b, off, ha, _, hat⟩ := h.at (i := i) (row := scells l[i]) (by simp [srows, hi])
  exact ⟨b, off, ha, hat⟩
theorem sl_lrows {w0 : World} {F : List (Nat × Obj)} {a : Option Addr} {l : List (Tu.Lot)} {i : Nat} (h : Sl w0 F a 4 (lrows l)) (hi : i < l.length) : ∃ b off, a = some ⟨b, off, none⟩ ∧ Ats w0 F b (off + i * 4) (l[i].cells) := by
  obtain ⟨b, off, ha, _, hat⟩ := h.at (i := i) (row := l[i].cells) (by simp [lrows, hi])
  exact ⟨b, off, ha, hat⟩
theorem zI2 {w0 : World} {F : List (Nat × Obj)} {a : Option Addr} {l : List (Tu.Look)} {i : Nat} (h : Sl w0 F a 3 (nrows l)) (hi : i < l.length) : ∃ b off, a = some ⟨b, off, none⟩ ∧ Ats w0 F b (off + i * 3) (l[i].cells) := by
  obtain ⟨b, off, ha, _, hat⟩ := h.at (i := i) (row := l[i].cells) (by simp [nrows, hi])
  exact ⟨b, off, ha, hat⟩
structure TIn (w0 : World) (F : List (Nat × Obj)) (c : Cargo) (p : AtT) : Prop where
  e : Sl w0 F p.ae 1 (c.heat.map fun x => [Value.int .i64 x])
  h : Sl w0 F p.ah 2 (srows c.holds)
  l : Sl w0 F p.al 4 (lrows c.lots)
  n : Sl w0 F p.an 3 (nrows c.seen)
  le : c.heat.length ≤ 9223372036854775807
  lh : c.holds.length ≤ 9223372036854775807
  ll : c.lots.length ≤ 9223372036854775807
  ln : c.seen.length ≤ 9223372036854775807
theorem TIn.mono {w0 : World} {F F' : List (Nat × Obj)} {c : Cargo} {p : AtT} (h : TIn w0 F c p) (hs : ∀ w, St w0 w F' → St w0 w F) : TIn w0 F' c p := ⟨h.e.mono hs, h.h.mono hs, h.l.mono hs, h.n.mono hs, h.le, h.lh, h.ll, h.ln⟩
theorem TIn.cons {w0 : World} {F : List (Nat × Obj)} {x : Nat × Obj} {c : Cargo} {p : AtT} (h : TIn w0 F c p) : TIn w0 (x :: F) c p := h.mono fun _ h => h.tail
theorem TIn.app {w0 : World} {F B : List (Nat × Obj)} {c : Cargo} {p : AtT} (h : TIn w0 F c p) : TIn w0 (B ++ F) c p := h.mono fun _ h => h.drop
theorem TIn.top {w0 : World} {F B : List (Nat × Obj)} {c : Cargo} {p : AtT} (h : TIn w0 B c p) : TIn w0 (B ++ F) c p := h.mono fun _ h => h.front
theorem tup3 {x : Int × Int × Int} {a b c : Int} (h : x = (a, b, c)) : Value.tuple #[.int .i64 a, .int .i64 b, .int .i64 c] = .tuple #[.int .i64 x.1, .int .i64 x.2.1, .int .i64 x.2.2] := by subst h; rfl
theorem zHz {P : Program} {a : Act} {o : Oper} {w : World} {k : IntKind} {z z' : Int} (h : z = z') (hy : Yd P a o w (.int k z)) : Yd P a o w (.int k z') := h ▸ hy
theorem zCl {P : Program} {a : Act} {o : Oper} {w : World} {x y : Option Addr} {l c : Nat} (h : x = y) (hy : Yd P a o w (.slice x l c)) : Yd P a o w (.slice y l c) := h ▸ hy
theorem iv1 {a b : Int} (h : a = b) : [Value.int .i64 a] = [Value.int .i64 b] := by rw [h]
theorem iv2 {a b c d : Int} (h : a = b) (h2 : c = d) : [Value.int .i64 a, Value.int .i64 c] = [Value.int .i64 b, Value.int .i64 d] := by rw [h, h2]
theorem zDk {α : Type} {err : List α → α → Int} {lo most : Int} {l : List α} (h : [(l.length : Int)].any (out lo most) = true) : failE err lo most l = (0,3) := by
  unfold failE; rw [if_pos (by simpa using h)]
theorem zCh {α : Type} {err : List α → α → Int} {lo most : Int} {l : List α} (h : [(l.length : Int)].any (out lo most) = false) : failE err lo most l = firstE err [] 0 l := by
  unfold failE; rw [if_neg (by simpa using h)]
theorem seenE_a {c : Cargo} {bf : List Tu.Look} {s : Tu.Look} (h : [s.lot].any (out 0 ((c.lots.length : Int) - 1)) = true) : seenE c bf s = 4 := by unfold seenE; rw [if_pos (by simpa using h)]
theorem seenE_b {c : Cargo} {bf : List Tu.Look} {s : Tu.Look} {l : Tu.Lot} (hl : lotAt c s.lot.toNat = l) (h : [s.lot].any (out 0 ((c.lots.length : Int) - 1)) = false) (h2 : [s.hour].any (out l.frm c.heat.length) = true) : seenE c bf s = 7 := by subst hl; unfold seenE; rw [if_neg (by simpa using h), if_pos (by simpa using h2)]
theorem seenE_c {c : Cargo} {bf : List Tu.Look} {s : Tu.Look} {l : Tu.Lot} (hl : lotAt c s.lot.toNat = l) (h : [s.lot].any (out 0 ((c.lots.length : Int) - 1)) = false) (h2 : [s.hour].any (out l.frm c.heat.length) = false) : seenE c bf s = 0 := by subst hl; unfold seenE; rw [if_neg (by simpa using h), if_neg (by simpa using h2)]
theorem ats_of {w0 w : World} {L : List (Nat × Obj)} {i b : Nat} {t : TypeId} {cs vs : List Value} (hs : St w0 w L) (hi : L[i]? = some (b, blk t cs)) (h : (cs.drop 0).take vs.length = vs) : Ats w0 L b 0 vs := zB9 hi h
theorem c80 {w0 w : World} {F : List (Nat × Obj)} (a : Option Addr) (c : Nat) (l : List (Int)) (hl : l.length ≤ 9223372036854775807) (lo most : Int) (ha : Sl w0 F a 1 (l.map fun x => [Value.int .i64 x])) (fv : Value) (err : List (Int) → (Int) → Int)
    (hp : ∀ (i : Nat) (hi : i < l.length) (X : List (Nat × Obj)) (w : World), St w0 w (X ++ F) → FCon Tryz.prog fv [.int .i64 l[i]] w fun v w' => v = .int .i64 (err (l.take i) l[i]) ∧ St w0 w' (X ++ F)) (hs : St w0 w F) :
  Con Tryz.prog 80 [.slice a l.length c, .int .i64 lo, .int .i64 most, fv] w fun v w' => v = .tuple #[.int .i64 (failE err lo most l).1, .int .i64 (failE err lo most l).2] ∧ St w0 w' F := by
  refine zAo (n := 34) func80 rfl rfl (zNl rfl) ?_
  refine zAf (fun K2 g7 => (zAb (zBi rfl rfl (zBi rfl rfl (zAd (zAc (g7 _ _ (zAf (fun K4 g8 => (zAf (fun K6 g9 => (zAb (zA6 rfl rfl (zA6 rfl rfl ?_))))))))))))))
  refine w_p (zAx rfl rfl) rfl (w_p (zBc underlying22 rfl rfl) rfl (zAu (ps := [(0, _)]) (pv := [(0, .int _ _)]) (cs := [_]) zAa rfl rfl (fun w => zDt _ w) hs (fun b7 w8 ga => ?_)))
  refine zCo zAa call78 rfl rfl rfl rfl (c78 _ _ _ [_] _ (by simp) (zBb (i := 0) (rows := [[_]]) rfl (by simp) rfl) ga) (fun gp g0 => ?_)
  refine zAd (zAc (g9 _ _ (zAr rfl rfl (fun g4 => ?_) (fun g4 => ?_))))
  ·
   try simp only [zS] at g4
   refine zAf (fun gq gc => (zAb (zBi rfl rfl (zBi rfl rfl (zAd (zAc (gc _ _ (zA8 (zAl (zBa (l := [.tmp 8, .tmp 9]) (vs := [_,_]) rfl ⟨⟨rfl, (rfl : _ = Value.int _ _)⟩, ⟨rfl, (rfl : _ = Value.int _ _)⟩, trivial⟩ ?_))))))))))
   first
     | (rw [zDk (by assumption)]
        exact ⟨rfl, g0.tail⟩)
     | (rw [zCh (by assumption), hinv, zAp hi2 (by assumption)]
        exact ⟨rfl, g0.tail⟩)
     | (rw [zCh (by assumption), hinv, zBn (by omega)]
        exact ⟨rfl, g0.tail⟩)
  try simp only [zS] at g4
  refine zAn (zAc (g8 _ _ (zAf (fun gt gd => (zAf (fun gu ge => (zAb (w_p (zAx rfl rfl) rfl (w_p (zBc underlying22 rfl rfl) rfl (w_p (zBy (v := _) rfl rfl) rfl ?_))))))))))
  refine zAd (zAc (ge _ _ (zAq ?_)))
  refine zB6 [8,9,10,11,12,21,22,23,24,25,26,27,28,29,30,31,32,33] [21] (fun k vs w => ∃ (i : Nat), vs = [.int .i64 i] ∧ i ≤ l.length ∧ k = l.length - i ∧ firstE err [] 0 l = firstE err (l.take i) i (l.drop i) ∧ St w0 w F) (l.length) ?_ ?_
  ·
   exact ⟨0, rfl, by omega, by omega, by simp, g0.tail⟩
  intro k vs μ gv hI gw gf
  obtain ⟨i, rfl, hia, rfl, hinv, hs⟩ := hI
  refine zAf (fun gx gg => (zAb (w_p (zCp rfl rfl rfl rfl) rfl (zAd (zAc (gg _ _ (zAf (fun gy gh => (zAr rfl rfl (fun g5 => ?_) (fun g5 => ?_))))))))))
  ·
   try simp only [zS] at g5
   refine zAn (zAc (gh _ _ (zAf (fun gz gi => (zAq ?_)))))
   refine zAf (fun gA gj => ?_)
   have hi2 : i < l.length := by omega
   obtain ⟨bx, ox, rfl, hx⟩ := zCx ha hi2
   refine zAb (zA6 rfl rfl (w_p (zA7 underlying22 sizeOf3 rfl rfl rfl rfl (i := _) rfl (by omega)) rfl (w_p (zAg isAgg3 hs rfl rfl hx) rfl (zBw rfl rfl (zBw rfl rfl (zAd (zAc (gj _ _ (zAf (fun gB gk => (zAb (w_p (zBy (v := fv) rfl rfl) rfl ?_))))))))))))
   refine zA6 rfl rfl (zD0 zAa rfl rfl rfl rfl (hp i hi2 [] _ hs) ?_)
   rintro _ gC ⟨rfl, g3⟩
   refine zBw rfl rfl (zAd (zAc (gk _ _ (zAf (fun gD gm => (zAb (zA6 rfl rfl (w_p (zCs rfl rfl rfl rfl) rfl (zAd (zAc (gm _ _ (zAr rfl rfl (fun g6 => ?_) (fun g6 => ?_)))))))))))))
   ·
    try simp only [zS] at g6
    refine zAf (fun gE gn => (zAb (zA6 rfl rfl (zA6 rfl rfl (zBw rfl rfl (zBw rfl rfl (zAd (zAc (gn _ _ (zA8 (zA9 (zAl (zAl (zA9 (zAl (zBa (l := [.tmp 8, .tmp 9]) (vs := [_,_]) rfl ⟨⟨rfl, (rfl : _ = Value.int _ _)⟩, ⟨rfl, (rfl : _ = Value.int _ _)⟩, trivial⟩ ?_))))))))))))))))
    first
      | (rw [zDk (by assumption)]
         exact ⟨rfl, g3⟩)
      | (rw [zCh (by assumption), hinv, zAp hi2 (by assumption)]
         exact ⟨rfl, g3⟩)
      | (rw [zCh (by assumption), hinv, zBn (by omega)]
         exact ⟨rfl, g3⟩)
   try simp only [zS] at g6
   refine zAn (zAi (zAc (gi _ _ (zAb (w_p (zBo rfl rfl rfl rfl (by omega) (by omega)) rfl (zA6 rfl rfl (zAd (zAc (gf _ _ (nxI (l.length - (i + 1)) (by omega) ?_))))))))))
   exact ⟨i + 1, rfl, by omega, rfl, hinv.trans (zB3 hi2 (by assumption)), g3⟩
  try simp only [zS] at g5
  refine zBt (zAj (zAj (zAv (zAc (gd _ _ (zAf (fun gF go => (zAb (zBi rfl rfl (zBi rfl rfl (zAd (zAc (go _ _ (zA8 (zBa (l := [.tmp 8, .tmp 9]) (vs := [_,_]) rfl ⟨⟨rfl, (rfl : _ = Value.int _ _)⟩, ⟨rfl, (rfl : _ = Value.int _ _)⟩, trivial⟩ ?_)))))))))))))))
  first
    | (rw [zDk (by assumption)]
       exact ⟨rfl, hs⟩)
    | (rw [zCh (by assumption), hinv, zAp hi2 (by assumption)]
       exact ⟨rfl, hs⟩)
    | (rw [zCh (by assumption), hinv, zBn (by omega)]
       exact ⟨rfl, hs⟩)

theorem c82 {w0 w : World} {F : List (Nat × Obj)} (a : Option Addr) (c : Nat) (l : List (Int × Int)) (hl : l.length ≤ 9223372036854775807) (lo most : Int) (ha : Sl w0 F a 2 (srows l)) (fv : Value) (err : List (Int × Int) → (Int × Int) → Int)
    (hp : ∀ (i : Nat) (hi : i < l.length) (X : List (Nat × Obj)) (w : World), St w0 w (X ++ F) → FCon Tryz.prog fv [.agg (scells l[i]).toArray] w fun v w' => v = .int .i64 (err (l.take i) l[i]) ∧ St w0 w' (X ++ F)) (hs : St w0 w F) :
  Con Tryz.prog 82 [.slice a l.length c, .int .i64 lo, .int .i64 most, fv] w fun v w' => v = .tuple #[.int .i64 (failE err lo most l).1, .int .i64 (failE err lo most l).2] ∧ St w0 w' F := by
  refine zAo (n := 34) func82 rfl rfl (zNl rfl) ?_
  refine zAf (fun K2 g8 => (zAb (zBi rfl rfl (zBi rfl rfl (zAd (zAc (g8 _ _ (zAf (fun K4 g9 => (zAf (fun K6 ga => (zAb (zA6 rfl rfl (zA6 rfl rfl ?_))))))))))))))
  refine w_p (zAx rfl rfl) rfl (w_p (zBc underlying23 rfl rfl) rfl (zAu (ps := [(0, _)]) (pv := [(0, .int _ _)]) (cs := [_]) zAa rfl rfl (fun w => zDt _ w) hs (fun b7 w8 gc => ?_)))
  refine zCo zAa call78 rfl rfl rfl rfl (c78 _ _ _ [_] _ (by simp) (zBb (i := 0) (rows := [[_]]) rfl (by simp) rfl) gc) (fun gt g0 => ?_)
  refine zAd (zAc (ga _ _ (zAr rfl rfl (fun g4 => ?_) (fun g4 => ?_))))
  ·
   try simp only [zS] at g4
   refine zAf (fun gu gd => (zAb (zBi rfl rfl (zBi rfl rfl (zAd (zAc (gd _ _ (zA8 (zAl (zBa (l := [.tmp 8, .tmp 9]) (vs := [_,_]) rfl ⟨⟨rfl, (rfl : _ = Value.int _ _)⟩, ⟨rfl, (rfl : _ = Value.int _ _)⟩, trivial⟩ ?_))))))))))
   first
     | (rw [zDk (by assumption)]
        exact ⟨rfl, g0.tail⟩)
     | (rw [zCh (by assumption), hinv, zAp hi2 (by assumption)]
        exact ⟨rfl, g0.tail⟩)
     | (rw [zCh (by assumption), hinv, zBn (by omega)]
        exact ⟨rfl, g0.tail⟩)
  try simp only [zS] at g4
  refine zAn (zAc (g9 _ _ (zAf (fun gv ge => (zAf (fun gw gf => (zAb (w_p (zAx rfl rfl) rfl (w_p (zBc underlying23 rfl rfl) rfl (w_p (zBy (v := _) rfl rfl) rfl ?_))))))))))
  refine zAd (zAc (gf _ _ (zAq ?_)))
  refine zB6 [8,9,10,11,12,21,22,23,24,25,26,27,28,29,30,31,32,33] [21] (fun k vs w => ∃ (i : Nat), vs = [.int .i64 i] ∧ i ≤ l.length ∧ k = l.length - i ∧ firstE err [] 0 l = firstE err (l.take i) i (l.drop i) ∧ St w0 w F) (l.length) ?_ ?_
  ·
   exact ⟨0, rfl, by omega, by omega, by simp, g0.tail⟩
  intro k vs μ gx hI gy gg
  obtain ⟨i, rfl, hia, rfl, hinv, hs⟩ := hI
  refine zAf (fun gz gh => (zAb (w_p (zCp rfl rfl rfl rfl) rfl (zAd (zAc (gh _ _ (zAf (fun gA gi => (zAr rfl rfl (fun g5 => ?_) (fun g5 => ?_))))))))))
  ·
   try simp only [zS] at g5
   refine zAn (zAc (gi _ _ (zAf (fun gB gj => (zAq ?_)))))
   refine zAf (fun gC gk => ?_)
   have hi2 : i < l.length := by omega
   obtain ⟨bx, ox, rfl, hx⟩ := zI1 ha hi2
   refine zAb (zA6 rfl rfl (w_p (zA7 underlying23 sizeOf36 rfl rfl rfl rfl (i := _) rfl (by omega)) rfl (w_p (zA2 (vs := [_,_]) isAgg36 sizeOf36 hs rfl rfl hx) rfl (zA1 (cs := [_,_]) zAa zeroValue36 rfl hs (fun gD gE gm => ?_)))))
   refine zBw rfl rfl (zBj 0 (.agg #[.int _ _, .int _ _]) [_,_] sizeOf36 gm (fun gF g7 => ?_))
   refine zAd (zAc (gk _ _ (zAf (fun gG gn => (zAb (w_p (zBy (v := fv) rfl rfl) rfl (w_p (zA2 (vs := [_,_]) isAgg36 sizeOf36 g7 rfl rfl (aow 0 [_,_])) rfl ?_)))))))
   refine zD0 zAa rfl rfl rfl rfl (hp i hi2 [_] _ g7) ?_
   rintro _ gH ⟨rfl, g3⟩
   refine zBw rfl rfl (zAd (zAc (gn _ _ (zAf (fun gI go => (zAb (zA6 rfl rfl (w_p (zCs rfl rfl rfl rfl) rfl (zAd (zAc (go _ _ (zAr rfl rfl (fun g6 => ?_) (fun g6 => ?_)))))))))))))
   ·
    try simp only [zS] at g6
    refine zAf (fun gJ gp => (zAb (zA6 rfl rfl (zA6 rfl rfl (zBw rfl rfl (zBw rfl rfl (zAd (zAc (gp _ _ (zA8 (zA9 (zAl (zAl (zA9 (zAl (zBa (l := [.tmp 8, .tmp 9]) (vs := [_,_]) rfl ⟨⟨rfl, (rfl : _ = Value.int _ _)⟩, ⟨rfl, (rfl : _ = Value.int _ _)⟩, trivial⟩ ?_))))))))))))))))
    first
      | (rw [zDk (by assumption)]
         exact ⟨rfl, g3.tail⟩)
      | (rw [zCh (by assumption), hinv, zAp hi2 (by assumption)]
         exact ⟨rfl, g3.tail⟩)
      | (rw [zCh (by assumption), hinv, zBn (by omega)]
         exact ⟨rfl, g3.tail⟩)
   try simp only [zS] at g6
   refine zAn (zAi (zAc (gj _ _ (zAb (w_p (zBo rfl rfl rfl rfl (by omega) (by omega)) rfl (zA6 rfl rfl (zAd (zAc (gg _ _ (nxI (l.length - (i + 1)) (by omega) ?_))))))))))
   exact ⟨i + 1, rfl, by omega, rfl, hinv.trans (zB3 hi2 (by assumption)), g3.tail⟩
  try simp only [zS] at g5
  refine zBt (zAj (zAj (zAv (zAc (ge _ _ (zAf (fun gK gq => (zAb (zBi rfl rfl (zBi rfl rfl (zAd (zAc (gq _ _ (zA8 (zBa (l := [.tmp 8, .tmp 9]) (vs := [_,_]) rfl ⟨⟨rfl, (rfl : _ = Value.int _ _)⟩, ⟨rfl, (rfl : _ = Value.int _ _)⟩, trivial⟩ ?_)))))))))))))))
  first
    | (rw [zDk (by assumption)]
       exact ⟨rfl, hs⟩)
    | (rw [zCh (by assumption), hinv, zAp hi2 (by assumption)]
       exact ⟨rfl, hs⟩)
    | (rw [zCh (by assumption), hinv, zBn (by omega)]
       exact ⟨rfl, hs⟩)

theorem c84 {w0 w : World} {F : List (Nat × Obj)} (a : Option Addr) (c : Nat) (l : List (Tu.Lot)) (hl : l.length ≤ 9223372036854775807) (lo most : Int) (ha : Sl w0 F a 4 (lrows l)) (fv : Value) (err : List (Tu.Lot) → (Tu.Lot) → Int)
    (hp : ∀ (i : Nat) (hi : i < l.length) (X : List (Nat × Obj)) (w : World), St w0 w (X ++ F) → FCon Tryz.prog fv [.agg l[i].cells.toArray] w fun v w' => v = .int .i64 (err (l.take i) l[i]) ∧ St w0 w' (X ++ F)) (hs : St w0 w F) :
  Con Tryz.prog 84 [.slice a l.length c, .int .i64 lo, .int .i64 most, fv] w fun v w' => v = .tuple #[.int .i64 (failE err lo most l).1, .int .i64 (failE err lo most l).2] ∧ St w0 w' F := by
  refine zAo (n := 34) func84 rfl rfl (zNl rfl) ?_
  refine zAf (fun K2 g8 => (zAb (zBi rfl rfl (zBi rfl rfl (zAd (zAc (g8 _ _ (zAf (fun K4 g9 => (zAf (fun K6 ga => (zAb (zA6 rfl rfl (zA6 rfl rfl ?_))))))))))))))
  refine w_p (zAx rfl rfl) rfl (w_p (zBc underlying24 rfl rfl) rfl (zAu (ps := [(0, _)]) (pv := [(0, .int _ _)]) (cs := [_]) zAa rfl rfl (fun w => zDt _ w) hs (fun b7 w8 gc => ?_)))
  refine zCo zAa call78 rfl rfl rfl rfl (c78 _ _ _ [_] _ (by simp) (zBb (i := 0) (rows := [[_]]) rfl (by simp) rfl) gc) (fun gt g0 => ?_)
  refine zAd (zAc (ga _ _ (zAr rfl rfl (fun g4 => ?_) (fun g4 => ?_))))
  ·
   try simp only [zS] at g4
   refine zAf (fun gu gd => (zAb (zBi rfl rfl (zBi rfl rfl (zAd (zAc (gd _ _ (zA8 (zAl (zBa (l := [.tmp 8, .tmp 9]) (vs := [_,_]) rfl ⟨⟨rfl, (rfl : _ = Value.int _ _)⟩, ⟨rfl, (rfl : _ = Value.int _ _)⟩, trivial⟩ ?_))))))))))
   first
     | (rw [zDk (by assumption)]
        exact ⟨rfl, g0.tail⟩)
     | (rw [zCh (by assumption), hinv, zAp hi2 (by assumption)]
        exact ⟨rfl, g0.tail⟩)
     | (rw [zCh (by assumption), hinv, zBn (by omega)]
        exact ⟨rfl, g0.tail⟩)
  try simp only [zS] at g4
  refine zAn (zAc (g9 _ _ (zAf (fun gv ge => (zAf (fun gw gf => (zAb (w_p (zAx rfl rfl) rfl (w_p (zBc underlying24 rfl rfl) rfl (w_p (zBy (v := _) rfl rfl) rfl ?_))))))))))
  refine zAd (zAc (gf _ _ (zAq ?_)))
  refine zB6 [8,9,10,11,12,21,22,23,24,25,26,27,28,29,30,31,32,33] [21] (fun k vs w => ∃ (i : Nat), vs = [.int .i64 i] ∧ i ≤ l.length ∧ k = l.length - i ∧ firstE err [] 0 l = firstE err (l.take i) i (l.drop i) ∧ St w0 w F) (l.length) ?_ ?_
  ·
   exact ⟨0, rfl, by omega, by omega, by simp, g0.tail⟩
  intro k vs μ gx hI gy gg
  obtain ⟨i, rfl, hia, rfl, hinv, hs⟩ := hI
  refine zAf (fun gz gh => (zAb (w_p (zCp rfl rfl rfl rfl) rfl (zAd (zAc (gh _ _ (zAf (fun gA gi => (zAr rfl rfl (fun g5 => ?_) (fun g5 => ?_))))))))))
  ·
   try simp only [zS] at g5
   refine zAn (zAc (gi _ _ (zAf (fun gB gj => (zAq ?_)))))
   refine zAf (fun gC gk => ?_)
   have hi2 : i < l.length := by omega
   obtain ⟨bx, ox, rfl, hx⟩ := sl_lrows ha hi2
   refine zAb (zA6 rfl rfl (w_p (zA7 underlying24 sizeOf38 rfl rfl rfl rfl (i := _) rfl (by omega)) rfl (w_p (zA2 (vs := [_,_,_,_]) isAgg38 sizeOf38 hs rfl rfl hx) rfl (zA1 (cs := [_,_,_,_]) zAa zeroValue38 rfl hs (fun gD gE gm => ?_)))))
   refine zBw rfl rfl (zBj 0 (.agg #[.int _ _, .int _ _, .int _ _, .int _ _]) [_,_,_,_] sizeOf38 gm (fun gF g7 => ?_))
   refine zAd (zAc (gk _ _ (zAf (fun gG gn => (zAb (w_p (zBy (v := fv) rfl rfl) rfl (w_p (zA2 (vs := [_,_,_,_]) isAgg38 sizeOf38 g7 rfl rfl (aow 0 [_,_,_,_])) rfl ?_)))))))
   refine zD0 zAa rfl rfl rfl rfl (hp i hi2 [_] _ g7) ?_
   rintro _ gH ⟨rfl, g3⟩
   refine zBw rfl rfl (zAd (zAc (gn _ _ (zAf (fun gI go => (zAb (zA6 rfl rfl (w_p (zCs rfl rfl rfl rfl) rfl (zAd (zAc (go _ _ (zAr rfl rfl (fun g6 => ?_) (fun g6 => ?_)))))))))))))
   ·
    try simp only [zS] at g6
    refine zAf (fun gJ gp => (zAb (zA6 rfl rfl (zA6 rfl rfl (zBw rfl rfl (zBw rfl rfl (zAd (zAc (gp _ _ (zA8 (zA9 (zAl (zAl (zA9 (zAl (zBa (l := [.tmp 8, .tmp 9]) (vs := [_,_]) rfl ⟨⟨rfl, (rfl : _ = Value.int _ _)⟩, ⟨rfl, (rfl : _ = Value.int _ _)⟩, trivial⟩ ?_))))))))))))))))
    first
      | (rw [zDk (by assumption)]
         exact ⟨rfl, g3.tail⟩)
      | (rw [zCh (by assumption), hinv, zAp hi2 (by assumption)]
         exact ⟨rfl, g3.tail⟩)
      | (rw [zCh (by assumption), hinv, zBn (by omega)]
         exact ⟨rfl, g3.tail⟩)
   try simp only [zS] at g6
   refine zAn (zAi (zAc (gj _ _ (zAb (w_p (zBo rfl rfl rfl rfl (by omega) (by omega)) rfl (zA6 rfl rfl (zAd (zAc (gg _ _ (nxI (l.length - (i + 1)) (by omega) ?_))))))))))
   exact ⟨i + 1, rfl, by omega, rfl, hinv.trans (zB3 hi2 (by assumption)), g3.tail⟩
  try simp only [zS] at g5
  refine zBt (zAj (zAj (zAv (zAc (ge _ _ (zAf (fun gK gq => (zAb (zBi rfl rfl (zBi rfl rfl (zAd (zAc (gq _ _ (zA8 (zBa (l := [.tmp 8, .tmp 9]) (vs := [_,_]) rfl ⟨⟨rfl, (rfl : _ = Value.int _ _)⟩, ⟨rfl, (rfl : _ = Value.int _ _)⟩, trivial⟩ ?_)))))))))))))))
  first
    | (rw [zDk (by assumption)]
       exact ⟨rfl, hs⟩)
    | (rw [zCh (by assumption), hinv, zAp hi2 (by assumption)]
       exact ⟨rfl, hs⟩)
    | (rw [zCh (by assumption), hinv, zBn (by omega)]
       exact ⟨rfl, hs⟩)

theorem c86 {w0 w : World} {F : List (Nat × Obj)} (a : Option Addr) (c : Nat) (l : List (Tu.Look)) (hl : l.length ≤ 9223372036854775807) (lo most : Int) (ha : Sl w0 F a 3 (nrows l)) (fv : Value) (err : List (Tu.Look) → (Tu.Look) → Int)
    (hp : ∀ (i : Nat) (hi : i < l.length) (X : List (Nat × Obj)) (w : World), St w0 w (X ++ F) → FCon Tryz.prog fv [.agg l[i].cells.toArray] w fun v w' => v = .int .i64 (err (l.take i) l[i]) ∧ St w0 w' (X ++ F)) (hs : St w0 w F) :
  Con Tryz.prog 86 [.slice a l.length c, .int .i64 lo, .int .i64 most, fv] w fun v w' => v = .tuple #[.int .i64 (failE err lo most l).1, .int .i64 (failE err lo most l).2] ∧ St w0 w' F := by
  refine zAo (n := 34) func86 rfl rfl (zNl rfl) ?_
  refine zAf (fun K2 g8 => (zAb (zBi rfl rfl (zBi rfl rfl (zAd (zAc (g8 _ _ (zAf (fun K4 g9 => (zAf (fun K6 ga => (zAb (zA6 rfl rfl (zA6 rfl rfl ?_))))))))))))))
  refine w_p (zAx rfl rfl) rfl (w_p (zBc underlying25 rfl rfl) rfl (zAu (ps := [(0, _)]) (pv := [(0, .int _ _)]) (cs := [_]) zAa rfl rfl (fun w => zDt _ w) hs (fun b7 w8 gc => ?_)))
  refine zCo zAa call78 rfl rfl rfl rfl (c78 _ _ _ [_] _ (by simp) (zBb (i := 0) (rows := [[_]]) rfl (by simp) rfl) gc) (fun gt g0 => ?_)
  refine zAd (zAc (ga _ _ (zAr rfl rfl (fun g4 => ?_) (fun g4 => ?_))))
  ·
   try simp only [zS] at g4
   refine zAf (fun gu gd => (zAb (zBi rfl rfl (zBi rfl rfl (zAd (zAc (gd _ _ (zA8 (zAl (zBa (l := [.tmp 8, .tmp 9]) (vs := [_,_]) rfl ⟨⟨rfl, (rfl : _ = Value.int _ _)⟩, ⟨rfl, (rfl : _ = Value.int _ _)⟩, trivial⟩ ?_))))))))))
   first
     | (rw [zDk (by assumption)]
        exact ⟨rfl, g0.tail⟩)
     | (rw [zCh (by assumption), hinv, zAp hi2 (by assumption)]
        exact ⟨rfl, g0.tail⟩)
     | (rw [zCh (by assumption), hinv, zBn (by omega)]
        exact ⟨rfl, g0.tail⟩)
  try simp only [zS] at g4
  refine zAn (zAc (g9 _ _ (zAf (fun gv ge => (zAf (fun gw gf => (zAb (w_p (zAx rfl rfl) rfl (w_p (zBc underlying25 rfl rfl) rfl (w_p (zBy (v := _) rfl rfl) rfl ?_))))))))))
  refine zAd (zAc (gf _ _ (zAq ?_)))
  refine zB6 [8,9,10,11,12,21,22,23,24,25,26,27,28,29,30,31,32,33] [21] (fun k vs w => ∃ (i : Nat), vs = [.int .i64 i] ∧ i ≤ l.length ∧ k = l.length - i ∧ firstE err [] 0 l = firstE err (l.take i) i (l.drop i) ∧ St w0 w F) (l.length) ?_ ?_
  ·
   exact ⟨0, rfl, by omega, by omega, by simp, g0.tail⟩
  intro k vs μ gx hI gy gg
  obtain ⟨i, rfl, hia, rfl, hinv, hs⟩ := hI
  refine zAf (fun gz gh => (zAb (w_p (zCp rfl rfl rfl rfl) rfl (zAd (zAc (gh _ _ (zAf (fun gA gi => (zAr rfl rfl (fun g5 => ?_) (fun g5 => ?_))))))))))
  ·
   try simp only [zS] at g5
   refine zAn (zAc (gi _ _ (zAf (fun gB gj => (zAq ?_)))))
   refine zAf (fun gC gk => ?_)
   have hi2 : i < l.length := by omega
   obtain ⟨bx, ox, rfl, hx⟩ := zI2 ha hi2
   refine zAb (zA6 rfl rfl (w_p (zA7 underlying25 sizeOf62 rfl rfl rfl rfl (i := _) rfl (by omega)) rfl (w_p (zA2 (vs := [_,_,_]) isAgg62 sizeOf62 hs rfl rfl hx) rfl (zA1 (cs := [_,_,_]) zAa zeroValue62 rfl hs (fun gD gE gm => ?_)))))
   refine zBw rfl rfl (zBj 0 (.agg #[.int _ _, .int _ _, .bool _]) [_,_,_] sizeOf62 gm (fun gF g7 => ?_))
   refine zAd (zAc (gk _ _ (zAf (fun gG gn => (zAb (w_p (zBy (v := fv) rfl rfl) rfl (w_p (zA2 (vs := [_,_,_]) isAgg62 sizeOf62 g7 rfl rfl (aow 0 [_,_,_])) rfl ?_)))))))
   refine zD0 zAa rfl rfl rfl rfl (hp i hi2 [_] _ g7) ?_
   rintro _ gH ⟨rfl, g3⟩
   refine zBw rfl rfl (zAd (zAc (gn _ _ (zAf (fun gI go => (zAb (zA6 rfl rfl (w_p (zCs rfl rfl rfl rfl) rfl (zAd (zAc (go _ _ (zAr rfl rfl (fun g6 => ?_) (fun g6 => ?_)))))))))))))
   ·
    try simp only [zS] at g6
    refine zAf (fun gJ gp => (zAb (zA6 rfl rfl (zA6 rfl rfl (zBw rfl rfl (zBw rfl rfl (zAd (zAc (gp _ _ (zA8 (zA9 (zAl (zAl (zA9 (zAl (zBa (l := [.tmp 8, .tmp 9]) (vs := [_,_]) rfl ⟨⟨rfl, (rfl : _ = Value.int _ _)⟩, ⟨rfl, (rfl : _ = Value.int _ _)⟩, trivial⟩ ?_))))))))))))))))
    first
      | (rw [zDk (by assumption)]
         exact ⟨rfl, g3.tail⟩)
      | (rw [zCh (by assumption), hinv, zAp hi2 (by assumption)]
         exact ⟨rfl, g3.tail⟩)
      | (rw [zCh (by assumption), hinv, zBn (by omega)]
         exact ⟨rfl, g3.tail⟩)
   try simp only [zS] at g6
   refine zAn (zAi (zAc (gj _ _ (zAb (w_p (zBo rfl rfl rfl rfl (by omega) (by omega)) rfl (zA6 rfl rfl (zAd (zAc (gg _ _ (nxI (l.length - (i + 1)) (by omega) ?_))))))))))
   exact ⟨i + 1, rfl, by omega, rfl, hinv.trans (zB3 hi2 (by assumption)), g3.tail⟩
  try simp only [zS] at g5
  refine zBt (zAj (zAj (zAv (zAc (ge _ _ (zAf (fun gK gq => (zAb (zBi rfl rfl (zBi rfl rfl (zAd (zAc (gq _ _ (zA8 (zBa (l := [.tmp 8, .tmp 9]) (vs := [_,_]) rfl ⟨⟨rfl, (rfl : _ = Value.int _ _)⟩, ⟨rfl, (rfl : _ = Value.int _ _)⟩, trivial⟩ ?_)))))))))))))))
  first
    | (rw [zDk (by assumption)]
       exact ⟨rfl, hs⟩)
    | (rw [zCh (by assumption), hinv, zAp hi2 (by assumption)]
       exact ⟨rfl, hs⟩)
    | (rw [zCh (by assumption), hinv, zBn (by omega)]
       exact ⟨rfl, hs⟩)

theorem c54 {w0 w : World} {F : List (Nat × Obj)} (s : Int × Int) (most : Int) (hmo : 0 ≤ most ∧ most ≤ 1000) (hs : St w0 w F) :
  Con Tryz.prog 54 [.agg (scells s).toArray, .int .i64 most] w fun v w' => v = .int .i64 (widthE s most) ∧ St w0 w' F := by
  refine zAo (n := 21) func54 rfl rfl (zNl rfl) ?_
  refine zAf (fun K2 g7 => (zAb (zCj (v := .agg #[.int _ _, .int _ _]) (cs := [_,_]) zAa rfl rfl rfl hs (fun b3 w4 g5 => ?_))))
  refine zBi rfl rfl (zAd (zAc (g7 _ _ (zAf (fun K7 g8 => (zAq ?_))))))
  refine zAf (fun K9 g9 => (zAb (zA6 rfl rfl (w_p (zAe (o := 0) (i := 0) underlying36 rfl sizeOf3 rfl rfl rfl) rfl (w_p (zAg isAgg3 g5 rfl rfl (aow 0 [_])) rfl (w_p (zAe (o := 1) (i := 1) underlying36 rfl sizeOf3 rfl rfl rfl) rfl ?_))))))
  refine w_p (zAg isAgg3 g5 rfl rfl (aow 0 [_])) rfl ?_
  refine zAu (ps := [(0, _),(1, _)]) (pv := [(0, .int _ _),(1, .int _ _)]) (cs := [_,_]) zAa rfl rfl (fun w => Try_UC_fb1 _ _ w) g5 (fun gh gi ga => ?_)
  refine zCo zAa call78 rfl rfl rfl rfl (c78 _ _ _ [_,_] _ (by simp) (zBb (i := 0) (rows := [[_], [_]]) rfl (by simp) rfl) ga) (fun gj g4 => ?_)
  refine w_p (zAs rfl rfl) rfl (zAd (zAc (g9 _ _ (zAr rfl rfl (fun g0 => ?_) (fun g0 => ?_)))))
  ·
   try simp only [zS] at g0
   refine zAf (fun gk gc => (zAb (zBi rfl rfl (zAd (zAc (gc _ _ (zA8 (zA9 (zAl (zBa (l := [.tmp 4]) (vs := [_]) rfl ⟨⟨rfl, (rfl : _ = Value.int _ _)⟩, trivial⟩ ?_))))))))))
   try simp only [List.any_cons, List.any_nil, Bool.or_false, Bool.or_eq_false_iff] at g0
   exact ⟨congrArg (Value.int .i64) (by simp [widthE, g0] <;> omega), g4.tail.tail⟩
  try simp only [zS] at g0
  refine zAf (fun gm gd => ?_)
  have hbb : 0 ≤ s.1 ∧ s.1 ≤ most ∧ 0 ≤ s.2 ∧ s.2 ≤ most := by
    have hq : [s.1, s.2].any (out 0 most) = false := by assumption
    simp [out] at hq; omega
  refine zAb (w_p (zAe (o := 1) (i := 1) underlying36 rfl sizeOf3 rfl rfl rfl) rfl (w_p (zAg isAgg3 g4 rfl rfl (aow 1 [_])) rfl (w_p (zAe (o := 0) (i := 0) underlying36 rfl sizeOf3 rfl rfl rfl) rfl (w_p (zAg isAgg3 g4 rfl rfl (aow 1 [_])) rfl ?_))))
  refine w_p (zFb rfl rfl rfl rfl (by omega) (by omega)) rfl (zAu (ps := [(0, _)]) (pv := [(0, .int _ _)]) (cs := [_]) zAa rfl rfl (fun w => zDt _ w) g4 (fun gn go ge => ?_))
  refine zCo zAa call78 rfl rfl rfl rfl (c78 _ _ _ [_] _ (by simp) (zBb (i := 0) (rows := [[_]]) rfl (by simp) rfl) ge) (fun gp g6 => ?_)
  refine w_p (zAs rfl rfl) rfl (zAd (zAc (gd _ _ (zAr rfl rfl (fun g3 => ?_) (fun g3 => ?_)))))
  ·
   try simp only [zS] at g3
   refine zAf (fun gq gf => (zAb (zBi rfl rfl (zAd (zAc (gf _ _ (zA8 (zA9 (zAl (zBa (l := [.tmp 4]) (vs := [_]) rfl ⟨⟨rfl, (rfl : _ = Value.int _ _)⟩, trivial⟩ ?_))))))))))
   try simp only [List.any_cons, List.any_nil, Bool.or_false, Bool.or_eq_false_iff] at g0 g3
   exact ⟨congrArg (Value.int .i64) (by simp [widthE, g0, g3] <;> omega), g6.tail.tail.tail⟩
  try simp only [zS] at g3
  refine zAn (zAi (zAc (g8 _ _ (zAf (fun gt gg => (zAb (zBi rfl rfl (zAd (zAc (gg _ _ (zA8 (zBa (l := [.tmp 4]) (vs := [_]) rfl ⟨⟨rfl, (rfl : _ = Value.int _ _)⟩, trivial⟩ ?_))))))))))))
  try simp only [List.any_cons, List.any_nil, Bool.or_false, Bool.or_eq_false_iff] at g0 g3
  exact ⟨congrArg (Value.int .i64) (by simp [widthE, g0, g3] <;> omega), g6.tail.tail.tail⟩

theorem c81 {w0 w : World} {F : List (Nat × Obj)} (n : Int) (bf : List Int) (hs : St w0 w F) :
  Con Tryz.prog 81 [.int .i64 n] w fun v w' => v = .int .i64 (heatE bf n) ∧ St w0 w' F := by
  refine zAo (n := 6) func81 rfl rfl (zNl rfl) ?_
  refine zAf (fun K2 g4 => (zAb (zBi rfl rfl (zAd (zAc (g4 _ _ (zAf (fun K4 g5 => (zAf (fun K6 g6 => (zAb (zA6 rfl rfl (zAu (ps := [(0, _)]) (pv := [(0, .int _ _)]) (cs := [_]) zAa rfl rfl (fun w => zDt _ w) hs (fun b7 w8 g7 => ?_))))))))))))))
  refine zCo zAa call78 rfl rfl rfl rfl (c78 _ _ _ [_] _ (by simp) (zBb (i := 0) (rows := [[_]]) rfl (by simp) rfl) g7) (fun ga g3 => ?_)
  refine zAd (zAc (g6 _ _ (zAr rfl rfl (fun g0 => ?_) (fun g0 => ?_))))
  ·
   try simp only [zS] at g0
   refine zAf (fun gc g8 => (zAb (zBi rfl rfl (zAd (zAc (g8 _ _ (zA8 (zAl (zBa (l := [.tmp 2]) (vs := [_]) rfl ⟨⟨rfl, (rfl : _ = Value.int _ _)⟩, trivial⟩ ?_)))))))))
   try simp only [List.any_cons, List.any_nil, Bool.or_false, Bool.or_eq_false_iff] at g0
   exact ⟨congrArg (Value.int .i64) (by simp [heatE, g0] <;> omega), g3.tail⟩
  try simp only [zS] at g0
  refine zAn (zAc (g5 _ _ (zAf (fun gd g9 => (zAb (zBi rfl rfl (zAd (zAc (g9 _ _ (zA8 (zBa (l := [.tmp 2]) (vs := [_]) rfl ⟨⟨rfl, (rfl : _ = Value.int _ _)⟩, trivial⟩ ?_)))))))))))
  try simp only [List.any_cons, List.any_nil, Bool.or_false, Bool.or_eq_false_iff] at g0
  exact ⟨congrArg (Value.int .i64) (by simp [heatE, g0] <;> omega), g3.tail⟩

theorem c83 {w0 w : World} {F : List (Nat × Obj)} (s : Int × Int) (bf : List (Int × Int)) (hs : St w0 w F) :
  Con Tryz.prog 83 [.agg (scells s).toArray] w fun v w' => v = .int .i64 (holdE bf s) ∧ St w0 w' F := by
  refine zAo (n := 5) func83 rfl rfl (zNl rfl) ?_
  refine zAf (fun K2 g3 => (zAb (zCj (v := .agg #[.int _ _, .int _ _]) (cs := [_,_]) zAa rfl rfl rfl hs (fun b3 w4 g0 => ?_))))
  refine zBi rfl rfl (zAd (zAc (g3 _ _ (zAf (fun K7 g4 => (zAb (w_p (zA2 (vs := [_,_]) isAgg36 sizeOf36 g0 rfl rfl (aow 0 [_,_])) rfl ?_)))))))
  refine zCo zAa call54 rfl rfl rfl rfl (c54 s 6 (by omega) g0) (fun w9 g5 => ?_)
  refine zBw rfl rfl (zAd (zAc (g4 _ _ (zA8 (zBa (l := [.tmp 2]) (vs := [_]) rfl ⟨⟨rfl, (rfl : _ = Value.int _ _)⟩, trivial⟩ ?_)))))
  exact ⟨rfl, g5.tail⟩

theorem c85 {w0 w : World} {F : List (Nat × Obj)} (c : Cargo) (p : AtT) (hm : TIn w0 F c p) (l : Tu.Lot) (bf : List Tu.Lot) (bm : Nat) (hb : Ats w0 F bm 0 (c.cells p)) (hs : St w0 w F) :
  Con Tryz.prog 85 [.agg l.cells.toArray, .pointer (some ⟨bm, 0, none⟩)] w fun v w' => v = .int .i64 (lotE c.holds.length c.heat.length bf l) ∧ St w0 w' F := by
  refine zAo (n := 24) func85 rfl rfl (zNl rfl) ?_
  have hle := hm.le
  have hlh := hm.lh
  refine zAf (fun K2 g7 => (zAb (zCj (v := .agg #[.int _ _, .int _ _, .int _ _, .int _ _]) (cs := [_,_,_,_]) zAa rfl rfl rfl hs (fun b3 w4 g5 => ?_))))
  refine zBi rfl rfl (zAd (zAc (g7 _ _ (zAf (fun K7 g8 => (zAq ?_))))))
  refine zAf (fun K9 g9 => (zAb (w_p (zAe (o := 2) (i := 2) underlying27 rfl sizeOf23 rfl rfl rfl) rfl (w_p (zAg isAgg23 g5.tail rfl rfl (show Ats _ _ _ _ [_] from Ats.part hb 2 1)) rfl (w_p (zBc underlying23 rfl rfl) rfl (w_p (zFb rfl rfl rfl rfl (by omega) (by omega)) rfl ?_))))))
  refine w_p (zAe (o := 0) (i := 0) underlying38 rfl sizeOf3 rfl rfl rfl) rfl (w_p (zAg isAgg3 g5 rfl rfl (aow 0 [_])) rfl ?_)
  refine zAu (ps := [(0, _)]) (pv := [(0, .int _ _)]) (cs := [_]) zAa rfl rfl (fun w => zDt _ w) g5 (fun gi gj ga => ?_)
  refine zCo zAa call78 rfl rfl rfl rfl (c78 _ _ _ [_] _ (by simp) (zBb (i := 0) (rows := [[_]]) rfl (by simp) rfl) ga) (fun gk g4 => ?_)
  refine w_p (zAs rfl rfl) rfl (zAd (zAc (g9 _ _ (zAr rfl rfl (fun g0 => ?_) (fun g0 => ?_)))))
  ·
   try simp only [zS] at g0
   refine zAf (fun gm gc => (zAb (zBi rfl rfl (zAd (zAc (gc _ _ (zA8 (zA9 (zAl (zBa (l := [.tmp 3]) (vs := [_]) rfl ⟨⟨rfl, (rfl : _ = Value.int _ _)⟩, trivial⟩ ?_))))))))))
   try simp only [List.any_cons, List.any_nil, Bool.or_false, Bool.or_eq_false_iff] at g0
   exact ⟨congrArg (Value.int .i64) (by simp [lotE, g0] <;> omega), g4.tail.tail⟩
  try simp only [zS] at g0
  refine zAf (fun gn gd => (zAb (w_p (zAe (o := 0) (i := 0) underlying27 rfl sizeOf22 rfl rfl rfl) rfl (w_p (zAg isAgg22 g4.tail.tail rfl rfl (show Ats _ _ _ _ [_] from Ats.part hb 0 1)) rfl (w_p (zBc underlying22 rfl rfl) rfl (w_p (zAe (o := 1) (i := 1) underlying38 rfl sizeOf3 rfl rfl rfl) rfl ?_))))))
  refine w_p (zAg isAgg3 g4 rfl rfl (aow 1 [_])) rfl ?_
  refine zAu (ps := [(0, _)]) (pv := [(0, .int _ _)]) (cs := [_]) zAa rfl rfl (fun w => zDt _ w) g4 (fun go gp ge => ?_)
  refine zCo zAa call78 rfl rfl rfl rfl (c78 _ _ _ [_] _ (by simp) (zBb (i := 0) (rows := [[_]]) rfl (by simp) rfl) ge) (fun gq g6 => ?_)
  refine w_p (zAs rfl rfl) rfl (zAd (zAc (gd _ _ (zAr rfl rfl (fun g3 => ?_) (fun g3 => ?_)))))
  ·
   try simp only [zS] at g3
   refine zAf (fun gt gf => (zAb (zBi rfl rfl (zAd (zAc (gf _ _ (zA8 (zA9 (zAl (zBa (l := [.tmp 3]) (vs := [_]) rfl ⟨⟨rfl, (rfl : _ = Value.int _ _)⟩, trivial⟩ ?_))))))))))
   try simp only [List.any_cons, List.any_nil, Bool.or_false, Bool.or_eq_false_iff] at g0 g3
   exact ⟨congrArg (Value.int .i64) (by simp [lotE, g0, g3] <;> omega), g6.tail.tail.tail⟩
  try simp only [zS] at g3
  refine zAn (zAi (zAc (g8 _ _ (zAf (fun gu gg => (zAb (w_p (zAe (o := 2) (i := 2) underlying38 rfl sizeOf36 rfl rfl rfl) rfl (w_p (zA2 (vs := [_,_]) isAgg36 sizeOf36 g6 rfl rfl (aow 2 [_,_])) rfl ?_))))))))
  refine zCo zAa call54 rfl rfl rfl rfl (c54 (l.lo, l.hi) 40 (by omega) g6) (fun gv gh => ?_)
  refine zBw rfl rfl (zAd (zAc (gg _ _ (zA8 (zBa (l := [.tmp 3]) (vs := [_]) rfl ⟨⟨rfl, (rfl : _ = Value.int _ _)⟩, trivial⟩ ?_)))))
  try simp only [List.any_cons, List.any_nil, Bool.or_false, Bool.or_eq_false_iff] at g0 g3
  exact ⟨congrArg (Value.int .i64) (by simp [lotE, g0, g3] <;> omega), gh.tail.tail.tail⟩

theorem c87 {w0 w : World} {F : List (Nat × Obj)} (c : Cargo) (p : AtT) (hm : TIn w0 F c p) (s : Tu.Look) (bf : List Tu.Look) (bm : Nat) (hb : Ats w0 F bm 0 (c.cells p)) (hs : St w0 w F) :
  Con Tryz.prog 87 [.agg s.cells.toArray, .pointer (some ⟨bm, 0, none⟩)] w fun v w' => v = .int .i64 (seenE c bf s) ∧ St w0 w' F := by
  refine zAo (n := 28) func87 rfl rfl (zNl rfl) ?_
  have hle := hm.le
  have hll := hm.ll
  refine zAf (fun K2 g9 => (zAb (zCj (v := .agg #[.int _ _, .int _ _, .bool _]) (cs := [_,_,_]) zAa rfl rfl rfl hs (fun b3 w4 g5 => ?_))))
  refine zBi rfl rfl (zAd (zAc (g9 _ _ (zAf (fun K7 ga => (zAq ?_))))))
  refine zAf (fun K9 gc => (zAb (w_p (zAe (o := 3) (i := 3) underlying27 rfl sizeOf24 rfl rfl rfl) rfl (w_p (zAg isAgg24 g5.tail rfl rfl (show Ats _ _ _ _ [_] from Ats.part hb 3 1)) rfl (w_p (zBc underlying24 rfl rfl) rfl (w_p (zFb rfl rfl rfl rfl (by omega) (by omega)) rfl ?_))))))
  refine w_p (zAe (o := 0) (i := 0) underlying62 rfl sizeOf3 rfl rfl rfl) rfl (w_p (zAg isAgg3 g5 rfl rfl (aow 0 [_])) rfl ?_)
  refine zAu (ps := [(0, _)]) (pv := [(0, .int _ _)]) (cs := [_]) zAa rfl rfl (fun w => zDt _ w) g5 (fun gi gj gd => ?_)
  refine zCo zAa call78 rfl rfl rfl rfl (c78 _ _ _ [_] _ (by simp) (zBb (i := 0) (rows := [[_]]) rfl (by simp) rfl) gd) (fun gk g4 => ?_)
  refine w_p (zAs rfl rfl) rfl (zAd (zAc (gc _ _ (zAr rfl rfl (fun g6 => ?_) (fun g6 => ?_)))))
  ·
   try simp only [zS] at g6
   refine zAf (fun gm ge => (zAb (zBi rfl rfl (zAd (zAc (ge _ _ (zA8 (zA9 (zAl (zBa (l := [.tmp 3]) (vs := [_]) rfl ⟨⟨rfl, (rfl : _ = Value.int _ _)⟩, trivial⟩ ?_))))))))))
   first
     | exact ⟨congrArg (Value.int .i64) (seenE_a (by assumption)).symm, g4.tail.tail⟩
     | exact ⟨congrArg (Value.int .i64) (seenE_b hla (by assumption) (by assumption)).symm, g4.tail.tail⟩
     | exact ⟨congrArg (Value.int .i64) (seenE_c hla (by assumption) (by assumption)).symm, g4.tail.tail⟩
  try simp only [zS] at g6
  refine zAf (fun gn gf => ?_)
  have hbb : 0 ≤ s.lot ∧ s.lot < c.lots.length := by
    have hq : [s.lot].any (out 0 ((c.lots.length : Int) - 1)) = false := by assumption
    simp [out] at hq; omega
  have hi2 : s.lot.toNat < c.lots.length := by omega
  obtain ⟨bx, ox, hbx, hx⟩ := sl_lrows hm.l hi2
  have hla : lotAt c s.lot.toNat = c.lots[s.lot.toNat] := by simp [lotAt, List.getD, hi2]
  refine zCq [] [(0,0),(1,1),(2,0),(3,1),(4,0),(5,0),(6,1),(7,0),(8,1),(9,0),(10,0),(11,1),(12,2),(13,2),(14,0)] zB4 (zBk (by kernel_rfl)) g4 (fun go g3 => ?_)
  refine d_w rfl (fun _ => zAe (o := 3) (i := 3) underlying27 rfl sizeOf24 rfl rfl rfl) rfl ?_
  refine zAz rfl zAa rfl g3 (fun _ hq => (zCl hbx (zAg isAgg24 hq.tail.tail rfl rfl (show Ats _ _ _ _ [_] from Ats.part hb 3 1)))) ?_
  refine d_w rfl (fun _ => zAe (o := 0) (i := 0) underlying62 rfl sizeOf3 rfl rfl rfl) rfl ?_
  refine zAz rfl zAa rfl g3 (fun _ hq => (zAg isAgg3 hq rfl rfl (aow 1 [_]))) ?_
  refine d_w rfl (fun _ => zA7 underlying24 sizeOf38 rfl rfl rfl rfl (i := s.lot.toNat) (Int.toNat_of_nonneg hbb.1).symm hi2) rfl (d_w rfl (fun _ => zAe (o := 1) (i := 1) underlying38 rfl sizeOf3 rfl rfl rfl) rfl ?_)
  refine zAz rfl zAa rfl g3 (fun _ hq => (zAg isAgg3 hq.tail.tail rfl rfl (show Ats _ _ _ _ [_] from Ats.part hx 1 1))) ?_
  refine d_w rfl (fun _ => zAe (o := 0) (i := 0) underlying27 rfl sizeOf22 rfl rfl rfl) rfl ?_
  refine zAz rfl zAa rfl g3 (fun _ hq => (zAg isAgg22 hq.tail.tail rfl rfl (show Ats _ _ _ _ [_] from Ats.part hb 0 1))) ?_
  refine d_w rfl (fun _ => zBc underlying22 rfl rfl) rfl (d_w rfl (fun _ => zAe (o := 1) (i := 1) underlying62 rfl sizeOf3 rfl rfl rfl) rfl ?_)
  refine zAz rfl zAa rfl g3 (fun _ hq => (zAg isAgg3 hq rfl rfl (aow 1 [_]))) ?_
  refine zBh rfl ?_
  refine zAu (ps := [(0, _)]) (pv := [(0, .int _ _)]) (cs := [_]) zAa rfl rfl (fun w => zDt _ w) g3 (fun gp gq g8 => ?_)
  refine zAd (qn ⟨g8.tail, ?_⟩)
  refine zBh rfl ?_
  refine zCo zAa call78 rfl rfl rfl rfl (c78 _ _ _ [_] _ (by simp) (zBb (i := 0) (rows := [[_]]) rfl (by simp) rfl) g8) (fun gt g0 => ?_)
  refine zAd (qn ⟨g0.tail, ?_⟩)
  refine d_w rfl (fun _ => zAs rfl rfl) rfl ?_
  refine zBm ?_
  refine zAc (gf _ _ (zAr rfl rfl (fun g7 => ?_) (fun g7 => ?_)))
  ·
   try simp only [zS] at g7
   refine zAf (fun gu gg => (zAb (zBi rfl rfl (zAd (zAc (gg _ _ (zA8 (zA9 (zAl (zBa (l := [.tmp 3]) (vs := [_]) rfl ⟨⟨rfl, (rfl : _ = Value.int _ _)⟩, trivial⟩ ?_))))))))))
   first
     | exact ⟨congrArg (Value.int .i64) (seenE_a (by assumption)).symm, g0.tail.tail.tail⟩
     | exact ⟨congrArg (Value.int .i64) (seenE_b hla (by assumption) (by assumption)).symm, g0.tail.tail.tail⟩
     | exact ⟨congrArg (Value.int .i64) (seenE_c hla (by assumption) (by assumption)).symm, g0.tail.tail.tail⟩
  try simp only [zS] at g7
  refine zAn (zAi (zAc (ga _ _ (zAf (fun gv gh => (zAb (zBi rfl rfl (zAd (zAc (gh _ _ (zA8 (zBa (l := [.tmp 3]) (vs := [_]) rfl ⟨⟨rfl, (rfl : _ = Value.int _ _)⟩, trivial⟩ ?_))))))))))))
  first
    | exact ⟨congrArg (Value.int .i64) (seenE_a (by assumption)).symm, g0.tail.tail.tail⟩
    | exact ⟨congrArg (Value.int .i64) (seenE_b hla (by assumption) (by assumption)).symm, g0.tail.tail.tail⟩
    | exact ⟨congrArg (Value.int .i64) (seenE_c hla (by assumption) (by assumption)).symm, g0.tail.tail.tail⟩

theorem c62 {w0 w : World} {F : List (Nat × Obj)} (c : Cargo) (p : AtT) (hm : TIn w0 F c p)  (hs : St w0 w F) :
  Con Tryz.prog 62 [.agg (c.cells p).toArray] w fun v w' => v = .tuple #[.int .i64 (check c).1, .int .i64 (check c).2.1, .int .i64 (check c).2.2] ∧ St w0 w' F := by
  refine zAo (n := 53) func62 rfl rfl (zNl rfl) ?_
  have hle := hm.le
  have hlh := hm.lh
  have hll := hm.ll
  have hln := hm.ln
  refine zAf (fun K2 ge => (zAb (zCj (v := .agg #[.slice _ _ _, .int _ _, .slice _ _ _, .slice _ _ _, .slice _ _ _]) (cs := [_,_,_,_,_]) zAa rfl rfl rfl hs (fun b3 w4 gc => ?_))))
  refine zBi rfl rfl (zBi rfl rfl (zBi rfl rfl (zAd (zAc (ge _ _ (zAf (fun K7 gf => (zAb (w_p (zAe (o := 0) (i := 0) underlying27 rfl sizeOf22 rfl rfl rfl) rfl ?_)))))))))
  refine w_p (zAg isAgg22 gc rfl rfl (aow 0 [_])) rfl ?_
  refine zCo zAa call80 rfl rfl rfl rfl (c80 _ _ c.heat hle 0 8 hm.e.cons (.func (.func 81) #[] #[]) (heatE) (fun i hi X w hs => zDm call81 (c81 c.heat[i] _ hs)) gc) (fun w9 g8 => ?_)
  refine w_p (zA3 rfl rfl) rfl (w_p (zAk rfl rfl rfl) rfl (w_p (zAk rfl rfl rfl) rfl (zBw rfl rfl (zBw rfl rfl (zAd (zAc (gf _ _ (zAf (fun gC gg => (zAq ?_))))))))))
  refine zAf (fun gD gh => (zAb (zA6 rfl rfl (w_p (zCs rfl rfl rfl rfl) rfl (w_p (zAs rfl rfl) rfl (zAd (zAc (gh _ _ (zAr rfl rfl (fun g0 => ?_) (fun g0 => ?_))))))))))
  ·
   try simp only [zS] at g0
   refine zAf (fun gE gi => (zAb (zA6 rfl rfl (zA6 rfl rfl (zBi rfl rfl (zBw rfl rfl (zBw rfl rfl (zAd (zAc (gi _ _ (zA8 (zA9 (zAl (zBa (l := [.tmp 2, .tmp 3, .tmp 4]) (vs := [_,_,_]) rfl ⟨⟨rfl, (rfl : _ = Value.int _ _)⟩, ⟨rfl, (rfl : _ = Value.int _ _)⟩, ⟨rfl, (rfl : _ = Value.int _ _)⟩, trivial⟩ ?_))))))))))))))
   try simp only [List.any_cons, List.any_nil, Bool.or_false, Bool.or_eq_false_iff] at g0
   exact ⟨tup3 (by unfold check; simp [g0]), g8.tail⟩
  try simp only [zS] at g0
  refine zAf (fun gF gj => (zAb (w_p (zAe (o := 1) (i := 1) underlying27 rfl sizeOf3 rfl rfl rfl) rfl (w_p (zAg isAgg3 g8 rfl rfl (aow 0 [_])) rfl ?_))))
  refine zAu (ps := [(0, _)]) (pv := [(0, .int _ _)]) (cs := [_]) zAa rfl rfl (fun w => zDt _ w) g8 (fun gG gH gk => ?_)
  refine zCo zAa call78 rfl rfl rfl rfl (c78 _ _ _ [_] _ (by simp) (zBb (i := 0) (rows := [[_]]) rfl (by simp) rfl) gk) (fun gI g9 => ?_)
  refine w_p (zAs rfl rfl) rfl (zAd (zAc (gj _ _ (zAr rfl rfl (fun g3 => ?_) (fun g3 => ?_)))))
  ·
   try simp only [zS] at g3
   refine zAf (fun gJ gm => (zAb (zBi rfl rfl (zBi rfl rfl (zBi rfl rfl (zAd (zAc (gm _ _ (zA8 (zA9 (zAl (zBa (l := [.tmp 2, .tmp 3, .tmp 4]) (vs := [_,_,_]) rfl ⟨⟨rfl, (rfl : _ = Value.int _ _)⟩, ⟨rfl, (rfl : _ = Value.int _ _)⟩, ⟨rfl, (rfl : _ = Value.int _ _)⟩, trivial⟩ ?_))))))))))))
   try simp only [List.any_cons, List.any_nil, Bool.or_false, Bool.or_eq_false_iff] at g0 g3
   exact ⟨tup3 (by unfold check; simp [g0, g3]), g9.tail.tail⟩
  try simp only [zS] at g3
  refine zAn (zAi (zAc (gg _ _ (zAf (fun gK gn => (zAb (w_p (zAe (o := 2) (i := 2) underlying27 rfl sizeOf23 rfl rfl rfl) rfl (w_p (zAg isAgg23 g9 rfl rfl (aow 1 [_])) rfl ?_))))))))
  refine zCo zAa call82 rfl rfl rfl rfl (c82 _ _ c.holds hlh 1 3 hm.h.cons.cons (.func (.func 83) #[] #[]) (holdE) (fun i hi X w hs => zDm call83 (c83 c.holds[i] _ hs)) g9) (fun gL g7 => ?_)
  refine w_p (zA3 rfl rfl) rfl (w_p (zAk rfl rfl rfl) rfl (w_p (zAk rfl rfl rfl) rfl (zBw rfl rfl (zBw rfl rfl (zAd (zAc (gn _ _ (zAf (fun gM go => (zAf (fun gN gp => (zAb (zA6 rfl rfl ?_)))))))))))))
  refine w_p (zCs rfl rfl rfl rfl) rfl (zAd (zAc (gp _ _ (zAr rfl rfl (fun g4 => ?_) (fun g4 => ?_)))))
  ·
   try simp only [zS] at g4
   refine zAf (fun gO gq => (zAb (zA6 rfl rfl (zA6 rfl rfl (zBi rfl rfl (zBw rfl rfl (zBw rfl rfl (zAd (zAc (gq _ _ (zA8 (zAl (zBa (l := [.tmp 2, .tmp 3, .tmp 4]) (vs := [_,_,_]) rfl ⟨⟨rfl, (rfl : _ = Value.int _ _)⟩, ⟨rfl, (rfl : _ = Value.int _ _)⟩, ⟨rfl, (rfl : _ = Value.int _ _)⟩, trivial⟩ ?_)))))))))))))
   try simp only [List.any_cons, List.any_nil, Bool.or_false, Bool.or_eq_false_iff] at g0 g3 g4
   exact ⟨tup3 (by unfold check; simp [g0, g3, g4]), g7.tail.tail⟩
  try simp only [zS] at g4
  refine zAn (zAc (go _ _ (zAf (fun gP gt => ?_))))
  have hbx := ats_of (i := 1) (vs := c.cells p) g7 rfl rfl
  refine zAb (w_p (zAe (o := 3) (i := 3) underlying27 rfl sizeOf24 rfl rfl rfl) rfl (w_p (zAg isAgg24 g7 rfl rfl (show Ats _ _ _ _ [_] from Ats.part hbx 3 1)) rfl (w_p (zCc (fv := []) (cv := [_]) rfl rfl rfl rfl) rfl (zCo zAa call84 rfl rfl rfl rfl (c84 _ _ c.lots hll 0 4 hm.l.cons.cons (.func (.func 85) #[] #[.pointer (some ⟨b3,0, none⟩)]) (lotE c.holds.length c.heat.length) (fun i hi X w hs => zDm call85 (c85 c p (TIn.app hm.cons.cons) c.lots[i] _ _ (Ats.app hbx) hs)) g7) (fun gQ ga => ?_)))))
  refine w_p (zA3 rfl rfl) rfl (w_p (zAk rfl rfl rfl) rfl (w_p (zAk rfl rfl rfl) rfl (zBw rfl rfl (zBw rfl rfl (zAd (zAc (gt _ _ (zAf (fun gR gu => (zAf (fun gS gv => (zAb (zA6 rfl rfl ?_)))))))))))))
  refine w_p (zCs rfl rfl rfl rfl) rfl (zAd (zAc (gv _ _ (zAr rfl rfl (fun g5 => ?_) (fun g5 => ?_)))))
  ·
   try simp only [zS] at g5
   refine zAf (fun gT gw => (zAb (zA6 rfl rfl (zA6 rfl rfl (zBi rfl rfl (zBw rfl rfl (zBw rfl rfl (zAd (zAc (gw _ _ (zA8 (zAl (zBa (l := [.tmp 2, .tmp 3, .tmp 4]) (vs := [_,_,_]) rfl ⟨⟨rfl, (rfl : _ = Value.int _ _)⟩, ⟨rfl, (rfl : _ = Value.int _ _)⟩, ⟨rfl, (rfl : _ = Value.int _ _)⟩, trivial⟩ ?_)))))))))))))
   try simp only [List.any_cons, List.any_nil, Bool.or_false, Bool.or_eq_false_iff] at g0 g3 g4 g5
   exact ⟨tup3 (by unfold check; simp [g0, g3, g4, g5]), ga.tail.tail⟩
  try simp only [zS] at g5
  refine zAn (zAc (gu _ _ (zAf (fun gU gx => (zAb (w_p (zAe (o := 4) (i := 4) underlying27 rfl sizeOf25 rfl rfl rfl) rfl (w_p (zAg isAgg25 ga rfl rfl (show Ats _ _ _ _ [_] from Ats.part hbx 4 1)) rfl ?_)))))))
  refine w_p (zCc (fv := []) (cv := [_]) rfl rfl rfl rfl) rfl (zCo zAa call86 rfl rfl rfl rfl (c86 _ _ c.seen hln 0 4 hm.n.cons.cons (.func (.func 87) #[] #[.pointer (some ⟨b3,0, none⟩)]) (seenE c) (fun i hi X w hs => zDm call87 (c87 c p (TIn.app hm.cons.cons) c.seen[i] _ _ (Ats.app hbx) hs)) ga) (fun gV gd => ?_))
  refine w_p (zA3 rfl rfl) rfl (w_p (zAk rfl rfl rfl) rfl (w_p (zAk rfl rfl rfl) rfl (zBw rfl rfl (zBw rfl rfl (zAd (zAc (gx _ _ (zAf (fun gW gy => (zAf (fun gX gz => (zAb (zA6 rfl rfl ?_)))))))))))))
  refine w_p (zCs rfl rfl rfl rfl) rfl (zAd (zAc (gz _ _ (zAr rfl rfl (fun g6 => ?_) (fun g6 => ?_)))))
  ·
   try simp only [zS] at g6
   refine zAf (fun gY gA => (zAb (zA6 rfl rfl (zA6 rfl rfl (zBi rfl rfl (zBw rfl rfl (zBw rfl rfl (zAd (zAc (gA _ _ (zA8 (zAl (zBa (l := [.tmp 2, .tmp 3, .tmp 4]) (vs := [_,_,_]) rfl ⟨⟨rfl, (rfl : _ = Value.int _ _)⟩, ⟨rfl, (rfl : _ = Value.int _ _)⟩, ⟨rfl, (rfl : _ = Value.int _ _)⟩, trivial⟩ ?_)))))))))))))
   try simp only [List.any_cons, List.any_nil, Bool.or_false, Bool.or_eq_false_iff] at g0 g3 g4 g5 g6
   exact ⟨tup3 (by unfold check; simp [g0, g3, g4, g5, g6]), gd.tail.tail⟩
  try simp only [zS] at g6
  refine zAn (zAc (gy _ _ (zAf (fun gZ gB => (zAb (zBi rfl rfl (zBi rfl rfl (zBi rfl rfl (zAd (zAc (gB _ _ (zA8 (zBa (l := [.tmp 2, .tmp 3, .tmp 4]) (vs := [_,_,_]) rfl ⟨⟨rfl, (rfl : _ = Value.int _ _)⟩, ⟨rfl, (rfl : _ = Value.int _ _)⟩, ⟨rfl, (rfl : _ = Value.int _ _)⟩, trivial⟩ ?_)))))))))))))
  try simp only [List.any_cons, List.any_nil, Bool.or_false, Bool.or_eq_false_iff] at g0 g3 g4 g5 g6
  exact ⟨tup3 (by unfold check; simp [g0, g3, g4, g5, g6]), gd.tail.tail⟩

theorem c43 {w0 w : World} {F : List (Nat × Obj)} (n : Int) (hn : 0 ≤ n ∧ n ≤ 9223372036854775807) (al : Option Addr) (cl : Nat) (l : List Int) (hll : l.length ≤ 9223372036854775807) (hl : Sl w0 F al 1 (l.map fun x => [Value.int .i64 x])) (hs : St w0 w F) :
  Con Tryz.prog 43 [.int .i64 n, .slice al l.length cl] w fun v w' => v = .agg #[.bool (noneA n l).1, .int .i64 4] ∧ St w0 w' F := by
  refine zAo (n := 10) func43 rfl rfl (zNl rfl) ?_
  refine zAf (fun K2 g3 => (zAb (zA1 (cs := [_,_]) zAa zeroValue88 rfl hs (fun b3 w4 g4 => ?_))))
  refine zAd (zAc (g3 _ _ (zAf (fun K7 g5 => (zAb (zA6 rfl rfl (w_p (zFb rfl rfl rfl rfl (by omega) (by omega)) rfl (w_p (zAx rfl rfl) rfl ?_))))))))
  refine zCo zAa call78 rfl rfl rfl rfl (c78 _ _ _ _ _ (by omega) hl.cons g4) (fun w9 g6 => ?_)
  refine w_p (zB1 (ps := [(0, _),(1, _)]) (pv := [(0, .bool _),(1, .int _ _)]) rfl rfl (fun w => Try_UC_fb2 _ _ w)) rfl (zBj 0 (.agg #[.bool _, .int _ _]) [_,_] sizeOf88 g6 (fun g7 g0 => ?_))
  refine zAd (zAc (g5 _ _ (zA8 (zBa (l := [.cell 4 88]) (vs := [_]) rfl ⟨⟨rfl, _, rfl, zCv (vs := [_,_]) isAgg88 sizeOf88 g0 (aow 0 [_,_])⟩, trivial⟩ ?_))))
  exact ⟨rfl, g0.tail⟩

theorem c48 {w0 w : World} {F : List (Nat × Obj)} (c : Cargo) (p : AtT) (hm : TIn w0 F c p) (al : Option Addr) (cl : Nat) (l : List Int) (hll : l.length ≤ 9223372036854775807) (hl : Sl w0 F al 1 (l.map fun x => [Value.int .i64 x])) (hs : St w0 w F) :
  Con Tryz.prog 48 [.agg (c.cells p).toArray, .slice al l.length cl] w fun v w' => v = .agg #[.bool (hoursA c l).1, .int .i64 7] ∧ St w0 w' F := by
  refine zAo (n := 11) func48 rfl rfl (zNl rfl) ?_
  have hle := hm.le
  refine zAf (fun K2 g4 => (zAb (zCj (v := .agg #[.slice _ _ _, .int _ _, .slice _ _ _, .slice _ _ _, .slice _ _ _]) (cs := [_,_,_,_,_]) zAa rfl rfl rfl hs (fun b3 w4 g5 => ?_))))
  refine zA1 (cs := [_,_]) zAa zeroValue88 rfl g5 (fun b6 w7 g0 => ?_)
  refine zAd (zAc (g4 _ _ (zAf (fun g8 g6 => (zAb (w_p (zAe (o := 0) (i := 0) underlying27 rfl sizeOf22 rfl rfl rfl) rfl (w_p (zAg isAgg22 g0 rfl rfl (aow 1 [_])) rfl ?_)))))))
  refine w_p (zBc underlying22 rfl rfl) rfl (w_p (zAx rfl rfl) rfl (zCo zAa call78 rfl rfl rfl rfl (c78 _ _ _ _ _ (by omega) hl.cons.cons g0) (fun g9 g7 => ?_)))
  refine w_p (zB1 (ps := [(0, _),(1, _)]) (pv := [(0, .bool _),(1, .int _ _)]) rfl rfl (fun w => Try_UC_fb2 _ _ w)) rfl (zBj 0 (.agg #[.bool _, .int _ _]) [_,_] sizeOf88 g7 (fun ga g3 => ?_))
  refine zAd (zAc (g6 _ _ (zA8 (zBa (l := [.cell 4 88]) (vs := [_]) rfl ⟨⟨rfl, _, rfl, zCv (vs := [_,_]) isAgg88 sizeOf88 g3 (aow 0 [_,_])⟩, trivial⟩ ?_))))
  exact ⟨rfl, g3.tail.tail⟩

end Go.Proofs.Ut
/- Plain facts of the turn layer: what a cargo without an error is like; the hours at which lots turn, step by step. No conditions. -/
namespace Go.Rt.Tu
open Go.Rt.Ha (firstE failE felt spanL upto bit listL fewest Bunch zC8)
structure Cargo.TOk (c : Cargo) : Prop where
  le : c.heat.length ≤ 8
  ll : c.lots.length ≤ 5
  heat : ∀ z ∈ c.heat, 0 ≤ z ∧ z ≤ 3
  gas : 0 ≤ c.gas ∧ c.gas ≤ 3
structure Lot.Ok (nh ne : Nat) (l : Lot) : Prop where
  hold : 0 ≤ l.hold ∧ l.hold < nh
  frm : 0 ≤ l.frm ∧ l.frm ≤ ne
  lo : 0 ≤ l.lo
  le : l.lo ≤ l.hi
  hi : l.hi ≤ 40
  w : l.hi - l.lo ≤ 3
structure Cargo.Ok (c : Cargo) : Prop where
  le : c.heat.length ≤ 8
  heat : ∀ z ∈ c.heat, 0 ≤ z ∧ z ≤ 3
  gas : 0 ≤ c.gas ∧ c.gas ≤ 3
  lh : 1 ≤ c.holds.length ∧ c.holds.length ≤ 3
  hold : ∀ s ∈ c.holds, 0 ≤ s.1 ∧ s.1 ≤ s.2 ∧ s.2 ≤ 6 ∧ s.2 - s.1 ≤ 3
  ll : c.lots.length ≤ 4
  lot : ∀ l ∈ c.lots, l.Ok c.holds.length c.heat.length
  ln : c.seen.length ≤ 4
  seen : ∀ s ∈ c.seen, (0 ≤ s.lot ∧ s.lot < c.lots.length) ∧ 0 ≤ s.hour ∧ s.hour ≤ c.heat.length
theorem Cargo.Ok.t {c : Cargo} (h : c.Ok) : c.TOk := ⟨h.le, by have := h.ll; omega, h.heat, h.gas⟩
theorem zIy {lo hi n : Int} : out lo hi n = false ↔ lo ≤ n ∧ n ≤ hi := by
  unfold out
  rw [Bool.or_eq_false_iff, decide_eq_false_iff_not, decide_eq_false_iff_not]; omega
theorem zGz {s : Int × Int} {m : Int} (e : widthE s m = 0) : 0 ≤ s.1 ∧ s.1 ≤ s.2 ∧ s.2 ≤ m ∧ s.2 - s.1 ≤ 3 := by
  unfold widthE at e
  cases h1 : (out 0 m s.1 || out 0 m s.2) with
  | true => rw [h1, if_pos rfl] at e; cases e
  | false =>
    rw [h1, if_neg (by simp)] at e
    cases h2 : out 0 3 (s.2 - s.1) with
    | true => rw [h2, if_pos rfl] at e; cases e
    | false =>
      rw [Bool.or_eq_false_iff] at h1
      have a1 := zIy.1 h1.1
      have a2 := zIy.1 h1.2
      have a3 := zIy.1 h2
      omega
theorem lotE_zero {nh ne : Nat} {bf : List Lot} {l : Lot} (e : lotE nh ne bf l = 0) : l.Ok nh ne := by
  unfold lotE at e
  cases h1 : out 0 ((nh : Int) - 1) l.hold with
  | true => rw [h1, if_pos rfl] at e; cases e
  | false =>
    rw [h1, if_neg (by simp)] at e
    cases h2 : out 0 ne l.frm with
    | true => rw [h2, if_pos rfl] at e; cases e
    | false =>
      rw [h2, if_neg (by simp)] at e
      have a := zGz e
      have a1 := zIy.1 h1
      have a2 := zIy.1 h2
      exact ⟨by omega, by omega, a.1, a.2.1, a.2.2.1, a.2.2.2⟩
theorem zC5 {c : Cargo} {i : Nat} (h : i < c.lots.length) : lotAt c i = c.lots[i] := by simp [lotAt, List.getD, h]
theorem zIj {c : Cargo} {i : Nat} (h : i < c.holds.length) : holdAt c i = c.holds[i] := by simp [holdAt, List.getD, h]
theorem seen_at {c : Cargo} {i : Nat} (h : i < c.seen.length) : seenAt c i = c.seen[i] := by simp [seenAt, List.getD, h]
theorem heat_at {c : Cargo} {i : Nat} (h : i < c.heat.length) : c.heat.getD i 0 = c.heat[i] := by simp [List.getD, h]
theorem zG6 {c : Cargo} (h : (check c).2.2 = 0) : (failE heatE 0 8 c.heat).2 = 0 ∧ out 0 3 c.gas = false ∧ (failE holdE 1 3 c.holds).2 = 0 ∧ (failE (lotE c.holds.length c.heat.length) 0 4 c.lots).2 = 0 ∧ (failE (seenE c) 0 4 c.seen).2 = 0 := by
  unfold check at h
  by_cases h1 : (failE heatE 0 8 c.heat).2 = 0
  · rw [if_neg (by simp [h1])] at h
    cases h2 : out 0 3 c.gas with
    | true => rw [h2, if_pos rfl] at h; cases h
    | false =>
      rw [h2, if_neg (by simp)] at h
      by_cases h3 : (failE holdE 1 3 c.holds).2 = 0
      · rw [if_neg (by simp [h3])] at h
        by_cases h4 : (failE (lotE c.holds.length c.heat.length) 0 4 c.lots).2 = 0
        · rw [if_neg (by simp [h4])] at h
          by_cases h5 : (failE (seenE c) 0 4 c.seen).2 = 0
          · exact ⟨h1, rfl, h3, h4, h5⟩
          · rw [if_pos h5] at h; exact absurd h h5
        · rw [if_pos h4] at h; exact absurd h h4
      · rw [if_pos h3] at h; exact absurd h h3
  · rw [if_pos h1] at h; exact absurd h h1
theorem zEe {c : Cargo} (h : (check c).2.2 = 0) : c.Ok := by
  obtain ⟨h1, h2, h3, h4, h5⟩ := zG6 h
  obtain ⟨l1, e1⟩ := zC8 h1
  obtain ⟨l3, e3⟩ := zC8 h3
  obtain ⟨l4, e4⟩ := zC8 h4
  obtain ⟨l5, e5⟩ := zC8 h5
  refine ⟨by omega, fun z hz => ?_, zIy.1 h2, by omega, fun s hs => ?_, by omega, fun l hl => ?_, by omega, fun s hs => ?_⟩
  · obtain ⟨i, hi, rfl⟩ := List.getElem_of_mem hz
    have := e1 i hi
    unfold heatE at this
    cases ho : out 0 3 c.heat[i] with
    | true => rw [ho, if_pos rfl] at this; cases this
    | false => exact zIy.1 ho
  · obtain ⟨i, hi, rfl⟩ := List.getElem_of_mem hs
    exact zGz (e3 i hi)
  · obtain ⟨i, hi, rfl⟩ := List.getElem_of_mem hl
    exact lotE_zero (e4 i hi)
  · obtain ⟨i, hi, rfl⟩ := List.getElem_of_mem hs
    have := e5 i hi
    unfold seenE at this
    cases h1 : out 0 ((c.lots.length : Int) - 1) c.seen[i].lot with
    | true => rw [h1, if_pos rfl] at this; cases this
    | false =>
      rw [h1, if_neg (by simp)] at this
      cases h2 : out (lotAt c c.seen[i].lot.toNat).frm c.heat.length c.seen[i].hour with
      | true => rw [h2, if_pos rfl] at this; cases this
      | false =>
        have a1 := zIy.1 h1
        have a2 := zIy.1 h2
        have hi2 : c.seen[i].lot.toNat < c.lots.length := by omega
        rw [zC5 hi2] at a2
        have a3 := (lotE_zero (e4 _ hi2)).frm
        exact ⟨by omega, by omega, by omega⟩
structure SOk (s : List Int) : Prop where
  len : s.length = 8
  w : 0 ≤ s.getD 1 0 ∧ s.getD 1 0 ≤ 6
  g : ∀ i, i < 5 → -1000 ≤ s.getD (2 + i) 0 ∧ s.getD (2 + i) 0 ≤ 1000
  t : 0 ≤ s.getD 7 0 ∧ s.getD 7 0 < 64
theorem SOk.tt {s : List Int} (h : SOk s) : s.getD 7 0 = ((tt s : Nat) : Int) ∧ tt s < 64 := by
  have := h.t
  unfold Tu.tt
  omega
theorem shl5 {i : Nat} (h : i < 5) : 1 <<< i = 2 ^ i ∧ 1 <<< i ≤ 16 := by
  match i, h with
  | 0, _ => decide
  | 1, _ => decide
  | 2, _ => decide
  | 3, _ => decide
  | 4, _ => decide
theorem of_lt (c : Cargo) (hold : Int) : ∀ i, i ≤ 5 → ofTo c hold i < 2 ^ i
  | 0, _ => by simp [ofTo]
  | i + 1, h => by
    have ih := of_lt c hold i (by omega)
    rw [ofTo]
    split
    · rw [(shl5 (by omega)).1]
      exact Nat.or_lt_two_pow (by rw [Nat.pow_succ]; omega) (by rw [Nat.pow_succ]; have := Nat.pow_pos (n := i) (show 0 < 2 by omega); omega)
    · rw [Nat.pow_succ]; omega
theorem zI7 (c : Cargo) (hold : Int) {i : Nat} (h : i ≤ 5) : ofTo c hold i < 32 := by
  have h1 := of_lt c hold i h
  have h2 : 2 ^ i ≤ 2 ^ 5 := Nat.pow_le_pow_right (by omega) h
  omega
theorem of_yes {c : Cargo} {hold : Int} {i : Nat} (hi : i < c.lots.length) (h : c.lots[i].hold = hold) : ofTo c hold (i + 1) = ofTo c hold i ||| (1 <<< i) := by rw [ofTo, zC5 hi, if_pos h]
theorem of_no {c : Cargo} {hold : Int} {i : Nat} (hi : i < c.lots.length) (h : ¬ c.lots[i].hold = hold) : ofTo c hold (i + 1) = ofTo c hold i := by rw [ofTo, zC5 hi, if_neg h]
def fillTo (z : Int) : Nat → List Int
  | 0 => List.replicate 5 0
  | i + 1 => (fillTo z i).set i z
theorem zC1 (z : Int) : ∀ i, (fillTo z i).length = 5
  | 0 => rfl
  | i + 1 => by rw [fillTo, List.length_set, zC1 z i]
theorem zCz (c : Cargo) (s : List Int) (h : Nat) (left t0 : List Int) : ∀ i, (turnTo c s h left t0 i).1.length = t0.length
  | 0 => rfl
  | i + 1 => by
    have ih := zCz c s h left t0 i
    rw [turnTo, turnStep]; split
    · simp [ih]
    · exact ih
theorem turn_gas {c : Cargo} (hg : 0 ≤ c.gas ∧ c.gas ≤ 3) (s : List Int) (h : Nat) (left t0 : List Int) : ∀ i, 0 ≤ (turnTo c s h left t0 i).2 ∧ (turnTo c s h left t0 i).2 ≤ 3
  | 0 => by simp [turnTo]
  | i + 1 => by
    have ih := turn_gas hg s h left t0 i
    rw [turnTo, turnStep]; split
    · exact hg
    · exact ih
theorem on_no {c : Cargo} {s : List Int} {h : Nat} {left : List Int} {i : Nat} (hi : i < c.lots.length) (hh : bit (tt s) i = 0 ∨ (h : Int) < c.lots[i].frm ∨ 0 < left.getD i 0) : on c s h left i = false := by
  unfold on; rw [zC5 hi]
  rcases hh with e | e | e
  · simp [e]
  · simp [e]
  · rw [decide_eq_true e, Bool.or_true]; rfl
theorem on_yes {c : Cargo} {s : List Int} {h : Nat} {left : List Int} {i : Nat} (hi : i < c.lots.length) (h1 : ¬ bit (tt s) i = 0) (h2 : ¬ (h : Int) < c.lots[i].frm) (h3 : ¬ 0 < left.getD i 0) : on c s h left i = true := by
  unfold on; rw [zC5 hi]
  simp only [h1, h2, h3, decide_false, Bool.or_false]; rfl
theorem zF4 {c : Cargo} {s : List Int} {h : Nat} {left t0 : List Int} {i : Nat} (ho : on c s h left i = false) : turnTo c s h left t0 (i + 1) = turnTo c s h left t0 i := by
  rw [turnTo, turnStep, ho]; rfl
theorem zFd {c : Cargo} {s : List Int} {h : Nat} {left t0 : List Int} {i : Nat} (ho : on c s h left i = true) : turnTo c s h left t0 (i + 1) = ((turnTo c s h left t0 i).1.set i (min ((turnTo c s h left t0 i).1.getD i 0) h), c.gas) := by
  rw [turnTo, turnStep, ho]; rfl
def Near (l : List Int) : Prop := l.length = 5 ∧ ∀ i, -1000 ≤ l.getD i 0 ∧ l.getD i 0 ≤ 1000
theorem near_set {l : List Int} (h : Near l) {i : Nat} {z : Int} (hz : -1000 ≤ z ∧ z ≤ 1000) : Near (l.set i z) := by
  refine ⟨by rw [List.length_set]; exact h.1, fun j => ?_⟩
  by_cases e : i = j
  · subst e
    by_cases hi : i < l.length
    · simp [List.getD, hi]; exact hz
    · have := h.2 i
      rw [List.set_eq_of_length_le (by omega)]; exact this
  · have : (l.set i z).getD j 0 = l.getD j 0 := by simp [List.getD, List.getElem?_set, e]
    rw [this]; exact h.2 j
theorem takes_in {c : Cargo} (hc : c.TOk) {s : List Int} (hs : SOk s) {h : Nat} {g : Int} (hg : 0 ≤ g ∧ g ≤ 3) : 0 ≤ takes c s h g ∧ takes c s h g ≤ 12 := by
  have h1 := hs.w
  unfold takes
  by_cases hh : h < c.heat.length
  · rw [heat_at hh]
    have := hc.heat _ (List.getElem_mem hh)
    omega
  · have : c.heat.getD h 0 = 0 := by simp [List.getD, List.getElem?_eq_none (by omega : c.heat.length ≤ h)]
    rw [this]; omega
theorem left_near {c : Cargo} (hc : c.TOk) {s : List Int} (hs : SOk s) {h : Nat} {g : Int} (hg : 0 ≤ g ∧ g ≤ 3) {l0 : List Int} (h0 : Near l0) : ∀ i, Near (leftTo c s h g l0 i)
  | 0 => h0
  | i + 1 => by
    have ih := left_near hc hs (h := h) hg h0 i
    have ht := takes_in hc hs (h := h) hg
    rw [leftTo, leftStep]
    split
    · rename_i e
      unfold lessAt at e
      simp only [Bool.and_eq_true, decide_eq_true_eq] at e
      have := ih.2 i
      exact near_set ih (by omega)
    · exact ih
theorem left_no {c : Cargo} {s : List Int} {h : Nat} {g : Int} {l0 : List Int} {i : Nat} (hi : i < c.lots.length) (hh : (h : Int) < c.lots[i].frm ∨ (leftTo c s h g l0 i).getD i 0 ≤ 0) : leftTo c s h g l0 (i + 1) = leftTo c s h g l0 i := by
  rw [leftTo, leftStep, lessAt, zC5 hi]
  rcases hh with e | e
  · rw [decide_eq_false (by omega)]; rfl
  · rw [decide_eq_false (p := 0 < _) (by omega), Bool.and_false]; rfl
theorem left_yes {c : Cargo} {s : List Int} {h : Nat} {g z : Int} {l0 : List Int} {i : Nat} (hi : i < c.lots.length) (h1 : c.lots[i].frm ≤ (h : Int)) (h2 : 0 < (leftTo c s h g l0 i).getD i 0) (hz : z = (leftTo c s h g l0 i).getD i 0 - takes c s h g) : leftTo c s h g l0 (i + 1) = (leftTo c s h g l0 i).set i z := by
  subst hz
  rw [leftTo, leftStep, lessAt, zC5 hi, decide_eq_true h1, decide_eq_true h2]; rfl
theorem take5 {s : List Int} (h : SOk s) : Near ((s.drop 2).take 5) := by
  refine ⟨by simp [h.len], fun i => ?_⟩
  by_cases hi : i < 5
  · have := h.g i hi
    have e : ((s.drop 2).take 5).getD i 0 = s.getD (2 + i) 0 := by simp [List.getD, List.getElem?_take, hi]
    rw [e]; exact this
  · have e : ((s.drop 2).take 5).getD i 0 = 0 := by simp [List.getD, List.getElem?_take, hi]
    rw [e]; omega
theorem zC0 {c : Cargo} (s : List Int) : ∀ h, (hourTo c s h).1.length = 5
  | 0 => by simp [hourTo]
  | h + 1 => by rw [hourTo, hourStep]; simp only [zCz, zC0 s h]
theorem hour_near {c : Cargo} (hc : c.TOk) {s : List Int} (hs : SOk s) : ∀ h, Near (hourTo c s h).2
  | 0 => take5 hs
  | h + 1 => by
    rw [hourTo, hourStep]
    exact left_near hc hs (turn_gas hc.gas _ _ _ _ _) (hour_near hc hs h) _
theorem zBf (c : Cargo) (s : List Int) : (times c s).length = 5 := by unfold times; rw [zCz, zC0]
theorem key_cov : ∀ l m : List Int, l.length = 8 → m.length = 8 → (decide ((l.drop 0).take 1 = (m.drop 0).take 1) && (decide ((l.drop 1).take 1 = (m.drop 1).take 1) && (decide ((l.drop 2).take 5 = (m.drop 2).take 5) && (decide ((l.drop 7).take 1 = (m.drop 7).take 1) && true)))) = decide (l = m) := by
  intro l m hl hm
  match l, hl with
  | [a, b, c, d, e, f, g, h], _ =>
    match m, hm with
    | [a', b', c', d', e', f', g', h'], _ =>
      rw [Bool.eq_iff_iff]
      simp
      intro _ _
      constructor
      · rintro ⟨⟨_, _,_,_, _⟩, _⟩; simp [*]
      · rintro ⟨_, _,_,_,_, _⟩; simp [*]
end Go.Rt.Tu
/- Plain laws of maps as lists: what is left of a range, values that are ints. No conditions. -/
set_option linter.unusedSectionVars false
namespace Go.Rt
open Go.RowKit
section
variable {α : Type} [DecidableEq α]
def IntsTo (B : Int) (l : List (α × Value × Nat)) : Prop := ∀ q ∈ l, ∃ z : Int, q.2.1 = .int .i64 z ∧ 0 ≤ z ∧ z ≤ B
theorem IntsTo.put {B B' : Int} {l : List (α × Value × Nat)} (h : IntsTo B l) (hB : B ≤ B') {a : α} {z : Int} (hz : 0 ≤ z ∧ z ≤ B') (ck : Nat) : IntsTo B' (putA a (.int .i64 z) ck l) := by
  intro q hq
  rcases zGn hq with ⟨_, h2⟩ | h2
  · exact ⟨z, h2, hz⟩
  · obtain ⟨y, h3, h4⟩ := h q h2
    exact ⟨y, h3, by omega⟩
theorem IntsTo.le {B B' : Int} {l : List (α × Value × Nat)} (h : IntsTo B l) (hB : B ≤ B') : IntsTo B' l := fun q hq => by
  obtain ⟨y, h3, h4⟩ := h q hq
  exact ⟨y, h3, by omega⟩
end
section
variable {P : Program} {n : Nat} {ρ : Nat → Value} {ds : List Deferred} {w w0 : World} {L : List (Nat × Obj)} {d : Option Tmp} {ty : TypeId} {p : String} {e : Array Edge} {g : Option (Nat × Bool)} {α : Type} [DecidableEq α] {kv : α → Value} {ok : α → Prop}
end
end Go.Rt
/- The walking engine, part 20: lookups in maps whose values are told by their keys. No conditions. -/
set_option linter.unusedSectionVars false
namespace Go.Rt
open Go.RowKit
variable {P : Program} {n : Nat} {ρ : Nat → Value} {ds : List Deferred} {w w0 : World} {L : List (Nat × Obj)} {d : Option Tmp} {ty : TypeId} {p : String} {e : Array Edge} {g : Option (Nat × Bool)} {α : Type} [DecidableEq α] {kv : α → Value} {ok : α → Prop}
theorem keyTy_array {t el : TypeId} {k : Nat} (hu : P.underlying t = some (.array k el)) (hel : P.underlying el = some (.int .i64)) (hs : ∀ w, (sizeOf el).run P w = .ok 1 w) (hf : flatInts P t k = true) : KeyTy P t k where
  chk := fun em l w hl => by
    unfold ia
    exact zIu (dd := 9998) hu (by first | simpa using hl | omega) hel hs
  eq := fun l m w hl hm => by
    show (Op.equalIn (9998 + 2) t (ia l) (ia m)).run P w = _
    exact zEv 9998 (by rw [hl]; exact hf) (by rw [hl, hm])
  desc := by
    refine ⟨_, hu, fun l e es => ?_, fun l w => ?_⟩
    · simp [Instr.findNow, Instr.sameNow]
    · simp [Instr.findKey, Sem.run_bind, run_underlying hu, Result.andThen, Instr.findNow]
theorem own_some2 {t : TypeId} {sz n c : Nat} {a : Option Addr} {xs : List Value} {B : List (Nat × Obj)} (h : Own (.slice a n c) t sz n xs B) (hn : 0 < n) : ∃ b cs, a = some ⟨b, 0, none⟩ ∧ B = [(b, blk t cs)] ∧ n ≤ c ∧ c ≤ maxLen ∧ cs.length = c * sz ∧ cs.take (n * sz) = xs := by
  rcases h.2 with ⟨_, h0, _⟩ | ⟨b, cap, cs, h1, h2, h3, h4, h5, h6⟩
  · omega
  · injection h1 with e1 _ e3
    subst e3
    exact ⟨b, cs, e1, h2, h3, h4, h5, h6⟩
theorem own_mk {t : TypeId} {sz n c b : Nat} {xs cs : List Value} (hl : xs.length = n * sz) (h3 : n ≤ c) (h4 : c ≤ maxLen) (h5 : cs.length = c * sz) (h6 : cs.take (n * sz) = xs) : Own (.slice (some ⟨b, 0, none⟩) n c) t sz n xs [(b, blk t cs)] := ⟨hl, .inr ⟨b, c, cs, rfl, rfl, h3, h4, h5, h6⟩⟩
end Go.Rt
set_option maxRecDepth 20000
namespace Go.Proofs.Ut
open Go.Proofs.Tryz
open Go.Rt Go.Rt.Tu
open Go.Rt.Ha (firstE zB3 zAp zBn failE felt spanL upto zBv listL fewest fewTo bit Bunch before fewStep zB8 zCi zBx zB2 zCg zCf zBu)
attribute [local irreducible] WL WC Con Yd At Ats Sl Agree DW

structure CK (w0 : World) (F : List (Nat × Obj)) (c : Cargo) (p : AtT) (but cb mm : Nat) : Prop where
  i : TIn w0 F c p
  l : Ats w0 F cb 0 [.slice p.ae c.heat.length p.ce, .int .i64 c.gas, .slice p.ah c.holds.length p.ch, .slice p.al c.lots.length p.cl, .slice p.an c.seen.length p.cn, .int .i64 (but : Int), .map (some mm)]
  ok : c.TOk
  bt : but < 1000
theorem CK.mono {w0 : World} {F F' : List (Nat × Obj)} {c : Cargo} {p : AtT} {but cb mm : Nat} (h : CK w0 F c p but cb mm) (hs : ∀ w, St w0 w F' → St w0 w F) : CK w0 F' c p but cb mm := ⟨h.i.mono hs, h.l.mono hs, h.ok, h.bt⟩
theorem CK.cons {w0 : World} {F : List (Nat × Obj)} {x : Nat × Obj} {c : Cargo} {p : AtT} {but cb mm : Nat} (h : CK w0 F c p but cb mm) : CK w0 (x :: F) c p but cb mm := h.mono fun _ h => h.tail
theorem CK.app {w0 : World} {F B : List (Nat × Obj)} {c : Cargo} {p : AtT} {but cb mm : Nat} (h : CK w0 F c p but cb mm) : CK w0 (B ++ F) c p but cb mm := h.mono fun _ h => h.drop
theorem key_zip {P : Program} {t k : Nat} {fs : Array Field} (ks : List Nat) (hu : P.underlying t = some (.struct fs)) (hp : P.stoodInHeld t = false) (h1 : fs.toList = (fs.toList.zip ks).map Prod.fst) (h2 : ∀ q ∈ fs.toList.zip ks, FF P q.1 q.2 ∧ q.1.offset + q.2 ≤ k)
    (h3 : ∀ q ∈ fs.toList.zip ks, P.underlying q.1.type = some (.int .i64) ∨ ∃ el, P.underlying q.1.type = some (.array q.2 el) ∧ P.underlying el = some (.int .i64) ∧ ∀ w, (sizeOf el).run P w = .ok 1 w)
    (h4 : ∀ l m : List Int, l.length = k → m.length = k → ((fs.toList.zip ks).all fun q => decide ((l.drop q.1.offset).take q.2 = (m.drop q.1.offset).take q.2)) = decide (l = m)) : KeyTy P t k := keyTy_struct _ hu hp h1 h2 h3 h4
theorem key94 : KeyTy Tryz.prog 94 8 := by
  refine key_zip [1,1,5,1] underlying94 (by kernel_rfl) rfl ?_ ?_ ?_
  · intro q hq
    simp only [List.zip_cons_cons, List.zip_nil_right, List.mem_cons, List.not_mem_nil, or_false] at hq
    rcases hq with rfl | rfl | rfl | rfl
    · exact ⟨⟨by decide, .inl ⟨underlying3, rfl⟩⟩, by decide⟩
    · exact ⟨⟨by decide, .inl ⟨underlying3, rfl⟩⟩, by decide⟩
    · exact ⟨⟨by decide, .inr ⟨by kernel_rfl, isAgg92, sizeOf92⟩⟩, by decide⟩
    · exact ⟨⟨by decide, .inl ⟨underlying3, rfl⟩⟩, by decide⟩
  · intro q hq
    simp only [List.zip_cons_cons, List.zip_nil_right, List.mem_cons, List.not_mem_nil, or_false] at hq
    rcases hq with rfl | rfl | rfl | rfl
    · exact .inl underlying3
    · exact .inl underlying3
    · exact .inr ⟨3, underlying92, underlying3, sizeOf3⟩
    · exact .inl underlying3
  · exact key_cov
def Memo (c : Cargo) (mm : Nat) (M : List (Nat × Obj)) : Prop :=
  ∃ (es : List (List Int × Value × Nat)) (ck : Nat), M = [(mm, .map (ents (fun l : List Int => ia l) es).toArray ck)] ∧ MOk es ck ∧ (∀ q ∈ es, q.1.length = 8) ∧ ∀ q ∈ es, q.2.1 = ia (times c q.1)
theorem zE1 (c : Cargo) (mm : Nat) : Memo c mm [(mm, .map #[] 0)] := ⟨[], 0, rfl, mok_nil, by simp, by simp⟩
theorem bit0 {b j : Nat} (h : ((bit b j : Nat) : Int) = 0) : bit b j = 0 := by omega
theorem bit0n {b j : Nat} (h : ¬ ((bit b j : Nat) : Int) = 0) : ¬ bit b j = 0 := by omega
theorem c57 {w0 w : World} {F : List (Nat × Obj)} (c : Cargo) (p : AtT) (but cb mm : Nat) (hk : CK w0 F c p but cb mm) (hold : Int) (hs : St w0 w F) :
  Con Tryz.prog 57 [.pointer (some ⟨cb, 0, none⟩), .int .i64 hold] w fun v w' => v = .int .i64 (ofH c hold : Nat) ∧ St w0 w' F := by
  refine zAo (n := 28) func57 rfl rfl (zNl rfl) ?_
  obtain ⟨ae, ce, ah, ch, al, cl, an, cn⟩ := p
  have hb := hk.l
  have hle := hk.ok.le
  have hll := hk.ok.ll
  refine zAf (fun K2 g7 => (zAb (zBi rfl rfl (zAd (zAc (g7 _ _ (zAf (fun K4 g8 => (zAf (fun K6 g9 => (zAb (w_p (zCn rfl rfl) rfl ?_))))))))))))
  refine w_p (zB0 rfl rfl) rfl (w_p (zAe (o := 0) (i := 0) underlying138 rfl sizeOf27 rfl rfl rfl) rfl (w_p (zAe (o := 3) (i := 3) underlying27 rfl sizeOf24 rfl rfl rfl) rfl (w_p (zAg isAgg24 hs rfl rfl (show Ats _ _ _ _ [_] from Ats.part hb 3 1)) rfl ?_)))
  refine w_p (zBc underlying24 rfl rfl) rfl (w_p (zBy (v := _) rfl rfl) rfl (zAd (zAc (g9 _ _ (zAq ?_)))))
  refine zB6 [4,5,6,13,14,15,16,17,18,19,20,21,22,23,24,25,26] [4,13] (fun kk vs w => ∃ i : Nat, vs = [.int .i64 (ofTo c hold i : Nat), .int .i64 i] ∧ i ≤ c.lots.length ∧ kk = c.lots.length - i ∧ St w0 w F) (c.lots.length) ?_ ?_
  ·
   exact ⟨0, rfl, by omega, by omega, hs⟩
  intro k vs μ w9 hI K8 g5
  obtain ⟨i, rfl, hia, rfl, hs⟩ := hI
  refine zAf (fun gh ga => (zAb (w_p (zCp rfl rfl rfl rfl) rfl (zAd (zAc (ga _ _ (zAf (fun gi gc => (zAr rfl rfl (fun g3 => ?_) (fun g3 => ?_))))))))))
  ·
   try simp only [zS] at g3
   refine zAn (zAc (gc _ _ (zAf (fun gj g6 => (zAq ?_)))))
   refine zAf (fun gk gd => ?_)
   have hi2 : i < c.lots.length := by omega
   obtain ⟨bx, ox, hbx, hx⟩ := sl_lrows hk.i.l hi2
   subst hbx
   have hof := zI7 c hold (i := i) (by omega)
   have hsh := shl5 (i := i) (by omega)
   refine zAb (zA6 rfl rfl (w_p (zA7 underlying24 sizeOf38 rfl rfl rfl rfl (i := _) rfl (by omega)) rfl (w_p (zA2 (vs := [_,_,_,_]) isAgg38 sizeOf38 hs rfl rfl hx) rfl (zA1 (cs := [_,_,_,_]) zAa zeroValue38 rfl hs (fun gm gn ge => ?_)))))
   refine zBw rfl rfl (zBj 0 (.agg #[.int _ _, .int _ _, .int _ _, .int _ _]) [_,_,_,_] sizeOf38 ge (fun go g0 => ?_))
   refine zAd (zAc (gd _ _ (zAf (fun gp gf => (zAb (w_p (zAe (o := 0) (i := 0) underlying38 rfl sizeOf3 rfl rfl rfl) rfl (w_p (zAg isAgg3 g0 rfl rfl (aow 0 [_])) rfl ?_)))))))
   refine zA6 rfl rfl (w_p (zCa rfl rfl rfl rfl) rfl (zAd (zAc (gf _ _ (zAr rfl rfl (fun g4 => ?_) (fun g4 => ?_))))))
   ·
    try simp only [zS] at g4
    refine zAb (zA6 rfl rfl (zA6 rfl rfl (w_p (y_shl (x := 1) (y := i) rfl rfl rfl rfl rfl (by first | rfl | omega) (by first | omega | exact zCr (by omega)) (by first | omega | exact zCr (by omega))) rfl ?_)))
    refine w_p (y_or (x := ofTo c hold i) (y := 1 <<< i) rfl rfl rfl rfl (by first | rfl | omega) (by first | rfl | omega) (by first | omega | exact zCr (by omega)) (by first | omega | exact zCr (by omega))) rfl ?_
    refine zBw rfl rfl (zAd (zAi (zAc (g6 _ _ (zAb (w_p (zBo rfl rfl rfl rfl (by omega) (by omega)) rfl (zA6 rfl rfl (zAd (zAc (g5 _ _ (nxI (c.lots.length - (i + 1)) (by omega) ?_)))))))))))
    first
      | exact ⟨i + 1, iv2 (by rw [of_yes hi2 (by assumption)]) rfl, by omega, rfl, g0.tail⟩
      | exact ⟨i + 1, iv2 (by rw [of_no hi2 (by assumption)]) rfl, by omega, rfl, g0.tail⟩
   try simp only [zS] at g4
   refine zAn (zAi (zAc (g6 _ _ (zAb (w_p (zBo rfl rfl rfl rfl (by omega) (by omega)) rfl (zA6 rfl rfl (zAd (zAc (g5 _ _ (nxI (c.lots.length - (i + 1)) (by omega) ?_))))))))))
   first
     | exact ⟨i + 1, iv2 (by rw [of_yes hi2 (by assumption)]) rfl, by omega, rfl, g0.tail⟩
     | exact ⟨i + 1, iv2 (by rw [of_no hi2 (by assumption)]) rfl, by omega, rfl, g0.tail⟩
  try simp only [zS] at g3
  refine zBt (zAj (zAj (zAv (zAc (g8 _ _ (zAf (fun gq gg => (zAb (zA6 rfl rfl (zBw rfl rfl (zAd (zAc (gg _ _ (zA8 (zBa (l := [.tmp 4]) (vs := [_]) rfl ⟨⟨rfl, (rfl : _ = Value.int _ _)⟩, trivial⟩ ?_)))))))))))))))
  have hin : i = c.lots.length := by omega
  subst hin
  exact ⟨rfl, hs⟩

theorem c46 {w0 w : World} {F : List (Nat × Obj)} (c : Cargo) (p : AtT) (but cb mm : Nat) (hk : CK w0 F c p but cb mm)  (hs : St w0 w F) :
  Con Tryz.prog 46 [.pointer (some ⟨cb, 0, none⟩)] w fun v w' => v = .int .i64 (never c) ∧ St w0 w' F := by
  refine zAo (n := 10) func46 rfl rfl (zNl rfl) ?_
  have hb := hk.l
  have hle := hk.ok.le
  have hll := hk.ok.ll
  refine zAf (fun K2 g0 => (zAb (zBi rfl rfl (zAd (zAc (g0 _ _ (zAf (fun K4 g3 => (zAb (w_p (zCn rfl rfl) rfl (w_p (zB0 rfl rfl) rfl ?_)))))))))))
  refine w_p (zAe (o := 0) (i := 0) underlying138 rfl sizeOf27 rfl rfl rfl) rfl (w_p (zAe (o := 0) (i := 0) underlying27 rfl sizeOf22 rfl rfl rfl) rfl (w_p (zAg isAgg22 hs rfl rfl (show Ats _ _ _ _ [_] from Ats.part hb 0 1)) rfl (w_p (zBc underlying22 rfl rfl) rfl ?_)))
  refine w_p (zBo rfl rfl rfl rfl (by omega) (by omega)) rfl (zBw rfl rfl (zAd (zAc (g3 _ _ (zA8 (zBa (l := [.tmp 2]) (vs := [_]) rfl ⟨⟨rfl, (rfl : _ = Value.int _ _)⟩, trivial⟩ ?_))))))
  exact ⟨rfl, hs⟩

theorem c53f {w0 w : World} {F : List (Nat × Obj)} (c : Cargo) (p : AtT) (but cb mm : Nat) (hk : CK w0 F c p but cb mm) (s : List Int) (hso : SOk s) (es : List (List Int × Value × Nat)) (ck : Nat) (hes : ∀ q ∈ es, q.1.length = 8) (y : List Int) (hy : y.length = 5) (hf : getA s es = some (ia y)) (hs : St w0 w ((mm, .map (ents (fun l : List Int => ia l) es).toArray ck) :: F)) :
  Con Tryz.prog 53 [.pointer (some ⟨cb, 0, none⟩), ia s] w fun v w' => v = ia y ∧ St w0 w' ((mm, .map (ents (fun l : List Int => ia l) es).toArray ck) :: F) := by
  refine zAo (n := 145) func53 rfl rfl (zNl rfl) ?_
  obtain ⟨ae, ce, ah, ch, al, cl, an, cn⟩ := p
  have hb := hk.l
  have hle := hk.ok.le
  have hll := hk.ok.ll
  refine zAf (fun K2 g6 => (zAb (zEi (l := _) zAa rfl rfl rfl hs (fun b3 w4 g7 => ?_))))
  refine zA1 (cs := iv [0,0,0,0,0]) zAa zeroValue92 rfl g7 (fun b6 w7 g8 => ?_)
  refine zAd (zAc (g6 _ _ (zAf (fun gd ge => (zAf (fun gf g9 => (zCq [10] [(0,0),(1,0),(2,0),(3,1),(4,1),(5,1),(6,0),(7,0),(8,0),(9,2),(10,3),(11,0)] zB4 (zBk (by kernel_rfl)) g8 (fun gg g0 => ?_))))))))
  refine d_w rfl (fun _ => zCn rfl rfl) rfl (d_w rfl (fun _ => zB0 rfl rfl) rfl (d_w rfl (fun _ => zAe (o := 6) (i := 2) underlying138 rfl sizeOf136 rfl rfl rfl) rfl ?_))
  refine zAz rfl zAa rfl g0 (fun _ hq => (zAg isAgg136 hq.tail.tail.tail rfl rfl (show Ats _ _ _ _ [_] from Ats.part hb 6 1))) ?_
  refine zAz rfl zAa rfl g0 (fun _ hq => (zCt (i := 1) isAgg94 sizeOf94 (by first | omega | rfl | (simp only [hy, hso.len, zL] <;> omega)) hq rfl rfl rfl)) ?_
  refine zAz rfl zAa rfl g0 (fun _ hq => (G_look2S (i := 2) (a := s) underlying136 (zIh key94) hso.len hes hq rfl rfl rfl rfl rfl hf)) ?_
  refine d_w rfl (fun _ => zA3 rfl rfl) rfl (d_w rfl (fun _ => zDe (v := (ia _)) rfl rfl rfl) rfl (d_w rfl (fun _ => zE5 rfl rfl rfl) rfl ?_))
  refine zBh rfl ?_
  refine zA1 (cs := iv [0,0,0,0,0]) zAa zeroValue92 rfl g0 (fun gh gi g3 => ?_)
  refine zAd (qn ⟨g3.tail, ?_⟩)
  refine zBr rfl ?_
  refine zDg (i := 0) (l := _) zAa sizeOf92 (by first | omega | rfl | (simp only [hy, hso.len, zL] <;> omega)) rfl rfl rfl rfl rfl g3 rfl (by first | omega | rfl | (simp only [hy, hso.len, zL] <;> omega)) (fun gj g4 => ?_)
  refine zAd (qn ?_)
  refine d_w rfl (fun _ => zAs rfl rfl) rfl ?_
  refine zBm ?_
  refine zAc (g9 _ _ (zAf (fun gk ga => (zAb (w_p (zAt rfl rfl) rfl (zAd (zAc (ga _ _ (zDb rfl rfl ?_)))))))))
  refine zAf (fun gm gc => (zAb (w_p (zCt (i := 0) isAgg92 sizeOf92 (by first | omega | rfl | (simp only [hy, hso.len, zL] <;> omega)) g4 rfl rfl rfl) rfl ?_)))
  refine zDg (i := 1) (l := _) zAa sizeOf92 (by first | omega | rfl | (simp only [hy, hso.len, zL] <;> omega)) rfl rfl rfl rfl rfl g4 rfl (by first | omega | rfl | (simp only [hy, hso.len, zL] <;> omega)) (fun gn g5 => ?_)
  refine zAd (zAc (gc _ _ (zA8 (zAl (zBa (l := [.cell 4 92]) (vs := [_]) rfl ⟨⟨rfl, _, rfl, run_loadI (i := 1) isAgg92 sizeOf92 (by first | omega | rfl | (simp only [hy, hso.len, zL] <;> omega)) g5 rfl⟩, trivial⟩ ?_)))))
  exact ⟨rfl, g5.tail.tail.tail⟩

theorem c53n {w0 w : World} {F : List (Nat × Obj)} (c : Cargo) (p : AtT) (but cb mm : Nat) (hk : CK w0 F c p but cb mm) (s : List Int) (hso : SOk s) (es : List (List Int × Value × Nat)) (ck : Nat) (hes : ∀ q ∈ es, q.1.length = 8) (hf : getA s es = none) (hs : St w0 w ((mm, .map (ents (fun l : List Int => ia l) es).toArray ck) :: F)) :
  Con Tryz.prog 53 [.pointer (some ⟨cb, 0, none⟩), ia s] w fun v w' => v = ia (times c s) ∧ St w0 w' ((mm, .map (ents (fun l : List Int => ia l) (putA s v ck es)).toArray (if idxA s es 0 = none then ck + 1 else ck)) :: F) := by
  refine zAo (n := 145) func53 rfl rfl (zNl rfl) ?_
  obtain ⟨ae, ce, ah, ch, al, cl, an, cn⟩ := p
  have hb := hk.l
  have hle := hk.ok.le
  have hll := hk.ok.ll
  have htt := hso.tt
  have hnr := take5 hso
  have hlnr := take5 hso
  refine zAf (fun K2 gA => (zAb (zEi (l := _) zAa rfl rfl rfl hs (fun b3 w4 gB => ?_))))
  refine zA1 (cs := iv [0,0,0,0,0]) zAa zeroValue92 rfl gB (fun b6 w7 gC => ?_)
  refine zAd (zAc (gA _ _ (zAf (fun jg gD => (zAf (fun jh gE => (zCq [10] [(0,0),(1,0),(2,0),(3,1),(4,1),(5,1),(6,0),(7,0),(8,0),(9,2),(10,3),(11,0)] zB4 (zBk (by kernel_rfl)) gC (fun ji g5 => ?_))))))))
  refine d_w rfl (fun _ => zCn rfl rfl) rfl (d_w rfl (fun _ => zB0 rfl rfl) rfl (d_w rfl (fun _ => zAe (o := 6) (i := 2) underlying138 rfl sizeOf136 rfl rfl rfl) rfl ?_))
  refine zAz rfl zAa rfl g5 (fun _ hq => (zAg isAgg136 hq.tail.tail.tail rfl rfl (show Ats _ _ _ _ [_] from Ats.part hb 6 1))) ?_
  refine zAz rfl zAa rfl g5 (fun _ hq => (zCt (i := 1) isAgg94 sizeOf94 (by first | omega | rfl | (simp only [hso.len, zC1, zCz, zC0, zBf, hnr.1, hlnr.1, zL] <;> omega)) hq rfl rfl rfl)) ?_
  refine zAz rfl zAa rfl g5 (fun _ hq => (G_look2N (i := 2) (a := s) underlying136 (zIh key94) hso.len hes (show ∀ w, (zeroValue 92).run Tryz.prog w = .ok (ia (List.replicate 5 0)) w from zeroValue92) hq rfl rfl rfl rfl rfl hf)) ?_
  refine d_w rfl (fun _ => zA3 rfl rfl) rfl (d_w rfl (fun _ => zDe (v := (ia _)) rfl rfl rfl) rfl (d_w rfl (fun _ => zE5 rfl rfl rfl) rfl ?_))
  refine zBh rfl ?_
  refine zA1 (cs := iv [0,0,0,0,0]) zAa zeroValue92 rfl g5 (fun g6 jj gu => ?_)
  refine zAd (qn ⟨gu.tail, ?_⟩)
  refine zBr rfl ?_
  refine zDg (i := 0) (l := _) zAa sizeOf92 (by first | omega | rfl | (simp only [hso.len, zC1, zCz, zC0, zBf, hnr.1, hlnr.1, zL] <;> omega)) rfl rfl rfl rfl rfl gu rfl (by first | omega | rfl | (simp only [hso.len, zC1, zCz, zC0, zBf, hnr.1, hlnr.1, zL] <;> omega)) (fun jk gF => ?_)
  refine zAd (qn ?_)
  refine d_w rfl (fun _ => zAs rfl rfl) rfl ?_
  refine zBm ?_
  refine zAc (gE _ _ (zAf (fun jl gG => (zAb (w_p (zAt rfl rfl) rfl (zAd (zAc (gG _ _ (zBs rfl rfl ?_)))))))))
  refine zAn (zAc (gD _ _ (zAf (fun jm gH => (zAb (zA1 (cs := iv [0,0,0,0,0]) zAa zeroValue92 rfl gF (fun g7 jo gI => ?_)))))))
  refine zAd (zAc (gH _ _ (zAf (fun jp gJ => (zAf (fun jq gK => (zAb (w_p (zBy (v := _) rfl rfl) rfl (zAd (zAc (gK _ _ (zAq ?_))))))))))))
  refine zB6 [8,27,28,29,30,31,32,33,34] [27] (fun kk vs w => ∃ i : Nat, vs = [.int .i64 i] ∧ i ≤ 5 ∧ kk = 5 - i ∧ St w0 w ((g7, blk 92 (iv (fillTo (never c) i))) :: (g6, blk 92 (iv (List.replicate 5 0))) :: (b6, blk 92 (iv (List.replicate 5 0))) :: (b3, blk 94 (iv s)) :: (mm, .map (ents (fun l : List Int => ia l) es).toArray ck) :: F)) (5) ?_ ?_
  ·
   exact ⟨0, rfl, by omega, by omega, gI⟩
  intro k vs μ jr hI js gL
  obtain ⟨i, rfl, hia, rfl, hs⟩ := hI
  refine zAf (fun jt gM => (zAb (w_p (zCp rfl rfl rfl rfl) rfl (zAd (zAc (gM _ _ (zAf (fun ju gN => (zAr rfl rfl (fun gc => ?_) (fun gc => ?_))))))))))
  ·
   try simp only [zS] at gc
   refine zAn (zAc (gN _ _ (zAf (fun jv gO => (zAq ?_)))))
   refine zAf (fun jw gP => (zAb (zA6 rfl rfl (zBw rfl rfl (zAd (zAc (gP _ _ ?_)))))))
   have hi5 : i < 5 := by omega
   refine zAb (zA6 rfl rfl (w_p (zCn rfl rfl) rfl (zCo zAa call46 rfl rfl rfl rfl (c46 c _ but cb mm hk.cons.cons.cons.cons.cons hs) (fun jx gQ => ?_))))
   refine w_p (zCw underlying92 sizeOf3 rfl rfl rfl rfl (i := i) (by first | rfl | omega) (by omega)) rfl ?_
   refine zDp (i := 0) (j := i) zAa sizeOf3 rfl rfl rfl rfl gQ rfl (by first | omega | rfl | (simp only [hso.len, zC1, zCz, zC0, zBf, hnr.1, hlnr.1, zL] <;> omega)) (fun jy gR => ?_)
   refine zAd (zAi (zAc (gO _ _ (zAb (w_p (zBo rfl rfl rfl rfl (by omega) (by omega)) rfl (zA6 rfl rfl (zAd (zAc (gL _ _ (nxI (5 - (i + 1)) (by omega) ?_))))))))))
   exact ⟨i + 1, rfl, by omega, rfl, gR⟩
  try simp only [zS] at gc
  refine zBt (zAj (zAj (zAv (zAc (gJ _ _ (zAf (fun jz gS => (zAb (w_p (zAe (o := 2) (i := 2) underlying94 rfl sizeOf92 rfl rfl rfl) rfl ?_)))))))))
  refine w_p (y_loadIP (o := 2) (i := 3) isAgg92 sizeOf92 (by first | omega | rfl | (simp only [hso.len, zC1, zCz, zC0, zBf, hnr.1, hlnr.1, zL] <;> omega)) hs rfl rfl rfl) rfl ?_
  refine zA1 (cs := iv [0,0,0,0,0]) zAa zeroValue92 rfl hs (fun gd jA gT => ?_)
  refine zDg (i := 0) (l := _) zAa sizeOf92 (by first | omega | rfl | (simp only [hso.len, zC1, zCz, zC0, zBf, hnr.1, hlnr.1, zL] <;> omega)) rfl rfl rfl rfl rfl gT rfl (by first | omega | rfl | (simp only [hso.len, zC1, zCz, zC0, zBf, hnr.1, hlnr.1, zL] <;> omega)) (fun jB gv => ?_)
  refine zAd (zAc (gS _ _ (zAf (fun jC gU => (zAf (fun jD gV => (zAb (w_p (zCn rfl rfl) rfl (w_p (zB0 rfl rfl) rfl (w_p (zAe (o := 0) (i := 0) underlying138 rfl sizeOf27 rfl rfl rfl) rfl ?_))))))))))
  refine w_p (zAe (o := 0) (i := 0) underlying27 rfl sizeOf22 rfl rfl rfl) rfl (w_p (zAg isAgg22 gv.tail.tail.tail.tail.tail.tail rfl rfl (show Ats _ _ _ _ [_] from Ats.part hb 0 1)) rfl (w_p (zBc underlying22 rfl rfl) rfl (w_p (zBo rfl rfl rfl rfl (by omega) (by omega)) rfl ?_)))
  refine w_p (zBy (v := _) rfl rfl) rfl (zAd (zAc (gV _ _ (zAq ?_))))
  refine zB6 [10,11,12,13,14,15,44,45,46,47,48,49,50,51,52,53,54,55,56,57,58,59,60,61,62,63,64,65,66,67,68,69,70,71,72,73,74,75,76,77,78,79,80,81,82,83,84,85,86,87,88,89,90,91,92,93,94,95,96,97,98,99,100,101,102,103,104,105,106,107,108,109,110,111,112,113,114,115,116,117,118,119,120,121,122,123,124,125,126,127,128,129,130,131,132,133,134,135,136,137] [44] (fun kk vs w => ∃ h : Nat, vs = [.int .i64 h] ∧ h ≤ c.heat.length ∧ kk = c.heat.length + 1 - h ∧ St w0 w ((gd, blk 92 (iv (hourTo c s h).2)) :: (g7, blk 92 (iv (hourTo c s h).1)) :: (g6, blk 92 (iv (List.replicate 5 0))) :: (b6, blk 92 (iv (List.replicate 5 0))) :: (b3, blk 94 (iv s)) :: (mm, .map (ents (fun l : List Int => ia l) es).toArray ck) :: F)) (c.heat.length + 1) ?_ ?_
  ·
   have hi5 : i = 5 := by omega
   subst hi5
   exact ⟨0, rfl, by omega, by omega, gv⟩
  intro k vs μ jE hI jF gW
  clear hs
  obtain ⟨h, rfl, hha, rfl, hs⟩ := hI
  have hnr := hour_near hk.ok hso h
  refine zAf (fun jG gX => (zAb (w_p (zCp rfl rfl rfl rfl) rfl (zAd (zAc (gX _ _ (zAf (fun jH gY => (zAr rfl rfl (fun ge => ?_) (fun ge => ?_))))))))))
  ·
   try simp only [zS] at ge
   refine zAn (zAc (gY _ _ (zAf (fun jI gZ => (zAq ?_)))))
   refine zAf (fun jJ hD => (zAb (zA6 rfl rfl (zBw rfl rfl (zAd (zAc (hD _ _ (w_scope ?_))))))))
   refine zAf (fun jK hN => (zAb (zBi rfl rfl (zAd (zAc (hN _ _ (zAf (fun jL hP => (w_label ?_)))))))))
   refine zAc (hP _ _ (zAf (fun jM hX => (zAf (fun jN hY => (zAb (w_p (zCn rfl rfl) rfl (w_p (zB0 rfl rfl) rfl (w_p (zAe (o := 0) (i := 0) underlying138 rfl sizeOf27 rfl rfl rfl) rfl ?_)))))))))
   refine w_p (zAe (o := 3) (i := 3) underlying27 rfl sizeOf24 rfl rfl rfl) rfl (w_p (zAg isAgg24 hs.tail.tail.tail.tail.tail.tail rfl rfl (show Ats _ _ _ _ [_] from Ats.part hb 3 1)) rfl (w_p (zBc underlying24 rfl rfl) rfl (w_p (zBy (v := _) rfl rfl) rfl (zAd (zAc (hY _ _ (zAq ?_)))))))
   refine zB6 [11,12,13,53,54,55,56,57,58,59,60,61,62,63,64,65,66,67,68,69,70,71,72,73,74,75,76,77,78,79,80,81,82,83,84,85,86,87,88] [11,53] (fun kk vs w => ∃ i : Nat, vs = [.int .i64 (turnTo c s h (hourTo c s h).2 (hourTo c s h).1 i).2, .int .i64 i] ∧ i ≤ c.lots.length ∧ kk = c.lots.length - i ∧ St w0 w ((gd, blk 92 (iv (hourTo c s h).2)) :: (g7, blk 92 (iv (turnTo c s h (hourTo c s h).2 (hourTo c s h).1 i).1)) :: (g6, blk 92 (iv (List.replicate 5 0))) :: (b6, blk 92 (iv (List.replicate 5 0))) :: (b3, blk 94 (iv s)) :: (mm, .map (ents (fun l : List Int => ia l) es).toArray ck) :: F)) (c.lots.length) ?_ ?_
   ·
    exact ⟨0, rfl, by omega, by omega, hs⟩
   intro k vs μ jO hI jP g8
   clear hs
   obtain ⟨i, rfl, hia, rfl, hs⟩ := hI
   refine zAf (fun jQ j0 => (zAb (w_p (zCp rfl rfl rfl rfl) rfl (zAd (zAc (j0 _ _ (zAf (fun jR j1 => (zAr rfl rfl (fun gf => ?_) (fun gf => ?_))))))))))
   ·
    try simp only [zS] at gf
    refine zAn (zAc (j1 _ _ (zAf (fun jS g9 => (zAq ?_)))))
    refine zAf (fun jT j3 => ?_)
    have hi2 : i < c.lots.length := by omega
    obtain ⟨bx, ox, hbx, hx⟩ := sl_lrows hk.i.l hi2
    subst hbx
    refine zAb (zA6 rfl rfl (w_p (zA7 underlying24 sizeOf38 rfl rfl rfl rfl (i := _) rfl (by omega)) rfl (w_p (zA2 (vs := [_,_,_,_]) isAgg38 sizeOf38 hs.tail.tail.tail.tail.tail.tail rfl rfl hx) rfl (zA1 (cs := [_,_,_,_]) zAa zeroValue38 rfl hs (fun jU jV j4 => ?_)))))
    refine zBw rfl rfl (zBj 0 (.agg #[.int _ _, .int _ _, .int _ _, .int _ _]) [_,_,_,_] sizeOf38 j4 (fun jW g0 => ?_))
    refine zAd (zAc (j3 _ _ (zAf (fun jX j5 => (zAf (fun jY gg => (zAb (w_p (zAe (o := 7) (i := 3) underlying94 rfl sizeOf3 rfl rfl rfl) rfl (w_p (zAg isAgg3 g0 rfl rfl (zEr (i := 5) (o := 7) rfl (by first | omega | rfl | (simp only [hso.len, zC1, zCz, zC0, zBf, hnr.1, hlnr.1, zL] <;> omega)))) rfl ?_)))))))))
    refine zA6 rfl rfl (w_p (y_shr (x := tt s) (y := i) rfl rfl rfl rfl (by first | rfl | omega) (by first | rfl | omega) (by first | omega | exact zCr (by omega))) rfl ?_)
    refine w_p (show Yd _ _ _ _ (.int .i64 ((bit (tt s) i : Nat) : Int)) from (y_and (x := _) (y := 1) rfl rfl rfl rfl rfl rfl (by first | omega | exact zCr (by omega)) (by first | omega | exact zCr (by omega)))) rfl ?_
    refine w_p (zCa rfl rfl rfl rfl) rfl (w_p (zAt rfl rfl) rfl (zB5 (fun gh => ?_) (fun gh => ?_)))
    ·
     try simp only [zS] at gh
     refine zAm rfl rfl rfl ?_
     refine zAm rfl rfl rfl ?_
     refine zAm rfl rfl rfl ?_
     refine zAm rfl rfl rfl ?_
     refine w_p (zA5 (v := _) rfl rfl rfl rfl) rfl (w_p (zAt rfl rfl) rfl (zAm rfl rfl rfl ?_))
     refine zAm rfl rfl rfl ?_
     refine zAm rfl rfl rfl ?_
     refine zAm rfl rfl rfl ?_
     refine w_p (zA5 (v := _) rfl rfl rfl rfl) rfl (zAd (zAc (gg _ _ (zDb rfl rfl ?_))))
     refine zBt (zAj (zAv (zAc (g9 _ _ (zAb (w_p (zBo rfl rfl rfl rfl (by omega) (by omega)) rfl (zA6 rfl rfl (zAd (zAc (g8 _ _ (nxI (c.lots.length - (i + 1)) (by omega) ?_)))))))))))
     first
       | (have ho := on_no (c := c) (s := s) (h := h) (left := (hourTo c s h).2) hi2 (by first | exact .inl (bit0 (by assumption)) | exact .inr (.inl (by omega)) | exact .inr (.inr (by omega)))
          exact ⟨i + 1, iv2 (by rw [zF4 ho]) rfl, by omega, rfl, by rw [zF4 ho]; exact g0.tail⟩)
       | (have ho := on_yes (c := c) (s := s) (h := h) (left := (hourTo c s h).2) hi2 (bit0n (by assumption)) (by omega) (by omega)
          exact ⟨i + 1, iv2 (by rw [zFd ho]) rfl, by omega, rfl, by rw [zFd ho]; exact g0.tail⟩)
    try simp only [zS] at gh
    refine w_y rfl rfl rfl (zAe (o := 1) (i := 1) underlying38 rfl sizeOf3 rfl rfl rfl) rfl ?_
    refine w_y rfl rfl rfl (zAg isAgg3 g0 rfl rfl (aow 0 [_])) rfl ?_
    refine w_y rfl rfl rfl (zAy rfl rfl) rfl ?_
    refine w_y rfl rfl rfl (zEf rfl rfl rfl rfl) rfl ?_
    refine w_p (zBg (v := .bool _) rfl rfl rfl rfl) rfl (w_p (zAt rfl rfl) rfl (zB5 (fun gi => ?_) (fun gi => ?_)))
    ·
     try simp only [zS] at gi
     refine zAm rfl rfl rfl ?_
     refine zAm rfl rfl rfl ?_
     refine zAm rfl rfl rfl ?_
     refine zAm rfl rfl rfl ?_
     refine w_p (zA5 (v := _) rfl rfl rfl rfl) rfl (zAd (zAc (gg _ _ (zDb rfl rfl ?_))))
     refine zBt (zAj (zAv (zAc (g9 _ _ (zAb (w_p (zBo rfl rfl rfl rfl (by omega) (by omega)) rfl (zA6 rfl rfl (zAd (zAc (g8 _ _ (nxI (c.lots.length - (i + 1)) (by omega) ?_)))))))))))
     first
       | (have ho := on_no (c := c) (s := s) (h := h) (left := (hourTo c s h).2) hi2 (by first | exact .inl (bit0 (by assumption)) | exact .inr (.inl (by omega)) | exact .inr (.inr (by omega)))
          exact ⟨i + 1, iv2 (by rw [zF4 ho]) rfl, by omega, rfl, by rw [zF4 ho]; exact g0.tail⟩)
       | (have ho := on_yes (c := c) (s := s) (h := h) (left := (hourTo c s h).2) hi2 (bit0n (by assumption)) (by omega) (by omega)
          exact ⟨i + 1, iv2 (by rw [zFd ho]) rfl, by omega, rfl, by rw [zFd ho]; exact g0.tail⟩)
    try simp only [zS] at gi
    refine w_y rfl rfl rfl (zAy rfl rfl) rfl ?_
    refine w_y rfl rfl rfl (zCw underlying92 sizeOf3 rfl rfl rfl rfl (i := i) (by first | rfl | omega) (by omega)) rfl ?_
    refine w_y rfl rfl rfl (zAg isAgg3 g0 rfl rfl (zC9 (i := 1) (j := i) rfl (by first | omega | rfl | (simp only [hso.len, zC1, zCz, zC0, zBf, hnr.1, hlnr.1, zL] <;> omega)))) rfl ?_
    refine w_y rfl rfl rfl (zEf rfl rfl rfl rfl) rfl ?_
    refine w_p (zBg (v := .bool _) rfl rfl rfl rfl) rfl (zAd (zAc (gg _ _ (zAr rfl rfl (fun gj => ?_) (fun gj => ?_)))))
    ·
     try simp only [zS] at gj
     refine zBt (zAj (zAv (zAc (g9 _ _ (zAb (w_p (zBo rfl rfl rfl rfl (by omega) (by omega)) rfl (zA6 rfl rfl (zAd (zAc (g8 _ _ (nxI (c.lots.length - (i + 1)) (by omega) ?_)))))))))))
     first
       | (have ho := on_no (c := c) (s := s) (h := h) (left := (hourTo c s h).2) hi2 (by first | exact .inl (bit0 (by assumption)) | exact .inr (.inl (by omega)) | exact .inr (.inr (by omega)))
          exact ⟨i + 1, iv2 (by rw [zF4 ho]) rfl, by omega, rfl, by rw [zF4 ho]; exact g0.tail⟩)
       | (have ho := on_yes (c := c) (s := s) (h := h) (left := (hourTo c s h).2) hi2 (bit0n (by assumption)) (by omega) (by omega)
          exact ⟨i + 1, iv2 (by rw [zFd ho]) rfl, by omega, rfl, by rw [zFd ho]; exact g0.tail⟩)
    try simp only [zS] at gj
    refine zAn (zAc (j5 _ _ (zAf (fun jZ j6 => (zAb (zA6 rfl rfl (zA6 rfl rfl (w_p (zCw underlying92 sizeOf3 rfl rfl rfl rfl (i := i) (by first | rfl | omega) (by omega)) rfl ?_))))))))
    refine w_p (zAg isAgg3 g0 rfl rfl (zC9 (i := 2) (j := i) rfl (by first | omega | rfl | (simp only [hso.len, zC1, zCz, zC0, zBf, hnr.1, hlnr.1, zL] <;> omega)))) rfl ?_
    refine zA6 rfl rfl (w_p (zG9 rfl rfl rfl rfl) rfl (w_p (zCw underlying92 sizeOf3 rfl rfl rfl rfl (i := i) (by first | rfl | omega) (by omega)) rfl ?_))
    refine zDp (i := 2) (j := i) zAa sizeOf3 rfl rfl rfl rfl g0 rfl (by first | omega | rfl | (simp only [hso.len, zC1, zCz, zC0, zBf, hnr.1, hlnr.1, zL] <;> omega)) (fun k4 gk => ?_)
    refine zAd (zAc (j6 _ _ (zAb (w_p (zCn rfl rfl) rfl (w_p (zB0 rfl rfl) rfl (w_p (zAe (o := 0) (i := 0) underlying138 rfl sizeOf27 rfl rfl rfl) rfl (w_p (zAe (o := 1) (i := 1) underlying27 rfl sizeOf3 rfl rfl rfl) rfl ?_)))))))
    refine w_p (zAg isAgg3 gk.tail.tail.tail.tail.tail.tail.tail rfl rfl (show Ats _ _ _ _ [_] from Ats.part hb 1 1)) rfl (zBw rfl rfl (zAd (zAi (zAc (g9 _ _ (zAb (w_p (zBo rfl rfl rfl rfl (by omega) (by omega)) rfl ?_)))))))
    refine zA6 rfl rfl (zAd (zAc (g8 _ _ (nxI (c.lots.length - (i + 1)) (by omega) ?_))))
    first
      | (have ho := on_no (c := c) (s := s) (h := h) (left := (hourTo c s h).2) hi2 (by first | exact .inl (bit0 (by assumption)) | exact .inr (.inl (by omega)) | exact .inr (.inr (by omega)))
         exact ⟨i + 1, iv2 (by rw [zF4 ho]) rfl, by omega, rfl, by rw [zF4 ho]; exact gk.tail⟩)
      | (have ho := on_yes (c := c) (s := s) (h := h) (left := (hourTo c s h).2) hi2 (bit0n (by assumption)) (by omega) (by omega)
         exact ⟨i + 1, iv2 (by rw [zFd ho]) rfl, by omega, rfl, by rw [zFd ho]; exact gk.tail⟩)
   try simp only [zS] at gf
   refine zBt (zAj (zAj (zAv (zAc (hX _ _ (zAf (fun k5 j7 => (zAf (fun k6 j8 => ?_)))))))))
   have hil : i = c.lots.length := by omega
   subst hil
   have hgas := turn_gas hk.ok.gas s h (hourTo c s h).2 (hourTo c s h).1 c.lots.length
   refine zAb (zA6 rfl rfl (w_p (zCn rfl rfl) rfl (w_p (zB0 rfl rfl) rfl (w_p (zAe (o := 0) (i := 0) underlying138 rfl sizeOf27 rfl rfl rfl) rfl (w_p (zAe (o := 0) (i := 0) underlying27 rfl sizeOf22 rfl rfl rfl) rfl ?_)))))
   refine w_p (zAg isAgg22 hs.tail.tail.tail.tail.tail.tail rfl rfl (show Ats _ _ _ _ [_] from Ats.part hb 0 1)) rfl (w_p (zBc underlying22 rfl rfl) rfl (w_p (zCa rfl rfl rfl rfl) rfl (zAd (zAc (j8 _ _ (zAr rfl rfl (fun gm => ?_) (fun gm => ?_)))))))
   ·
    try simp only [zS] at gm
    refine zBt (zAj (q_ng_exit ?_))
    refine zDw rfl ?_
    refine zAj (zAj (zAv (zAc (gU _ _ (zAf (fun k7 j9 => ?_))))))
    have hhn : h = c.heat.length := by omega
    subst hhn
    replace hs := (show St _ _ (_ :: (_, blk 92 (iv (times c s))) :: _ :: _ :: _ :: _ :: F) from hs)
    refine zCq [6] [(0,0),(1,0),(2,0),(3,1),(4,1),(5,1),(6,3)] zB4 (zBk (by kernel_rfl)) hs (fun k8 ga => ?_)
    refine d_w rfl (fun _ => zCn rfl rfl) rfl (d_w rfl (fun _ => zB0 rfl rfl) rfl (d_w rfl (fun _ => zAe (o := 6) (i := 2) underlying138 rfl sizeOf136 rfl rfl rfl) rfl ?_))
    refine zAz rfl zAa rfl ga (fun _ hq => (zAg isAgg136 hq.tail.tail.tail.tail.tail.tail rfl rfl (show Ats _ _ _ _ [_] from Ats.part hb 6 1))) ?_
    refine zAz rfl zAa rfl ga (fun _ hq => (zCt (i := 4) isAgg94 sizeOf94 (by first | omega | rfl | (simp only [hso.len, zC1, zCz, zC0, zBf, hnr.1, hlnr.1, zL] <;> omega)) hq rfl rfl rfl)) ?_
    refine zAz rfl zAa rfl ga (fun _ hq => (zCt (i := 1) isAgg92 sizeOf92 (by first | omega | rfl | (simp only [hso.len, zC1, zCz, zC0, zBf, hnr.1, hlnr.1, zL] <;> omega)) hq rfl rfl rfl)) ?_
    refine zBr rfl ?_
    refine G_put (i := 5) (a := s) zAa underlying136 (zIh key94) hso.len hes rfl rfl rfl rfl rfl rfl ga rfl (fun k9 gw => ?_)
    refine zAd (qn ?_)
    refine zBm ?_
    refine zAc (j9 _ _ (zAf (fun ka ja => (zAb (w_p (zCt (i := 1) isAgg92 sizeOf92 (by first | omega | rfl | (simp only [hso.len, zC1, zCz, zC0, zBf, hnr.1, hlnr.1, zL] <;> omega)) gw rfl rfl rfl) rfl ?_)))))
    refine zDg (i := 3) (l := _) zAa sizeOf92 (by first | omega | rfl | (simp only [hso.len, zC1, zCz, zC0, zBf, hnr.1, hlnr.1, zL] <;> omega)) rfl rfl rfl rfl rfl gw rfl (by first | omega | rfl | (simp only [hso.len, zC1, zCz, zC0, zBf, hnr.1, hlnr.1, zL] <;> omega)) (fun kb gx => ?_)
    refine zAd (zAc (ja _ _ (zA8 (zBa (l := [.cell 4 92]) (vs := [_]) rfl ⟨⟨rfl, _, rfl, run_loadI (i := 3) isAgg92 sizeOf92 (by first | omega | rfl | (simp only [hso.len, zC1, zCz, zC0, zBf, hnr.1, hlnr.1, zL] <;> omega)) gx rfl⟩, trivial⟩ ?_))))
    exact ⟨rfl, gx.tail.tail.tail.tail.tail⟩
   try simp only [zS] at gm
   refine zAn (zAc (j7 _ _ (zAf (fun kc jb => ?_))))
   have hh2 : h < c.heat.length := by omega
   refine zAb (w_p (zCn rfl rfl) rfl (w_p (zB0 rfl rfl) rfl (w_p (zAe (o := 0) (i := 0) underlying138 rfl sizeOf27 rfl rfl rfl) rfl (w_p (zAe (o := 3) (i := 3) underlying27 rfl sizeOf24 rfl rfl rfl) rfl ?_))))
   refine w_p (zAg isAgg24 hs.tail.tail.tail.tail.tail.tail rfl rfl (show Ats _ _ _ _ [_] from Ats.part hb 3 1)) rfl (w_p (zBc underlying24 rfl rfl) rfl (w_p (zBy (v := _) rfl rfl) rfl (zAd (zAc (jb _ _ (zAq ?_))))))
   refine zB6 [14,15,103,104,105,106,107,108,109,110,111,112,113,114,115,116,117,118,119,120,121,122,123,124,125,126,127,128,129,130,131,132,133,134,135,136] [103] (fun kk vs w => ∃ k : Nat, vs = [.int .i64 k] ∧ k ≤ c.lots.length ∧ kk = c.lots.length - k ∧ St w0 w ((gd, blk 92 (iv (leftTo c s h (turnTo c s h (hourTo c s h).2 (hourTo c s h).1 c.lots.length).2 (hourTo c s h).2 k))) :: (g7, blk 92 (iv (turnTo c s h (hourTo c s h).2 (hourTo c s h).1 c.lots.length).1)) :: (g6, blk 92 (iv (List.replicate 5 0))) :: (b6, blk 92 (iv (List.replicate 5 0))) :: (b3, blk 94 (iv s)) :: (mm, .map (ents (fun l : List Int => ia l) es).toArray ck) :: F)) (c.lots.length) ?_ ?_
   ·
    exact ⟨0, rfl, by omega, by omega, hs⟩
   intro k vs μ kd hI ke gn
   clear hs
   obtain ⟨k, rfl, hka, rfl, hs⟩ := hI
   have hlnr := left_near hk.ok hso (h := h) hgas hnr k
   refine zAf (fun kf jc => (zAb (w_p (zCp rfl rfl rfl rfl) rfl (zAd (zAc (jc _ _ (zAf (fun kg jd => (zAr rfl rfl (fun go => ?_) (fun go => ?_))))))))))
   ·
    try simp only [zS] at go
    refine zAn (zAc (jd _ _ (zAf (fun kh gp => (zAq ?_)))))
    refine zAf (fun ki je => ?_)
    have hk2 : k < c.lots.length := by omega
    obtain ⟨bx, ox, hbx, hx⟩ := sl_lrows hk.i.l hk2
    subst hbx
    refine zAb (zA6 rfl rfl (w_p (zA7 underlying24 sizeOf38 rfl rfl rfl rfl (i := _) rfl (by omega)) rfl (w_p (zA2 (vs := [_,_,_,_]) isAgg38 sizeOf38 hs.tail.tail.tail.tail.tail.tail rfl rfl hx) rfl (zA1 (cs := [_,_,_,_]) zAa zeroValue38 rfl hs (fun kj km jf => ?_)))))
    refine zBw rfl rfl (zBj 0 (.agg #[.int _ _, .int _ _, .int _ _, .int _ _]) [_,_,_,_] sizeOf38 jf (fun kn g3 => ?_))
    refine zAd (zAc (je _ _ (zAf (fun ko gy => (zAb (w_p (zAe (o := 1) (i := 1) underlying38 rfl sizeOf3 rfl rfl rfl) rfl (w_p (zAg isAgg3 g3 rfl rfl (aow 0 [_])) rfl ?_)))))))
    refine zA6 rfl rfl (w_p (zFc rfl rfl rfl rfl) rfl (w_p (zAt rfl rfl) rfl (zB5 (fun gq => ?_) (fun gq => ?_))))
    ·
     try simp only [zS] at gq
     refine w_y rfl rfl rfl (zAy rfl rfl) rfl ?_
     refine w_y rfl rfl rfl (zCw underlying92 sizeOf3 rfl rfl rfl rfl (i := k) (by first | rfl | omega) (by omega)) rfl ?_
     refine w_y rfl rfl rfl (zAg isAgg3 g3 rfl rfl (zC9 (i := 1) (j := k) rfl (by first | omega | rfl | (simp only [hso.len, zC1, zCz, zC0, zBf, hnr.1, hlnr.1, zL] <;> omega)))) rfl ?_
     refine w_y rfl rfl rfl (zEf rfl rfl rfl rfl) rfl ?_
     refine w_p (zA5 (v := .bool _) rfl rfl rfl rfl) rfl (zAd (zAc (gy _ _ (zAr rfl rfl (fun gt => ?_) (fun gt => ?_)))))
     ·
      try simp only [zS] at gt
      obtain ⟨b2, o2, hb2, hx2⟩ := zCx hk.i.e hh2
      subst hb2
      have hnk := hlnr.2 k
      have htk := takes_in hk.ok hso (h := h) hgas
      have hw1 := hso.w
      have hhe := hk.ok.heat _ (List.getElem_mem hh2)
      have hta : takes c s h (turnTo c s h (hourTo c s h).2 (hourTo c s h).1 c.lots.length).2 = c.heat[h] + s.getD 1 0 + (turnTo c s h (hourTo c s h).2 (hourTo c s h).1 c.lots.length).2 := by unfold takes; rw [heat_at hh2]
      refine zCq [18] [(0,0),(1,0),(2,1),(3,0),(4,0),(5,0),(6,0),(7,1),(8,0),(9,0),(10,1),(11,0),(12,1),(13,0),(14,0),(15,0),(16,0),(17,0),(18,3)] zB4 (zBk (by kernel_rfl)) g3 (fun kp g4 => ?_)
      refine d_w rfl (fun _ => zAy rfl rfl) rfl (d_w rfl (fun _ => zCw underlying92 sizeOf3 rfl rfl rfl rfl (i := k) (by first | rfl | omega) (by omega)) rfl ?_)
      refine zAz rfl zAa rfl g4 (fun _ hq => (zAg isAgg3 hq rfl rfl (zC9 (i := 1) (j := k) rfl (by first | omega | rfl | (simp only [hso.len, zC1, zCz, zC0, zBf, hnr.1, hlnr.1, zL] <;> omega))))) ?_
      refine d_w rfl (fun _ => zCn rfl rfl) rfl (d_w rfl (fun _ => zB0 rfl rfl) rfl (d_w rfl (fun _ => zAe (o := 0) (i := 0) underlying138 rfl sizeOf27 rfl rfl rfl) rfl (d_w rfl (fun _ => zAe (o := 0) (i := 0) underlying27 rfl sizeOf22 rfl rfl rfl) rfl ?_)))
      refine zAz rfl zAa rfl g4 (fun _ hq => (zAg isAgg22 hq.tail.tail.tail.tail.tail.tail.tail rfl rfl (show Ats _ _ _ _ [_] from Ats.part hb 0 1))) ?_
      refine d_w rfl (fun _ => zAy rfl rfl) rfl (d_w rfl (fun _ => zA7 underlying22 sizeOf3 rfl rfl rfl rfl (i := h) rfl hh2) rfl ?_)
      refine zAz rfl zAa rfl g4 (fun _ hq => (zAg isAgg3 hq.tail.tail.tail.tail.tail.tail.tail rfl rfl hx2)) ?_
      refine d_w rfl (fun _ => zAe (o := 1) (i := 1) underlying94 rfl sizeOf3 rfl rfl rfl) rfl ?_
      refine zAz rfl zAa rfl g4 (fun _ hq => (zAg isAgg3 hq rfl rfl (zEr (i := 5) (o := 1) rfl (by first | omega | rfl | (simp only [hso.len, zC1, zCz, zC0, zBf, hnr.1, hlnr.1, zL] <;> omega))))) ?_
      refine d_w rfl (fun _ => zBo rfl rfl rfl rfl (by omega) (by omega)) rfl (d_w rfl (fun _ => zAy rfl rfl) rfl (d_w rfl (fun _ => zBo rfl rfl rfl rfl (by omega) (by omega)) rfl (d_w rfl (fun _ => zFb rfl rfl rfl rfl (by omega) (by omega)) rfl (d_w rfl (fun _ => zCw underlying92 sizeOf3 rfl rfl rfl rfl (i := k) (by first | rfl | omega) (by omega)) rfl ?_))))
      refine zBr rfl ?_
      refine zDp (i := 1) (j := k) zAa sizeOf3 rfl rfl rfl rfl g4 rfl (by first | omega | rfl | (simp only [hso.len, zC1, zCz, zC0, zBf, hnr.1, hlnr.1, zL] <;> omega)) (fun kq gz => ?_)
      refine zAd (qn ?_)
      refine zBm ?_
      refine zAi (zAc (gp _ _ (zAb (w_p (zBo rfl rfl rfl rfl (by omega) (by omega)) rfl (zA6 rfl rfl (zAd (zAc (gn _ _ (nxI (c.lots.length - (k + 1)) (by omega) ?_)))))))))
      first
        | (have ho := left_no (c := c) (s := s) (h := h) (g := (turnTo c s h (hourTo c s h).2 (hourTo c s h).1 c.lots.length).2) (l0 := (hourTo c s h).2) hk2 (by first | exact .inl (by omega) | exact .inr (by omega))
           exact ⟨k + 1, rfl, by omega, rfl, by rw [ho]; exact gz.tail⟩)
        | exact ⟨k + 1, rfl, by omega, rfl, by rw [left_yes hk2 (by omega) (by omega) (by rw [hta])]; exact gz.tail⟩
     try simp only [zS] at gt
     refine zAn (zAi (zAc (gp _ _ (zAb (w_p (zBo rfl rfl rfl rfl (by omega) (by omega)) rfl (zA6 rfl rfl (zAd (zAc (gn _ _ (nxI (c.lots.length - (k + 1)) (by omega) ?_))))))))))
     first
       | (have ho := left_no (c := c) (s := s) (h := h) (g := (turnTo c s h (hourTo c s h).2 (hourTo c s h).1 c.lots.length).2) (l0 := (hourTo c s h).2) hk2 (by first | exact .inl (by omega) | exact .inr (by omega))
          exact ⟨k + 1, rfl, by omega, rfl, by rw [ho]; exact g3.tail⟩)
       | exact ⟨k + 1, rfl, by omega, rfl, by rw [left_yes hk2 (by omega) (by omega) (by rw [hta])]; exact g3.tail⟩
    try simp only [zS] at gq
    refine zAm rfl rfl rfl ?_
    refine zAm rfl rfl rfl ?_
    refine zAm rfl rfl rfl ?_
    refine zAm rfl rfl rfl ?_
    refine w_p (zBg (v := _) rfl rfl rfl rfl) rfl (zAd (zAc (gy _ _ (zBs rfl rfl ?_))))
    refine zAn (zAi (zAc (gp _ _ (zAb (w_p (zBo rfl rfl rfl rfl (by omega) (by omega)) rfl (zA6 rfl rfl (zAd (zAc (gn _ _ (nxI (c.lots.length - (k + 1)) (by omega) ?_))))))))))
    first
      | (have ho := left_no (c := c) (s := s) (h := h) (g := (turnTo c s h (hourTo c s h).2 (hourTo c s h).1 c.lots.length).2) (l0 := (hourTo c s h).2) hk2 (by first | exact .inl (by omega) | exact .inr (by omega))
         exact ⟨k + 1, rfl, by omega, rfl, by rw [ho]; exact g3.tail⟩)
      | exact ⟨k + 1, rfl, by omega, rfl, by rw [left_yes hk2 (by omega) (by omega) (by rw [hta])]; exact g3.tail⟩
   try simp only [zS] at go
   refine zBt (zAj (zAj (zAv (q_ng_normal ?_))))
   refine zAi (zAc (gZ _ _ (zAb (w_p (zBo rfl rfl rfl rfl (by omega) (by omega)) rfl (zA6 rfl rfl (zAd (zAc (gW _ _ (nxI (c.heat.length + 1 - (h + 1)) (by omega) ?_)))))))))
   have hkl : k = c.lots.length := by omega
   subst hkl
   exact ⟨h + 1, rfl, by omega, rfl, hs⟩
  exfalso
  try simp only [zS] at ge
  omega

theorem zHt {α : Type} [DecidableEq α] {a : α} {u : Value} : ∀ {l : List (α × Value × Nat)}, getA a l = some u → ∃ q ∈ l, q.1 = a ∧ q.2.1 = u
  | [], h => by simp [getA] at h
  | q :: l, h => by
    by_cases e : q.1 = a
    · simp only [getA, if_pos e] at h
      exact ⟨q, .head _, e, by simpa using h⟩
    · simp only [getA, if_neg e] at h
      obtain ⟨x, hx, h1, h2⟩ := zHt h
      exact ⟨x, .tail _ hx, h1, h2⟩
theorem zF5 {w0 w : World} {X M F : List (Nat × Obj)} (c : Cargo) (p : AtT) (but cb mm : Nat) (hk : CK w0 F c p but cb mm) (s : List Int) (hso : SOk s) (hM : Memo c mm M) (hs : St w0 w (X ++ (M ++ F))) :
    Con Tryz.prog 53 [.pointer (some ⟨cb, 0, none⟩), ia s] w fun v w' => ∃ M', v = ia (times c s) ∧ Memo c mm M' ∧ St w0 w' (X ++ (M' ++ F)) := by
  obtain ⟨es, ck, rfl, hok, hlen, hes⟩ := hM
  have g3 : St w0 w ((mm, .map (ents (fun l : List Int => ia l) es).toArray ck) :: (X ++ F)) := hs.perm (zBp X [_] F)
  cases hf : getA s es with
  | none =>
    refine (c53n c p but cb mm hk.app s hso es ck hlen hf g3).mono ?_
    rintro v w' ⟨rfl, g0⟩
    refine ⟨[_], rfl, ⟨_, _, rfl, hok.put _ _, fun q hq => ?_, fun q hq => ?_⟩, g0.perm (zBp [_] X F)⟩
    · rcases zGn hq with ⟨h1, _⟩ | h
      · rw [h1]; exact hso.len
      · exact hlen q h
    · rcases zGn hq with ⟨h1, h2⟩ | h
      · rw [h1, h2]
      · exact hes q h
  | some u =>
    obtain ⟨q, hq, h1, h2⟩ := zHt hf
    have h3 := hes q hq
    rw [h1, h2] at h3
    subst h3
    refine (c53f c p but cb mm hk.app s hso es ck hlen _ (zBf c s) hf g3).mono ?_
    rintro v w' ⟨rfl, g0⟩
    exact ⟨[_], rfl, ⟨es, ck, rfl, hok, hlen, hes⟩, g0.perm (zBp [_] X F)⟩
end Go.Proofs.Ut
/- Plain facts of the turn layer: what was seen, truths one after the other, as lists of eight numbers. No conditions. -/
namespace Go.Rt.Tu
open Go.Rt.Ha (firstE failE felt spanL upto bit listL fewest Bunch zC8 zD4 zC4 at_ zBv zDu upto_nodup zC2)
theorem zI6 {c : Cargo} {but i n : Nat} {hold : Int} {t : List Int} (hi : i < c.seen.length) (hn : c.seen[i].lot = (n : Int)) {l : Lot} (hl : lotAt c n = l) : okAt c but hold t i = !((decide (bit but i = 0) && decide (l.hold = hold)) && (decide (t.getD n 0 ≤ c.seen[i].hour) != c.seen[i].turned)) := by
  subst hl
  have e : c.seen[i].lot.toNat = n := by omega
  unfold okAt; rw [seen_at hi, e]
theorem okAt_1 {c : Cargo} {but i n : Nat} {hold : Int} {t : List Int} (hi : i < c.seen.length) (hn : c.seen[i].lot = (n : Int)) (h : ¬ bit but i = 0) : okAt c but hold t i = true := by
  rw [zI6 hi hn rfl, decide_eq_false h]; rfl
theorem okAt_2 {c : Cargo} {but i n : Nat} {hold : Int} {t : List Int} (hi : i < c.seen.length) (hn : c.seen[i].lot = (n : Int)) {l : Lot} (hl : lotAt c n = l) (h : ¬ l.hold = hold) : okAt c but hold t i = true := by
  rw [zI6 hi hn hl, decide_eq_false h]; simp
theorem okAt_3 {c : Cargo} {but i n : Nat} {hold : Int} {t : List Int} (hi : i < c.seen.length) (hn : c.seen[i].lot = (n : Int)) (h : decide (t.getD n 0 ≤ c.seen[i].hour) = c.seen[i].turned) : okAt c but hold t i = true := by
  rw [zI6 hi hn rfl, h]; simp
theorem okAt_no {c : Cargo} {but i n : Nat} {hold : Int} {t : List Int} (hi : i < c.seen.length) (hn : c.seen[i].lot = (n : Int)) {l : Lot} (hl : lotAt c n = l) (h1 : bit but i = 0) (h2 : l.hold = hold) (h3 : ¬ decide (t.getD n 0 ≤ c.seen[i].hour) = c.seen[i].turned) : okAt c but hold t i = false := by
  have h4 : (decide (t.getD n 0 ≤ c.seen[i].hour) != c.seen[i].turned) = true := by rw [bne_iff_ne]; exact h3
  rw [zI6 hi hn hl, decide_eq_true h1, decide_eq_true h2, h4]; rfl
theorem zEl {c : Cargo} {but i : Nat} {hold : Int} {t : List Int} (h : seenTo c but hold t i = true) (h2 : okAt c but hold t i = true) : seenTo c but hold t (i + 1) = true := by rw [seenTo, h, h2]; rfl
theorem zH7 {c : Cargo} {but i : Nat} {hold : Int} {t : List Int} (h : okAt c but hold t i = false) : ∀ n, i < n → seenTo c but hold t n = false
  | 0, hn => by omega
  | n + 1, hn => by
    rw [seenTo]
    by_cases e : i = n
    · subst e; rw [h, Bool.and_false]
    · rw [zH7 h n (by omega)]; rfl
def mkG (hold w : Int) (g : List Int) (m : Nat) : List Int := hold :: w :: (g ++ [(m : Int)])
theorem zG4 {hold w : Int} {g : List Int} {m : Nat} (h : g.length = 5) : (mkG hold w g m).length = 8 := by simp [mkG, h]
theorem mkG_set {hold w x : Int} {g : List Int} {m d : Nat} (hd : d < g.length) : (mkG hold w g m).set (2 + d) x = mkG hold w (g.set d x) m := by
  unfold mkG
  rw [show 2 + d = d + 1 + 1 by omega, List.set_cons_succ, List.set_cons_succ, List.set_append_left _ _ hd]
theorem mkG_t {hold w : Int} {g : List Int} {m : Nat} (h : g.length = 5) : (mkG hold w g m).getD 7 0 = (m : Int) := by
  match g, h with
  | [a, b, c, d, e], _ => rfl
theorem mkG_g {hold w : Int} {g : List Int} {m i : Nat} (h : g.length = 5) (hi : i < 5) : (mkG hold w g m).getD (2 + i) 0 = g.getD i 0 := by
  unfold mkG
  rw [show 2 + i = i + 1 + 1 by omega]
  simp [List.getD, List.getElem?_append_left (show i < g.length by omega)]
theorem mkG_inj {hold hold' w w' : Int} {g g' : List Int} {m m' : Nat} (h : g.length = 5) (h' : g'.length = 5) (e : mkG hold w g m = mkG hold' w' g' m') : w = w' ∧ g = g' := by
  unfold mkG at e
  injection e with _ e
  injection e with e1 e
  exact ⟨e1, (List.append_inj e (by omega)).1⟩
theorem zGm {h : List Int} (hl : h.length ≤ 5) : (pad5 h).length = 5 := by simp [pad5]; omega
theorem pad5_at (h : List Int) (b : Nat) : (pad5 h).getD b 0 = h.getD b 0 := by
  unfold pad5
  by_cases hb : b < h.length
  · simp [List.getD, List.getElem?_append_left hb]
  · rw [List.getD, List.getD, List.getElem?_append_right (by omega), List.getElem?_eq_none (by omega : h.length ≤ b)]
    by_cases h2 : b - h.length < 5 - h.length
    · simp [List.getElem?_replicate, h2]
    · simp [List.getElem?_replicate, h2]
theorem pad5_inj {a b : List Int} (h : a.length = b.length) (e : pad5 a = pad5 b) : a = b := by
  unfold pad5 at e
  exact (List.append_inj e h).1
theorem cur_pad5 {cur pre : List Int} {d : Nat} (hl : cur.length = 5) (hp : pre.length = d) (hd : d ≤ 5) (hk : cur.take d = pre) (hz : ∀ j, d ≤ j → cur.getD j 0 = 0) : cur = pad5 pre := by
  apply List.ext_getElem?
  intro i
  by_cases hi : i < 5
  · have e1 : cur[i]? = some (cur.getD i 0) := by rw [List.getD, List.getElem?_eq_getElem (by omega)]; rfl
    have e2 : (pad5 pre)[i]? = some ((pad5 pre).getD i 0) := by rw [List.getD, List.getElem?_eq_getElem (by rw [zGm (by omega)]; exact hi)]; rfl
    rw [e1, e2, pad5_at]
    by_cases h : i < d
    · subst hk
      rw [List.getD, List.getD, List.getElem?_take, if_pos h]
    · rw [hz i (by omega), List.getD, List.getElem?_eq_none (by omega)]; rfl
  · rw [List.getElem?_eq_none (by omega), List.getElem?_eq_none (by rw [zGm (by omega)]; omega)]
theorem zFa (c : Cargo) (m : Nat) : (bun c m).length = c.lots.length := by simp [bun]
theorem bun_get {c : Cargo} {m d : Nat} (hd : d < c.lots.length) (h2 : d < (bun c m).length) : (bun c m)[d] = bunAt c m d := by simp [bun]
def segF (c : Cargo) (hold : Nat) (w : Int) (d : Nat) (pre : List Int) : List (List Int) := ((felt ((bun c (ofH c hold)).drop d)).map (pre ++ ·)).map (mkS hold w (ofH c hold))
def segK (c : Cargo) (but hold : Nat) (w : Int) (d : Nat) (pre : List Int) : List (List Int) := (segF c hold w d pre).filter (okS c but hold)
theorem zF7 {c : Cargo} {hold d : Nat} {w : Int} {pre : List Int} (hd : c.lots.length ≤ d) : segF c hold w d pre = [mkS hold w (ofH c hold) pre] := by
  unfold segF; rw [List.drop_of_length_le (by rw [zFa]; exact hd)]; simp [felt]
theorem segK_leaf {c : Cargo} {but hold d : Nat} {w : Int} {pre : List Int} (hd : c.lots.length ≤ d) : segK c but hold w d pre = if okS c but hold (mkS hold w (ofH c hold) pre) = true then [mkS hold w (ofH c hold) pre] else [] := by
  unfold segK; rw [zF7 hd, List.filter_cons, List.filter_nil]
def restF (c : Cargo) (hold : Nat) (w : Int) (d : Nat) (pre xs : List Int) : List (List Int) := xs.flatMap fun x => segF c hold w (d + 1) (pre ++ [x])
def restK (c : Cargo) (but hold : Nat) (w : Int) (d : Nat) (pre xs : List Int) : List (List Int) := xs.flatMap fun x => segK c but hold w (d + 1) (pre ++ [x])
theorem zF6 {c : Cargo} {hold d : Nat} {w : Int} {pre : List Int} (hd : d < c.lots.length) : segF c hold w d pre = restF c hold w d pre (spanL (bunAt c (ofH c hold) d).lo (bunAt c (ofH c hold) d).hi) := by
  have hl : d < (bun c (ofH c hold)).length := by rw [zFa]; exact hd
  unfold segF restF
  rw [List.drop_eq_getElem_cons hl, bun_get hd]
  simp only [felt, List.map_flatMap, List.map_map]
  refine congrArg (List.flatMap · _) ?_
  funext x
  unfold segF
  simp only [List.map_map]
  refine List.map_congr_left fun y _ => ?_
  simp
theorem zE9 {α β : Type} (p : β → Bool) (f : α → List β) : ∀ l : List α, (l.flatMap f).filter p = l.flatMap fun x => (f x).filter p
  | [] => rfl
  | a :: l => by simp only [List.flatMap_cons, List.filter_append, zE9 p f l]
theorem segK_node {c : Cargo} {but hold d : Nat} {w : Int} {pre : List Int} (hd : d < c.lots.length) : segK c but hold w d pre = restK c but hold w d pre (spanL (bunAt c (ofH c hold) d).lo (bunAt c (ofH c hold) d).hi) := by
  unfold segK restK; rw [zF6 hd]; unfold restF; rw [zE9]; rfl
theorem zEu {c : Cargo} {hold d : Nat} {w : Int} {pre : List Int} {lo : Int} {q n : Nat} (h : q < n) : restF c hold w d pre (upto (lo + q) (n - q)) = segF c hold w (d + 1) (pre ++ [lo + q]) ++ restF c hold w d pre (upto (lo + (q + 1 : Nat)) (n - (q + 1))) := by rw [zC2 h]; rfl
theorem zDr {c : Cargo} {hold d : Nat} {w : Int} {pre : List Int} {lo : Int} {q n : Nat} (h : n ≤ q) : restF c hold w d pre (upto (lo + q) (n - q)) = [] := by rw [show n - q = 0 by omega]; rfl
theorem zIa {c : Cargo} {but hold d : Nat} {w : Int} {pre : List Int} {lo : Int} {q n : Nat} (h : q < n) : restK c but hold w d pre (upto (lo + q) (n - q)) = segK c but hold w (d + 1) (pre ++ [lo + q]) ++ restK c but hold w d pre (upto (lo + (q + 1 : Nat)) (n - (q + 1))) := by rw [zC2 h]; rfl
theorem zDq {c : Cargo} {but hold d : Nat} {w : Int} {pre : List Int} {lo : Int} {q n : Nat} (h : n ≤ q) : restK c but hold w d pre (upto (lo + q) (n - q)) = [] := by rw [show n - q = 0 by omega]; rfl
def warmF (c : Cargo) (hold : Nat) (ws : List Int) : List (List Int) := ws.flatMap fun w => segF c hold w 0 []
def warmK (c : Cargo) (but hold : Nat) (ws : List Int) : List (List Int) := ws.flatMap fun w => segK c but hold w 0 []
theorem warmK_all (c : Cargo) (but hold : Nat) : warmK c but hold (spanL (holdAt c hold).1 (holdAt c hold).2) = truths c but hold := by
  unfold warmK truths
  refine congrArg (List.flatMap · _) ?_
  funext w
  unfold segK segF allW
  simp
theorem zH0 {c : Cargo} {hold : Nat} {lo : Int} {q n : Nat} (h : q < n) : warmF c hold (upto (lo + q) (n - q)) = segF c hold (lo + q) 0 [] ++ warmF c hold (upto (lo + (q + 1 : Nat)) (n - (q + 1))) := by rw [zC2 h]; rfl
theorem warmK_next {c : Cargo} {but hold : Nat} {lo : Int} {q n : Nat} (h : q < n) : warmK c but hold (upto (lo + q) (n - q)) = segK c but hold (lo + q) 0 [] ++ warmK c but hold (upto (lo + (q + 1 : Nat)) (n - (q + 1))) := by rw [zC2 h]; rfl
theorem warmK_done {c : Cargo} {but hold : Nat} {lo : Int} {q n : Nat} (h : n ≤ q) : warmK c but hold (upto (lo + q) (n - q)) = [] := by rw [show n - q = 0 by omega]; rfl
theorem bun_in {c : Cargo} (hc : c.Ok) {m d : Nat} (hd : d < c.lots.length) : 0 ≤ (bunAt c m d).lo ∧ (bunAt c m d).lo ≤ (bunAt c m d).hi ∧ (bunAt c m d).hi ≤ 40 ∧ (bunAt c m d).lo = c.lots[d].lo := by
  have h := hc.lot _ (List.getElem_mem hd)
  have h1 := h.lo
  have h2 := h.le
  have h3 := h.hi
  unfold bunAt
  rw [zC5 hd]
  dsimp only
  split <;> omega
theorem zGf {c : Cargo} (hc : c.Ok) {m : Nat} {h : List Int} (hh : h ∈ felt (bun c m)) : h.length = c.lots.length ∧ ∀ i, 0 ≤ h.getD i 0 ∧ h.getD i 0 ≤ 40 := by
  obtain ⟨h1, h2⟩ := (zD4 _ _).1 hh
  rw [zFa] at h1
  refine ⟨h1, fun i => ?_⟩
  by_cases hi : i < c.lots.length
  · have := h2 i (by rw [zFa]; exact hi)
    rw [bun_get hi] at this
    have hb := bun_in hc (m := m) hi
    have e : at_ h i = h.getD i 0 := rfl
    rw [e] at this
    omega
  · have : h.getD i 0 = 0 := by rw [List.getD, List.getElem?_eq_none (by omega)]; rfl
    omega
theorem all_nodup {c : Cargo} (hc : c.Ok) (hold : Nat) (w : Int) : (segF c hold w 0 []).Nodup := by
  have h1 := zC4 (bun c (ofH c hold))
  have h2 : ∀ h ∈ felt (bun c (ofH c hold)), h.length = c.lots.length := fun h hh => (zGf hc hh).1
  unfold segF
  rw [List.drop_zero]
  revert h1 h2
  generalize felt (bun c (ofH c hold)) = L
  have hl4 := hc.ll
  induction L with
  | nil => intro _ _; simp
  | cons x L ih =>
    intro hn hl
    rw [List.nodup_cons] at hn
    rw [List.map_cons, List.map_cons, List.nodup_cons]
    refine ⟨fun hm => ?_, ih hn.2 fun h hh => hl h (.tail _ hh)⟩
    obtain ⟨y, hy, e⟩ := List.mem_map.1 hm
    obtain ⟨z, hz, rfl⟩ := List.mem_map.1 hy
    rw [List.nil_append, List.nil_append] at e
    have l1 := hl x (.head _)
    have l2 := hl z (.tail _ hz)
    have := pad5_inj (by omega) (mkG_inj (zGm (by omega)) (zGm (by omega)) e).2
    subst this; exact hn.1 hz
theorem zHe {c : Cargo} (hc : c.Ok) {hold : Nat} {w : Int} {s : List Int} (h : s ∈ segF c hold w 0 []) : ∃ g, g.length = 5 ∧ (∀ i, 0 ≤ g.getD i 0 ∧ g.getD i 0 ≤ 40) ∧ s = mkG hold w g (ofH c hold) := by
  unfold segF at h
  rw [List.drop_zero] at h
  obtain ⟨y, hy, rfl⟩ := List.mem_map.1 h
  obtain ⟨z, hz, rfl⟩ := List.mem_map.1 hy
  have := zGf hc hz
  have hl4 := hc.ll
  exact ⟨pad5 ([] ++ z), zGm (by simp; omega), fun i => by rw [pad5_at]; exact this.2 i, rfl⟩
theorem warm_nodup {c : Cargo} (hc : c.Ok) (hold : Nat) : ∀ ws : List Int, ws.Nodup → (warmF c hold ws).Nodup
  | [], _ => by simp [warmF]
  | w :: ws, hn => by
    rw [List.nodup_cons] at hn
    unfold warmF
    rw [List.flatMap_cons, List.nodup_append]
    refine ⟨all_nodup hc hold w, warm_nodup hc hold ws hn.2, fun a ha b hb e => ?_⟩
    subst e
    obtain ⟨w', hw', hb⟩ := List.mem_flatMap.1 hb
    obtain ⟨g, h1, _, rfl⟩ := zHe hc ha
    obtain ⟨g', h1', _, e⟩ := zHe hc hb
    have := (mkG_inj h1 h1' e).1
    subst this
    exact hn.1 hw'
theorem zH5 {c : Cargo} (hc : c.Ok) (hold : Nat) (ws : List Int) : [-1,0,0,0,0,0,0,0] ∉ warmF c hold ws := by
  intro h
  obtain ⟨w, _, h⟩ := List.mem_flatMap.1 h
  obtain ⟨g, _,_, e⟩ := zHe hc h
  unfold mkG at e
  injection e with e _
  omega
theorem sok_mk {c : Cargo} (hc : c.Ok) {hold : Nat} {w : Int} (hw : 0 ≤ w ∧ w ≤ 6) {g : List Int} (hg : g.length = 5) (h : ∀ i, 0 ≤ g.getD i 0 ∧ g.getD i 0 ≤ 40) : SOk (mkG hold w g (ofH c hold)) := by
  have hl4 := hc.ll
  refine ⟨zG4 hg, hw, fun i hi => ?_, ?_⟩
  · rw [mkG_g hg hi]; have := h i; omega
  · rw [mkG_t hg]; have := zI7 c hold (i := c.lots.length) (by omega); unfold ofH; omega
theorem zEg {c : Cargo} (hc : c.Ok) {but hold : Nat} (hh : hold < c.holds.length) {s : List Int} (h : s ∈ truths c but hold) : SOk s ∧ ∃ w g, g.length = 5 ∧ (∀ i, 0 ≤ g.getD i 0 ∧ g.getD i 0 ≤ 40) ∧ s = mkG hold w g (ofH c hold) := by
  rw [← warmK_all] at h
  obtain ⟨w, hw, h⟩ := List.mem_flatMap.1 h
  unfold segK at h
  obtain ⟨g, h1, h2, rfl⟩ := zHe hc (List.mem_filter.1 h).1
  have hw2 := zBv.1 hw
  rw [zIj hh] at hw2
  have h3 := hc.hold _ (List.getElem_mem hh)
  exact ⟨sok_mk hc (by omega) h1 h2, w, g, h1, h2, rfl⟩
theorem pre_next5 {d : Nat} {pre : List Int} {x : Int} (hp : pre.length = d) (h : ∀ j, 0 ≤ pre.getD j 0 ∧ pre.getD j 0 ≤ 40) (hx : 0 ≤ x ∧ x ≤ 40) : ∀ j, 0 ≤ (pre ++ [x]).getD j 0 ∧ (pre ++ [x]).getD j 0 ≤ 40 := by
  intro j
  by_cases e : j < d
  · have e2 : (pre ++ [x]).getD j 0 = pre.getD j 0 := by simp [List.getD, List.getElem?_append_left (by omega : j < pre.length)]
    rw [e2]; exact h j
  · by_cases e3 : j = d
    · subst e3
      have e2 : (pre ++ [x]).getD j 0 = x := by simp [List.getD, ← hp]
      rw [e2]; exact hx
    · have e2 : (pre ++ [x]).getD j 0 = 0 := by rw [List.getD, List.getElem?_eq_none (by simp; omega)]; rfl
      rw [e2]; omega
end Go.Rt.Tu
set_option maxRecDepth 20000
namespace Go.Proofs.Ut
open Go.Proofs.Tryz
open Go.Rt Go.Rt.Tu
open Go.Rt.Ha (firstE zB3 zAp zBn failE felt spanL upto zBv listL fewest fewTo bit Bunch before fewStep zB8 zCi zBx zB2 zCg zCf zBu)
attribute [local irreducible] WL WC Con Yd At Ats Sl Agree DW

theorem c113 {w0 w : World} {F : List (Nat × Obj)} (c : Cargo) (p : AtT) (but cb mm : Nat) (hk : CK w0 F c p but cb mm) (hco : c.Ok) (hold : Int) (t : List Int) (ht5 : t.length = 5) (hs : St w0 w F) :
  Con Tryz.prog 113 [.pointer (some ⟨cb, 0, none⟩), .int .i64 hold, ia t] w fun v w' => v = .bool (seenOk c but hold t) ∧ St w0 w' F := by
  refine zAo (n := 55) func113 rfl rfl (zNl rfl) ?_
  obtain ⟨ae, ce, ah, ch, al, cl, an, cn⟩ := p
  have hb := hk.l
  have hbt := hk.bt
  have hln := hco.ln
  have hll := hco.ll
  refine zAf (fun K2 gc => (zAb (zEi (l := _) zAa rfl rfl rfl hs (fun b3 w4 ga => ?_))))
  refine zBi rfl rfl (zAd (zAc (gc _ _ (zAf (fun K7 gd => (zAf (fun K9 ge => (zAb (w_p (zCn rfl rfl) rfl (w_p (zB0 rfl rfl) rfl ?_))))))))))
  refine w_p (zAe (o := 0) (i := 0) underlying138 rfl sizeOf27 rfl rfl rfl) rfl (w_p (zAe (o := 4) (i := 4) underlying27 rfl sizeOf25 rfl rfl rfl) rfl (w_p (zAg isAgg25 ga.tail rfl rfl (show Ats _ _ _ _ [_] from Ats.part hb 4 1)) rfl (w_p (zBc underlying25 rfl rfl) rfl ?_)))
  refine w_p (zBy (v := _) rfl rfl) rfl (zAd (zAc (ge _ _ (zAq ?_))))
  refine zB6 [6,7,8,15,16,17,18,19,20,21,22,23,24,25,26,27,28,29,30,31,32,33,34,35,36,37,38,39,40,41,42,43,44,45,46,47,48,49,50,51,52,53,54] [15] (fun kk vs w => ∃ i : Nat, vs = [.int .i64 i] ∧ i ≤ c.seen.length ∧ kk = c.seen.length - i ∧ seenTo c but hold t i = true ∧ St w0 w ((b3, blk 92 (iv t)) :: F)) (c.seen.length) ?_ ?_
  ·
   exact ⟨0, rfl, by omega, by omega, rfl, ga⟩
  intro k vs μ gn hI go g3
  obtain ⟨i, rfl, hia, rfl, hsk, hs⟩ := hI
  refine zAf (fun gp gf => (zAb (w_p (zCp rfl rfl rfl rfl) rfl (zAd (zAc (gf _ _ (zAf (fun gq gg => (zAr rfl rfl (fun g4 => ?_) (fun g4 => ?_))))))))))
  ·
   try simp only [zS] at g4
   refine zAn (zAc (gg _ _ (zAf (fun gt g5 => (zAq ?_)))))
   refine zAf (fun gu gh => ?_)
   have hi2 : i < c.seen.length := by omega
   obtain ⟨bn, on, hbn, hxn⟩ := zI2 hk.i.n hi2
   subst hbn
   have hsn := hco.seen _ (List.getElem_mem hi2)
   obtain ⟨no, hno⟩ : ∃ no : Nat, c.seen[i].lot = (no : Int) := ⟨c.seen[i].lot.toNat, by omega⟩
   have hl2 : no < c.lots.length := by omega
   obtain ⟨bx, ox, hbx, hx⟩ := sl_lrows hk.i.l hl2
   subst hbx
   have hla := zC5 hl2
   refine zAb (zA6 rfl rfl (w_p (zA7 underlying25 sizeOf62 rfl rfl rfl rfl (i := _) rfl (by omega)) rfl (w_p (zA2 (vs := [_,_,_]) isAgg62 sizeOf62 hs.tail rfl rfl hxn) rfl (zA1 (cs := [_,_,_]) zAa zeroValue62 rfl hs (fun gv gw gi => ?_)))))
   refine zBw rfl rfl (zBj 0 (.agg #[.int _ _, .int _ _, .bool _]) [_,_,_] sizeOf62 gi (fun gx gj => ?_))
   refine zAd (zAc (gh _ _ (zAf (fun gy g6 => (zCq [] [(0,0),(1,0),(2,0),(3,1),(4,0),(5,0),(6,0),(7,0),(8,0),(9,0),(10,0),(11,0),(12,0),(13,1),(14,0),(15,1),(16,0),(17,0),(18,1),(19,0),(20,0),(21,0),(22,0),(23,0),(24,1),(25,0),(26,1),(27,0),(28,1),(29,0),(30,0),(31,1),(32,0),(33,0)] zB4 (zBk (by kernel_rfl)) gj (fun gz g0 => ?_))))))
   refine d_w rfl (fun _ => zCn rfl rfl) rfl (d_w rfl (fun _ => zB0 rfl rfl) rfl (d_w rfl (fun _ => zAe (o := 5) (i := 1) underlying138 rfl sizeOf3 rfl rfl rfl) rfl ?_))
   refine zAz rfl zAa rfl g0 (fun _ hq => (zAg isAgg3 hq.tail.tail rfl rfl (show Ats _ _ _ _ [_] from Ats.part hb 5 1))) ?_
   refine d_w rfl (fun _ => zAy rfl rfl) rfl (d_w rfl (fun _ => y_shr (x := but) (y := i) rfl rfl rfl rfl (by first | rfl | omega) (by first | rfl | omega) (by first | omega | exact zCr (by omega))) rfl ?_)
   refine d_w rfl (fun _ => show Yd _ _ _ _ (.int .i64 ((bit but i : Nat) : Int)) from (y_and (x := _) (y := 1) rfl rfl rfl rfl rfl rfl (by first | omega | exact zCr (by omega)) (by first | omega | exact zCr (by omega)))) rfl ?_
   refine d_w rfl (fun _ => zCa rfl rfl rfl rfl) rfl (d_w rfl (fun _ => zAt rfl rfl) rfl ?_)
   refine zC6 (fun g7 => ?_) (fun g7 => ?_)
   ·
    try simp only [zS] at g7
    refine zBe rfl (zAh rfl rfl rfl) rfl (fun _ => (zCn rfl rfl)) ?_
    refine zBe rfl (zAh rfl rfl rfl) rfl (fun _ => (zB0 rfl rfl)) ?_
    refine zBe rfl (zAh rfl rfl rfl) rfl (fun _ => (zAe (o := 0) (i := 0) underlying138 rfl sizeOf27 rfl rfl rfl)) ?_
    refine zBe rfl (zAh rfl rfl rfl) rfl (fun _ => (zAe (o := 3) (i := 3) underlying27 rfl sizeOf24 rfl rfl rfl)) ?_
    refine zAz rfl (zAh rfl rfl rfl) rfl g0 (fun _ hq => (zAg isAgg24 hq.tail.tail rfl rfl (show Ats _ _ _ _ [_] from Ats.part hb 3 1))) ?_
    refine zBe rfl (zAh rfl rfl rfl) rfl (fun _ => (zAe (o := 0) (i := 0) underlying62 rfl sizeOf3 rfl rfl rfl)) ?_
    refine zAz rfl (zAh rfl rfl rfl) rfl g0 (fun _ hq => (zAg isAgg3 hq rfl rfl (aow 0 [_]))) ?_
    refine zBe rfl (zAh rfl rfl rfl) rfl (fun _ => (zA7 underlying24 sizeOf38 rfl rfl rfl rfl (i := no) hno hl2)) ?_
    refine zBe rfl (zAh rfl rfl rfl) rfl (fun _ => (zAe (o := 0) (i := 0) underlying38 rfl sizeOf3 rfl rfl rfl)) ?_
    refine zAz rfl (zAh rfl rfl rfl) rfl g0 (fun _ hq => (zAg isAgg3 hq.tail.tail rfl rfl (show Ats _ _ _ _ [_] from Ats.part hx 0 1))) ?_
    refine zBe rfl (zAh rfl rfl rfl) rfl (fun _ => (zAy rfl rfl)) ?_
    refine zBe rfl (zAh rfl rfl rfl) rfl (fun _ => (zCa rfl rfl rfl rfl)) ?_
    refine d_w rfl (fun _ => zA5 (v := .bool _) rfl rfl rfl rfl) rfl (d_w rfl (fun _ => zAt rfl rfl) rfl ?_)
    refine zC6 (fun g8 => ?_) (fun g8 => ?_)
    ·
     try simp only [zS] at g8
     refine zBe rfl (zAh rfl rfl rfl) rfl (fun _ => (zAe (o := 0) (i := 0) underlying62 rfl sizeOf3 rfl rfl rfl)) ?_
     refine zAz rfl (zAh rfl rfl rfl) rfl g0 (fun _ hq => (zAg isAgg3 hq rfl rfl (aow 0 [_]))) ?_
     refine zBe rfl (zAh rfl rfl rfl) rfl (fun _ => (zCw underlying92 sizeOf3 rfl rfl rfl rfl (i := no) hno (by omega))) ?_
     refine zAz rfl (zAh rfl rfl rfl) rfl g0 (fun _ hq => (zAg isAgg3 hq rfl rfl (zC9 (i := 1) (j := no) rfl (by first | omega | rfl | (simp only [ht5, zL] <;> omega))))) ?_
     refine zBe rfl (zAh rfl rfl rfl) rfl (fun _ => (zAe (o := 1) (i := 1) underlying62 rfl sizeOf3 rfl rfl rfl)) ?_
     refine zAz rfl (zAh rfl rfl rfl) rfl g0 (fun _ hq => (zAg isAgg3 hq rfl rfl (aow 0 [_]))) ?_
     refine zBe rfl (zAh rfl rfl rfl) rfl (fun _ => (zFc rfl rfl rfl rfl)) ?_
     refine zBe rfl (zAh rfl rfl rfl) rfl (fun _ => (zAe (o := 2) (i := 2) underlying62 rfl sizeOf4 rfl rfl rfl)) ?_
     refine zAz rfl (zAh rfl rfl rfl) rfl g0 (fun _ hq => (zAg isAgg4 hq rfl rfl (aow 0 [_]))) ?_
     refine zBe rfl (zAh rfl rfl rfl) rfl (fun _ => (y_neB underlying4 rfl rfl rfl rfl)) ?_
     refine d_w rfl (fun _ => zA5 (v := .bool _) rfl rfl rfl rfl) rfl ?_
     refine zBm ?_
     refine zAc (g6 _ _ (zAr rfl rfl (fun g9 => ?_) (fun g9 => ?_)))
     ·
      try simp only [zS] at g9
      refine zAf (fun gA gk => (zAb (zBi rfl rfl (zAd (zAc (gk _ _ (zA8 (zA9 (zAl (zAl (zA9 (zAl (zBa (l := [.tmp 6]) (vs := [_]) rfl ⟨⟨rfl, (rfl : _ = Value.bool _)⟩, trivial⟩ ?_)))))))))))))
      first
        | exact ⟨congrArg Value.bool (zH7 (okAt_no hi2 hno hla (bit0 (by assumption)) (by assumption) (by assumption)) _ hi2).symm, g0.tail.tail⟩
        | (have hil : i = c.seen.length := by omega
           subst hil
           exact ⟨congrArg Value.bool hsk.symm, g0.tail.tail⟩)
     try simp only [zS] at g9
     refine zAn (zAi (zAc (g5 _ _ (zAb (w_p (zBo rfl rfl rfl rfl (by omega) (by omega)) rfl (zA6 rfl rfl (zAd (zAc (g3 _ _ (nxI (c.seen.length - (i + 1)) (by omega) ?_))))))))))
     first
       | exact ⟨i + 1, rfl, by omega, rfl, zEl hsk (okAt_1 hi2 hno (bit0n (by assumption))), g0.tail⟩
       | exact ⟨i + 1, rfl, by omega, rfl, zEl hsk (okAt_2 hi2 hno hla (by assumption)), g0.tail⟩
       | exact ⟨i + 1, rfl, by omega, rfl, zEl hsk (okAt_3 hi2 hno (by assumption)), g0.tail⟩
    try simp only [zS] at g8
    refine zBl rfl rfl rfl rfl ?_
    refine zCb rfl rfl rfl rfl g0 ?_
    refine zBl rfl rfl rfl rfl ?_
    refine zCb rfl rfl rfl rfl g0 ?_
    refine zBl rfl rfl rfl rfl ?_
    refine zCb rfl rfl rfl rfl g0 ?_
    refine zBl rfl rfl rfl rfl ?_
    refine zBl rfl rfl rfl rfl ?_
    refine zCb rfl rfl rfl rfl g0 ?_
    refine zBl rfl rfl rfl rfl ?_
    refine d_w rfl (fun _ => zBg (v := _) rfl rfl rfl rfl) rfl ?_
    refine zBm ?_
    refine zAc (g6 _ _ (zBs rfl rfl ?_))
    refine zAn (zAi (zAc (g5 _ _ (zAb (w_p (zBo rfl rfl rfl rfl (by omega) (by omega)) rfl (zA6 rfl rfl (zAd (zAc (g3 _ _ (nxI (c.seen.length - (i + 1)) (by omega) ?_))))))))))
    first
      | exact ⟨i + 1, rfl, by omega, rfl, zEl hsk (okAt_1 hi2 hno (bit0n (by assumption))), g0.tail⟩
      | exact ⟨i + 1, rfl, by omega, rfl, zEl hsk (okAt_2 hi2 hno hla (by assumption)), g0.tail⟩
      | exact ⟨i + 1, rfl, by omega, rfl, zEl hsk (okAt_3 hi2 hno (by assumption)), g0.tail⟩
   try simp only [zS] at g7
   refine zBl rfl rfl rfl rfl ?_
   refine zBl rfl rfl rfl rfl ?_
   refine zBl rfl rfl rfl rfl ?_
   refine zBl rfl rfl rfl rfl ?_
   refine zCb rfl rfl rfl rfl g0 ?_
   refine zBl rfl rfl rfl rfl ?_
   refine zCb rfl rfl rfl rfl g0 ?_
   refine zBl rfl rfl rfl rfl ?_
   refine zBl rfl rfl rfl rfl ?_
   refine zCb rfl rfl rfl rfl g0 ?_
   refine zBl rfl rfl rfl rfl ?_
   refine zBl rfl rfl rfl rfl ?_
   refine d_w rfl (fun _ => zBg (v := _) rfl rfl rfl rfl) rfl (d_w rfl (fun _ => zAt rfl rfl) rfl ?_)
   refine zBl rfl rfl rfl rfl ?_
   refine zCb rfl rfl rfl rfl g0 ?_
   refine zBl rfl rfl rfl rfl ?_
   refine zCb rfl rfl rfl rfl g0 ?_
   refine zBl rfl rfl rfl rfl ?_
   refine zCb rfl rfl rfl rfl g0 ?_
   refine zBl rfl rfl rfl rfl ?_
   refine zBl rfl rfl rfl rfl ?_
   refine zCb rfl rfl rfl rfl g0 ?_
   refine zBl rfl rfl rfl rfl ?_
   refine d_w rfl (fun _ => zBg (v := _) rfl rfl rfl rfl) rfl ?_
   refine zBm ?_
   refine zAc (g6 _ _ (zBs rfl rfl ?_))
   refine zAn (zAi (zAc (g5 _ _ (zAb (w_p (zBo rfl rfl rfl rfl (by omega) (by omega)) rfl (zA6 rfl rfl (zAd (zAc (g3 _ _ (nxI (c.seen.length - (i + 1)) (by omega) ?_))))))))))
   first
     | exact ⟨i + 1, rfl, by omega, rfl, zEl hsk (okAt_1 hi2 hno (bit0n (by assumption))), g0.tail⟩
     | exact ⟨i + 1, rfl, by omega, rfl, zEl hsk (okAt_2 hi2 hno hla (by assumption)), g0.tail⟩
     | exact ⟨i + 1, rfl, by omega, rfl, zEl hsk (okAt_3 hi2 hno (by assumption)), g0.tail⟩
  try simp only [zS] at g4
  refine zBt (zAj (zAj (zAv (zAc (gd _ _ (zAf (fun gB gm => (zAb (zBi rfl rfl (zAd (zAc (gm _ _ (zA8 (zBa (l := [.tmp 6]) (vs := [_]) rfl ⟨⟨rfl, (rfl : _ = Value.bool _)⟩, trivial⟩ ?_))))))))))))))
  first
    | exact ⟨congrArg Value.bool (zH7 (okAt_no hi2 hno hla (bit0 (by assumption)) (by assumption) (by assumption)) _ hi2).symm, hs.tail⟩
    | (have hil : i = c.seen.length := by omega
       subst hil
       exact ⟨congrArg Value.bool hsk.symm, hs.tail⟩)

end Go.Proofs.Ut
/- The walking engine, part 22: structs of numbers and arrays of numbers, compared as lists. No conditions. -/
namespace Go.Rt
open Go.RowKit
variable {r : Option Nat} {P : Program} {ops : Array Oper} {n : Nat} {ρ : Nat → Value} {ds : List Deferred} {w w0 : World} {L : List (Nat × Obj)}
  {d : Option Tmp} {ty : TypeId} {p : String} {e : Array Edge} {g : Option (Nat × Bool)}
theorem y_eqKey {t t2 : TypeId} {x y : Operand} {l m : List Int} {a b : Value} {k : Nat} (hg : P.eqGuardType P.depth t = false) (hK : KeyTy P t k) (hl : l.length = k) (hm : m.length = k) (ho : okO n x = true) (ho1 : okO n y = true) (hx : ev ρ x = a) (hy : ev ρ y = b) (ha : a = ia l) (hb : b = ia m) :
    Yd P (A n ρ ds) ⟨d, .binOp .eql t x y t2, ty, p, e, g⟩ w (.bool (decide (l = m))) := by
  subst ha hb
  have h1 : (Op.equalIn 10000 t (ia l) (ia m)).run P w = .ok (decide (l = m)) w := hK.eq l m w hl hm
  have h2 := zEy (P := P) (w := w) (op := .eql) (x := x) (y := y) (a := (iv l).toArray) (b := (iv m).toArray) hg
  unfold Yd
  simp only [execOp, zCk ho, zCk ho1, hx, hy, Sem.run_bind]
  have h2' : (eqGuard .eql t x y (ia l) (ia m)).run P w = .ok () w := h2
  have h3 : (binOp .eql t (ia l) (ia m)).run P w = .ok (.bool (decide (l = m))) w := by
    unfold ia at h1 ⊢
    rw [run_eql_struct, h1]
    rfl
  rw [h2']
  simp only [Result.andThen_ok]
  rw [h3]
  rfl
end Go.Rt
