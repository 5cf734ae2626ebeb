/- Own texts of this claim, joined. No conditions. -/
import Derived.Test.YtbikljcddblhjaaGreatHTopFresha
import Derived.Test.YtbikljcddblhjaaGreatHTopFreshb
import Derived.Test.YtbikljcddblhjaaGreatHTopFreshc
import Derived.Test.YtbikljcddblhjaaGreatHTopFreshd
import Derived.Test.YtbikljcddblhjaaGreatHTopFreshe
import Derived.Test.YtbikljcddblhjaaGreatHTopFreshf
import Derived.Test.YtbikljcddblhjaaGreatHTopFreshg
set_option linter.unusedVariables false
set_option linter.unusedSimpArgs false
set_option maxRecDepth 20000
namespace Go.Proofs.Ut
open Go.Proofs.Tryz
open Go.Rt Go.Rt.Tu
open Go.Rt.Ha (firstE zCf zBu zB1 failE felt spanL upto zC1 listL fewest fewTo bit Bunch before fewStep zCm zDd zCc zCx zC6 zCw zB8)
attribute [local irreducible] WL WC Con Yd At Ats Sl Agree DW
theorem Try_UO_fb3 (x0 : Int) (x1 : Int) (w : World) : (Instr.build 23 [(0, .int .i64 x0),(1, .int .i64 x1)].toArray).run Tryz.prog w = .ok (.agg #[.int .i64 x0, .int .i64 x1]) w := by kernel_rfl
theorem Try_UO_fb4 (x0 : Int) (x1 : Int) (x2 : Int) (x3 : Int) (x4 : Int) (x5 : Int) (w : World) : (Instr.buildSlice 35 6 [(0, .int .i64 x0),(1, .int .i64 x1),(2, .int .i64 x2),(3, .int .i64 x3),(4, .int .i64 x4),(5, .int .i64 x5)].toArray).run Tryz.prog w = .ok (.slice (some ⟨w.heap.size, 0, none⟩) 6 6) (w.alloc (Go.Rt.blk 3 [.int .i64 x0, .int .i64 x1, .int .i64 x2, .int .i64 x3, .int .i64 x4, .int .i64 x5])) := by kernel_rfl
theorem Try_UO_fb5 (x0 : Int) (x1 : Int) (x2 : Int) (x3 : Int) (w : World) : (Instr.buildSlice 36 2 [(0, .agg #[.int .i64 x0, .int .i64 x1]),(1, .agg #[.int .i64 x2, .int .i64 x3])].toArray).run Tryz.prog w = .ok (.slice (some ⟨w.heap.size, 0, none⟩) 2 2) (w.alloc (Go.Rt.blk 23 [.int .i64 x0, .int .i64 x1, .int .i64 x2, .int .i64 x3])) := by kernel_rfl
theorem Try_UO_fb6 (x0 : Int) (x1 : Int) (w : World) : (Instr.build 38 [(2, .agg #[.int .i64 x0, .int .i64 x1])].toArray).run Tryz.prog w = .ok (.agg #[.int .i64 0, .int .i64 0, .int .i64 x0, .int .i64 x1]) w := by kernel_rfl
theorem Try_UO_fb7 (x0 : Int) (x1 : Int) (x2 : Int) (x3 : Int) (w : World) : (Instr.build 38 [(0, .int .i64 x0),(1, .int .i64 x1),(2, .agg #[.int .i64 x2, .int .i64 x3])].toArray).run Tryz.prog w = .ok (.agg #[.int .i64 x0, .int .i64 x1, .int .i64 x2, .int .i64 x3]) w := by kernel_rfl
theorem Try_UO_fb8 (x0 : Int) (x1 : Int) (x2 : Int) (x3 : Int) (x4 : Int) (x5 : Int) (x6 : Int) (x7 : Int) (x8 : Int) (x9 : Int) (x10 : Int) (x11 : Int) (w : World) : (Instr.buildSlice 39 3 [(0, .agg #[.int .i64 x0, .int .i64 x1, .int .i64 x2, .int .i64 x3]),(1, .agg #[.int .i64 x4, .int .i64 x5, .int .i64 x6, .int .i64 x7]),(2, .agg #[.int .i64 x8, .int .i64 x9, .int .i64 x10, .int .i64 x11])].toArray).run Tryz.prog w = .ok (.slice (some ⟨w.heap.size, 0, none⟩) 3 3) (w.alloc (Go.Rt.blk 38 [.int .i64 x0, .int .i64 x1, .int .i64 x2, .int .i64 x3, .int .i64 x4, .int .i64 x5, .int .i64 x6, .int .i64 x7, .int .i64 x8, .int .i64 x9, .int .i64 x10, .int .i64 x11])) := by kernel_rfl
theorem Try_UO_fb9 (x0 : Option Addr) (l0 c0 : Nat) (x1 : Int) (x2 : Option Addr) (l2 c2 : Nat) (x3 : Option Addr) (l3 c3 : Nat) (w : World) : (Instr.build 42 [(0, .slice x0 l0 c0),(1, .int .i64 x1),(2, .slice x2 l2 c2),(3, .slice x3 l3 c3)].toArray).run Tryz.prog w = .ok (.agg #[.slice x0 l0 c0, .int .i64 x1, .slice x2 l2 c2, .slice x3 l3 c3, .slice none 0 0]) w := by kernel_rfl
theorem Try_UO_fb10 (x0 : Int) (w : World) : (Instr.build 111 [(1, .int .i64 x0)].toArray).run Tryz.prog w = .ok (.agg #[.int .i64 0, .int .i64 x0, .bool false]) w := by kernel_rfl
theorem Try_UO_fb11 (x0 : Int) (x1 : Int) (x2 : Bool) (w : World) : (Instr.buildSlice 40 1 [(0, .agg #[.int .i64 x0, .int .i64 x1, .bool x2])].toArray).run Tryz.prog w = .ok (.slice (some ⟨w.heap.size, 0, none⟩) 1 1) (w.alloc (Go.Rt.blk 111 [.int .i64 x0, .int .i64 x1, .bool x2])) := by kernel_rfl
theorem zD2 : flatInts Tryz.prog 23 2 = true := by kernel_rfl
theorem Try_UO_fb13 (x0 : Int) (x1 : Int) (w : World) : (Instr.buildSlice 35 2 [(0, .int .i64 x0),(1, .int .i64 x1)].toArray).run Tryz.prog w = .ok (.slice (some ⟨w.heap.size, 0, none⟩) 2 2) (w.alloc (Go.Rt.blk 3 [.int .i64 x0, .int .i64 x1])) := by kernel_rfl
theorem zFn (x0 : Int) (w : World) : (Instr.buildSlice 35 1 [(0, .int .i64 x0)].toArray).run Tryz.prog w = .ok (.slice (some ⟨w.heap.size, 0, none⟩) 1 1) (w.alloc (Go.Rt.blk 3 [.int .i64 x0])) := by kernel_rfl
theorem ats_ofL {w0 w : World} {L : List (Nat × Obj)} {i b : Nat} {t : TypeId} {cs vs : List Value} (hs : St w0 w L) (hi : L[i]? = some (b, blk t cs)) (h : (cs.drop 0).take vs.length = vs) : Ats w0 L b 0 vs := zAl hi h
theorem gen_Z {w0 w : World} {L : List (Nat × Obj)} (hs : St w0 w L) : ∃ Z, Z = L ∧ St w0 w Z := ⟨L, rfl, hs⟩
theorem zEl {k : FuncId} {args : List Value} {w : World} {x : Bool} {S : World → Prop} (h : Con Tryz.prog k args w fun v w' => v = .bool x ∧ S w') (hx : x = true) : Con Tryz.prog k args w fun v w' => v = .bool true ∧ S w' := by subst hx; exact h
theorem kz_own {w0 w : World} {B F : List (Nat × Obj)} {a : Nat × Obj} (h : St w0 w (B ++ (a :: F))) : St w0 w (B ++ F) := (h.perm (zAa B [a] F)).tail
theorem cargoX_y {n : Int} (h : 0 ≤ n) : cargoX n = ⟨[0,0,0,1,0,0], 2, [(1,2),(1,1)], [⟨0,0,4,5⟩, ⟨0,0,10,10⟩, ⟨1,2,6,6⟩], [⟨0, n, false⟩]⟩ := by unfold cargoX; rw [if_pos h]
theorem cargoX_n {n : Int} (h : ¬ 0 ≤ n) : cargoX n = ⟨[0,0,0,1,0,0], 2, [(1,2),(1,1)], [⟨0,0,4,5⟩, ⟨0,0,10,10⟩, ⟨1,2,6,6⟩], []⟩ := by unfold cargoX; rw [if_neg h]
theorem ex_tin1 {w0 : World} {n : Int} {bs b3 bl bp bh : Nat} {t3 : TypeId} {c3 : List Value} :
    TIn w0 [(b3, blk t3 c3), (bs, blk 111 [.int .i64 0, .int .i64 n, .bool false]), (bl, blk 38 [.int .i64 0, .int .i64 0, .int .i64 4, .int .i64 5, .int .i64 0, .int .i64 0, .int .i64 10, .int .i64 10, .int .i64 1, .int .i64 2, .int .i64 6, .int .i64 6]), (bp, blk 23 [.int .i64 1, .int .i64 2, .int .i64 1, .int .i64 1]), (bh, blk 3 (iv [0,0,0,1,0,0]))]
      ⟨[0,0,0,1,0,0], 2, [(1,2),(1,1)], [⟨0,0,4,5⟩, ⟨0,0,10,10⟩, ⟨1,2,6,6⟩], [⟨0, n, false⟩]⟩ ⟨some ⟨bh, 0, none⟩, 6, some ⟨bp, 0, none⟩, 2, some ⟨bl, 0, none⟩, 3, some ⟨bs, 0, none⟩, 1⟩ where
  e := zBd (i := 4) rfl (by intro row h; obtain ⟨q, _, rfl⟩ := List.mem_map.1 h; rfl) rfl
  h := zBd (i := 3) rfl (by intro row h; obtain ⟨q, _, rfl⟩ := List.mem_map.1 h; rfl) rfl
  l := zBd (i := 2) rfl (by intro row h; obtain ⟨q, _, rfl⟩ := List.mem_map.1 h; rfl) rfl
  n := zBd (i := 1) rfl (by intro row h; obtain ⟨q, _, rfl⟩ := List.mem_map.1 h; rfl) rfl
  le := by simp
  lh := by simp
  ll := by simp
  ln := by simp
theorem ex_tin0 {w0 : World} {b3 bl bp bh : Nat} {t3 : TypeId} {c3 : List Value} :
    TIn w0 [(b3, blk t3 c3), (bl, blk 38 [.int .i64 0, .int .i64 0, .int .i64 4, .int .i64 5, .int .i64 0, .int .i64 0, .int .i64 10, .int .i64 10, .int .i64 1, .int .i64 2, .int .i64 6, .int .i64 6]), (bp, blk 23 [.int .i64 1, .int .i64 2, .int .i64 1, .int .i64 1]), (bh, blk 3 (iv [0,0,0,1,0,0]))]
      ⟨[0,0,0,1,0,0], 2, [(1,2),(1,1)], [⟨0,0,4,5⟩, ⟨0,0,10,10⟩, ⟨1,2,6,6⟩], []⟩ ⟨some ⟨bh, 0, none⟩, 6, some ⟨bp, 0, none⟩, 2, some ⟨bl, 0, none⟩, 3, none, 0⟩ where
  e := zBd (i := 3) rfl (by intro row h; obtain ⟨q, _, rfl⟩ := List.mem_map.1 h; rfl) rfl
  h := zBd (i := 2) rfl (by intro row h; obtain ⟨q, _, rfl⟩ := List.mem_map.1 h; rfl) rfl
  l := zBd (i := 1) rfl (by intro row h; obtain ⟨q, _, rfl⟩ := List.mem_map.1 h; rfl) rfl
  n := Sl.nil _ _
  le := by simp
  lh := by simp
  ll := by simp
  ln := by simp
theorem c29 {w0 w : World} {F : List (Nat × Obj)} (x y : Int) (hs : St w0 w F) :
  Con Tryz.prog 29 [.int .i64 x, .int .i64 y] w fun v w' => v = .agg #[.int .i64 x, .int .i64 y] ∧ St w0 w' F := by
  refine zAu (n := 8) func29 rfl rfl (zNl rfl) ?_
  refine zAg (fun K2 g3 => (zAc (zA0 (cs := [_,_]) zAb zeroValue23 rfl hs (fun b3 w4 g4 => ?_))))
  refine zAe (zAd (g3 _ _ (zAg (fun K7 g5 => (zAc (zBe rfl rfl (zBe rfl rfl (w_p (zBx (ps := [(0, _),(1, _)]) (pv := [(0, .int _ _),(1, .int _ _)]) rfl rfl (fun w => Try_UO_fb3 _ _ w)) rfl ?_))))))))
  refine zAs (i := 0) (v := .agg #[.int _ _, .int _ _]) (vs := [_,_]) zAb sizeOf23 rfl rfl rfl rfl rfl (by simp [Value.oneCell']) g4 rfl (zNl rfl) (fun w8 g0 => ?_)
  refine zAe (zAd (g5 _ _ (zA7 (zBa (l := [.cell 4 23]) (vs := [_]) rfl ⟨⟨rfl, _, rfl, zCo (vs := [_,_]) isAgg23 sizeOf23 g0 (zAl (i := 0) (vs := [_,_]) rfl rfl)⟩, trivial⟩ ?_))))
  exact ⟨rfl, g0.tail⟩

theorem c25 {w0 w : World} {F : List (Nat × Obj)} (n : Int) (hs : St w0 w F) :
  Con Tryz.prog 25 [.int .i64 n] w fun v w' => ∃ p B, v = .agg ((cargoX n).cells p).toArray ∧ TIn w0 B (cargoX n) p ∧ St w0 w' (B ++ F) := by
  refine zAu (n := 23) func25 rfl rfl (zNl rfl) ?_
  refine zAg (fun K2 gb => (zAc (zA0 (cs := [_,_,_,_,_]) zAb zeroValue42 rfl hs (fun b3 w4 gc => ?_))))
  refine zAe (zAd (gb _ _ (zAg (fun K7 gd => (zAc (zA3 (ps := [(0, _),(1, _),(2, _),(3, _),(4, _),(5, _)]) (pv := [(0, .int _ _),(1, .int _ _),(2, .int _ _),(3, .int _ _),(4, .int _ _),(5, .int _ _)]) (cs := [_,_,_,_,_,_]) zAb rfl rfl (fun w => Try_UO_fb4 _ _ _ _ _ _ w) gc (fun b8 w9 ge => ?_)))))))
  refine zAr zAb call29 rfl rfl rfl rfl (c29 _ _ ge) ?_
  rintro _ gt ⟨rfl, gf⟩
  refine zAr zAb call29 rfl rfl rfl rfl (c29 _ _ gf) ?_
  rintro _ gu ⟨rfl, gg⟩
  refine zA3 (ps := [(0, _),(1, _)]) (pv := [(0, .agg #[.int _ _, .int _ _]),(1, .agg #[.int _ _, .int _ _])]) (cs := [_,_,_,_]) zAb rfl rfl (fun w => Try_UO_fb5 _ _ _ _ w) gg (fun g6 gv gh => ?_)
  refine zAr zAb call29 rfl rfl rfl rfl (c29 _ _ gh) ?_
  rintro _ gw ⟨rfl, gi⟩
  refine w_p (zBx (ps := [(2, _)]) (pv := [(2, .agg #[.int _ _, .int _ _])]) rfl rfl (fun w => Try_UO_fb6 _ _ w)) rfl (zAr zAb call29 rfl rfl rfl rfl (c29 _ _ gi) ?_)
  rintro _ gx ⟨rfl, gj⟩
  refine w_p (zBx (ps := [(2, _)]) (pv := [(2, .agg #[.int _ _, .int _ _])]) rfl rfl (fun w => Try_UO_fb6 _ _ w)) rfl (zAr zAb call29 rfl rfl rfl rfl (c29 _ _ gj) ?_)
  rintro _ gy ⟨rfl, gk⟩
  refine w_p (zBx (ps := [(0, _),(1, _),(2, _)]) (pv := [(0, .int _ _),(1, .int _ _),(2, .agg #[.int _ _, .int _ _])]) rfl rfl (fun w => Try_UO_fb7 _ _ _ _ w)) rfl (zA3 (ps := [(0, _),(1, _),(2, _)]) (pv := [(0, .agg #[.int _ _, .int _ _, .int _ _, .int _ _]),(1, .agg #[.int _ _, .int _ _, .int _ _, .int _ _]),(2, .agg #[.int _ _, .int _ _, .int _ _, .int _ _])]) (cs := [_,_,_,_,_,_,_,_,_,_,_,_]) zAb rfl rfl (fun w => Try_UO_fb8 _ _ _ _ _ _ _ _ _ _ _ _ w) gk (fun g7 gz gl => ?_))
  refine w_p (zBx (ps := [(0, _),(1, _),(2, _),(3, _)]) (pv := [(0, .slice _ _ _),(1, .int _ _),(2, .slice _ _ _),(3, .slice _ _ _)]) rfl rfl (fun w => Try_UO_fb9 _ _ _ _ _ _ _ _ _ _ w)) rfl ?_
  refine zA0 (cs := [_,_,_,_,_]) zAb zeroValue42 rfl gl (fun gA gB gm => ?_)
  refine zAs (i := 0) (v := .agg #[.slice _ _ _, .int _ _, .slice _ _ _, .slice _ _ _, .slice _ _ _]) (vs := [_,_,_,_,_]) zAb sizeOf42 rfl rfl rfl rfl rfl (by simp [Value.oneCell']) gm rfl (zNl rfl) (fun gC g3 => ?_)
  refine zAe (zAd (gd _ _ (zAg (fun gD g8 => (zAg (fun gE gn => (zAc (zBe rfl rfl (w_p (zHh rfl rfl rfl rfl) rfl (zAe (zAd (gn _ _ (zA1 rfl rfl (fun g4 => ?_) (fun g4 => ?_))))))))))))))
  ·
   try simp only [zS] at g4
   refine zAc (zBe rfl rfl (w_p (zBx (ps := [(1, _)]) (pv := [(1, .int _ _)]) rfl rfl (fun w => Try_UO_fb10 _ w)) rfl (zA3 (ps := [(0, _)]) (pv := [(0, .agg #[.int _ _, .int _ _, .bool _])]) (cs := [_,_,_]) zAb rfl rfl (fun w => Try_UO_fb11 _ _ _ w) g3 (fun go gF gp => ?_))))
   refine w_p (zAf (o := 4) (i := 4) underlying42 rfl sizeOf40 rfl rfl rfl) rfl (zAs (i := 1) (v := .slice _ _ _) (vs := [_]) zAb sizeOf40 rfl rfl rfl rfl rfl (by simp [Value.oneCell']) gp rfl (zNl rfl) (fun gG g9 => ?_))
   refine zAe (zAd (g8 _ _ (zAg (fun gH gq => (zAc (w_p (zA9 (vs := [_,_,_,_,_]) isAgg42 sizeOf42 g9 rfl rfl (zAl (i := 1) (vs := [_,_,_,_,_]) rfl rfl)) rfl (zAs (i := 5) (v := .agg #[.slice _ _ _, .int _ _, .slice _ _ _, .slice _ _ _, .slice _ _ _]) (vs := [_,_,_,_,_]) zAb sizeOf42 rfl rfl rfl rfl rfl (by simp [Value.oneCell']) g9 rfl (zNl rfl) (fun gI ga => ?_))))))))
   refine zAe (zAd (gq _ _ (zA7 (zBa (l := [.cell 2 42]) (vs := [_]) rfl ⟨⟨rfl, _, rfl, zCo (vs := [_,_,_,_,_]) isAgg42 sizeOf42 ga (zAl (i := 5) (vs := [_,_,_,_,_]) rfl rfl)⟩, trivial⟩ ?_))))
   have g5 := ((((((ga.perm (zAa [_,_,_,_,_] [_] _)).perm (zAa [_,_,_,_,_] [_] _)).perm (zAa [_,_,_,_,_] [_] _)).perm (zAa [_,_,_,_,_] [_] _)).perm (zAa [_,_,_,_] [_] _)).perm (zAa [_,_,_,_,_] [_] _))
   replace g5 := (show St _ _ (_ :: _ :: _ :: _ :: _ :: _ :: F) from g5)
   rw [cargoX_y (by omega)]
   exact ⟨⟨some ⟨b8,0, none⟩, 6, some ⟨g6,0, none⟩, 2, some ⟨g7,0, none⟩, 3, some ⟨go,0, none⟩, 1⟩, [_,_,_,_,_], rfl, ex_tin1, kz_own (B := [_,_,_,_,_]) g5⟩
  try simp only [zS] at g4
  refine zAx (zAd (g8 _ _ (zAg (fun gJ gr => (zAc (w_p (zA9 (vs := [_,_,_,_,_]) isAgg42 sizeOf42 g3 rfl rfl (zAl (i := 0) (vs := [_,_,_,_,_]) rfl rfl)) rfl (zAs (i := 4) (v := .agg #[.slice _ _ _, .int _ _, .slice _ _ _, .slice _ _ _, .slice _ _ _]) (vs := [_,_,_,_,_]) zAb sizeOf42 rfl rfl rfl rfl rfl (by simp [Value.oneCell']) g3 rfl (zNl rfl) (fun gK g0 => ?_))))))))
  refine zAe (zAd (gr _ _ (zA7 (zBa (l := [.cell 2 42]) (vs := [_]) rfl ⟨⟨rfl, _, rfl, zCo (vs := [_,_,_,_,_]) isAgg42 sizeOf42 g0 (zAl (i := 4) (vs := [_,_,_,_,_]) rfl rfl)⟩, trivial⟩ ?_))))
  replace g0 := (show St _ _ (_ :: _ :: _ :: _ :: _ :: F) from g0)
  rw [cargoX_n (by omega)]
  exact ⟨⟨some ⟨b8,0, none⟩, 6, some ⟨g6,0, none⟩, 2, some ⟨g7,0, none⟩, 3, none, 0⟩, [_,_,_,_], rfl, ex_tin0, kz_own (B := [_,_,_,_]) g0⟩

theorem c6 {w0 w : World} {F : List (Nat × Obj)}  (hs : St w0 w F) :
  Con Tryz.prog 6 [] w fun v w' => v = .bool true ∧ St w0 w' F := by
  refine zAu (n := 204) func6 rfl rfl (zNl rfl) ?_
  refine zAg (fun K2 gB => (zAc (zBj rfl rfl (zAe (zAd (gB _ _ (zAg (fun K4 gC => (zAc (zAr zAb call25 rfl rfl rfl rfl (c25 (-1) hs) ?_))))))))))
  rintro _ w6 ⟨p1, L1, rfl, hq1, g8⟩
  replace g8 := (show St _ _ (L1 ++ (F)) from g8)
  refine zAr zAb call25 rfl rfl rfl rfl (c25 (3) g8) ?_
  rintro _ w9 ⟨p2, L2, rfl, hq2, g9⟩
  replace g9 := (show St _ _ (L2 ++ (L1 ++ (F))) from g9)
  refine zAr zAb call25 rfl rfl rfl rfl (c25 (4) g9) ?_
  rintro _ j4 ⟨p3, L3, rfl, hq3, ga⟩
  replace ga := (show St _ _ (L3 ++ (L2 ++ (L1 ++ (F)))) from ga)
  refine zA0 (cs := [_,_,_,_,_]) zAb zeroValue42 rfl ga (fun gD j5 gE => ?_)
  refine zA0 (cs := [_,_,_,_,_]) zAb zeroValue42 rfl gE (fun gF j6 gG => ?_)
  refine zA0 (cs := [_,_,_,_,_]) zAb zeroValue42 rfl gG (fun gH j7 gI => ?_)
  refine zAs (i := 2) (v := .agg #[.slice _ _ _, .int _ _, .slice _ _ _, .slice _ _ _, .slice _ _ _]) (vs := [_,_,_,_,_]) zAb sizeOf42 rfl rfl rfl rfl rfl (by simp [Value.oneCell']) gI rfl (zNl rfl) (fun j8 gJ => ?_)
  refine zAs (i := 1) (v := .agg #[.slice _ _ _, .int _ _, .slice _ _ _, .slice _ _ _, .slice _ _ _]) (vs := [_,_,_,_,_]) zAb sizeOf42 rfl rfl rfl rfl rfl (by simp [Value.oneCell']) gJ rfl (zNl rfl) (fun j9 gK => ?_)
  refine zAs (i := 0) (v := .agg #[.slice _ _ _, .int _ _, .slice _ _ _, .slice _ _ _, .slice _ _ _]) (vs := [_,_,_,_,_]) zAb sizeOf42 rfl rfl rfl rfl rfl (by simp [Value.oneCell']) gK rfl (zNl rfl) (fun ja gL => ?_)
  refine zAe (zAd (gC _ _ (zAg (fun jb gM => ?_))))
  obtain ⟨Z, hZ, hsZ⟩ := gen_Z gL
  have hP1 : Ats w0 Z gD 0 ((cargoX (-1)).cells p1) := by rw [hZ]; exact zAl (i := 2) (vs := (cargoX (-1)).cells p1) rfl rfl
  have g0 : TIn w0 Z (cargoX (-1)) p1 := by rw [hZ]; exact TIn.mono hq1 (fun w h => h.tail.tail.tail.drop.drop.front)
  have hP2 : Ats w0 Z gF 0 ((cargoX (3)).cells p2) := by rw [hZ]; exact zAl (i := 1) (vs := (cargoX (3)).cells p2) rfl rfl
  have gN : TIn w0 Z (cargoX (3)) p2 := by rw [hZ]; exact TIn.mono hq2 (fun w h => h.tail.tail.tail.drop.front)
  have hP3 : Ats w0 Z gH 0 ((cargoX (4)).cells p3) := by rw [hZ]; exact zAl (i := 0) (vs := (cargoX (4)).cells p3) rfl rfl
  have gj : TIn w0 Z (cargoX (4)) p3 := by rw [hZ]; exact TIn.mono hq3 (fun w h => h.tail.tail.tail.front)
  refine zAc (w_p (zA9 (vs := [_,_,_,_,_]) isAgg42 sizeOf42 hsZ rfl rfl hP1) rfl (zAr zAb call11 rfl rfl rfl rfl ((c11 (cargoX (-1)) p1 g0 0 hsZ).mono (fun v w' h => by rw [ex_turns0] at h; exact h)) ?_))
  rintro _ jc ⟨rfl, gO⟩
  refine w_p (zAi (v := .tuple _) rfl rfl) rfl (w_p (zAh (v := .agg _) rfl rfl rfl) rfl (w_p (zAh (v := .int _ _) rfl rfl rfl) rfl (w_p (zAh (v := .int _ _) rfl rfl rfl) rfl (zA0 (cs := [_,_]) zAb zeroValue23 rfl gO (fun jd je gP => ?_)))))
  refine zAs (i := 0) (v := .agg #[.int _ _, .int _ _]) (vs := [_,_]) zAb sizeOf23 rfl rfl rfl rfl rfl (by simp [Value.oneCell']) gP rfl (zNl rfl) (fun jf gb => ?_)
  refine zBs rfl rfl (zBs rfl rfl (zAe (zAd (gM _ _ (zAg (fun jg gQ => ?_))))))
  have hx4 := ats_ofL (i := 0) (vs := [_,_]) gb rfl rfl
  refine zAc (w_p (zA9 (vs := [_,_,_,_,_]) isAgg42 sizeOf42 gb.tail rfl rfl hP1) rfl (zAr zAb call11 rfl rfl rfl rfl ((c11 (cargoX (-1)) p1 g0.cons 1 gb).mono (fun v w' h => by rw [ex_turns1] at h; exact h)) ?_))
  rintro _ jh ⟨rfl, gR⟩
  refine w_p (zAi (v := .tuple _) rfl rfl) rfl (w_p (zAh (v := .agg _) rfl rfl rfl) rfl (w_p (zAh (v := .int _ _) rfl rfl rfl) rfl (w_p (zAh (v := .int _ _) rfl rfl rfl) rfl (zA0 (cs := [_,_]) zAb zeroValue23 rfl gR (fun ji jj gS => ?_)))))
  refine zAs (i := 0) (v := .agg #[.int _ _, .int _ _]) (vs := [_,_]) zAb sizeOf23 rfl rfl rfl rfl rfl (by simp [Value.oneCell']) gS rfl (zNl rfl) (fun jk gc => ?_)
  refine zBs rfl rfl (zBs rfl rfl (zAe (zAd (gQ _ _ (zAg (fun jl gT => ?_))))))
  have hx7 := ats_ofL (i := 0) (vs := [_,_]) gc rfl rfl
  refine zAc (w_p (zA9 (vs := [_,_,_,_,_]) isAgg42 sizeOf42 gc.tail.tail rfl rfl hP1) rfl (zAr zAb call11 rfl rfl rfl rfl ((c11 (cargoX (-1)) p1 g0.cons.cons 2 gc).mono (fun v w' h => by rw [ex_turns2] at h; exact h)) ?_))
  rintro _ jm ⟨rfl, gU⟩
  refine w_p (zAi (v := .tuple _) rfl rfl) rfl (w_p (zAh (v := .agg _) rfl rfl rfl) rfl (w_p (zAh (v := .int _ _) rfl rfl rfl) rfl (w_p (zAh (v := .int _ _) rfl rfl rfl) rfl (zA0 (cs := [_,_]) zAb zeroValue23 rfl gU (fun jn jo gV => ?_)))))
  refine zAs (i := 0) (v := .agg #[.int _ _, .int _ _]) (vs := [_,_]) zAb sizeOf23 rfl rfl rfl rfl rfl (by simp [Value.oneCell']) gV rfl (zNl rfl) (fun jp gk => ?_)
  refine zBs rfl rfl (zBs rfl rfl (zAe (zAd (gT _ _ (zAg (fun jq gW => (zAc (w_p (zA9 (vs := [_,_,_,_,_]) isAgg42 sizeOf42 gk.tail.tail.tail rfl rfl hP2) rfl (zAr zAb call11 rfl rfl rfl rfl ((c11 (cargoX (3)) p2 gN.cons.cons.cons 1 gk).mono (fun v w' h => by rw [ex_turnsD] at h; exact h)) ?_)))))))))
  rintro _ jr ⟨rfl, gX⟩
  refine w_p (zAi (v := .tuple _) rfl rfl) rfl (w_p (zAh (v := .agg _) rfl rfl rfl) rfl (w_p (zAh (v := .int _ _) rfl rfl rfl) rfl (w_p (zAh (v := .int _ _) rfl rfl rfl) rfl (zA0 (cs := [_,_]) zAb zeroValue23 rfl gX (fun js jt gY => ?_)))))
  refine zAs (i := 0) (v := .agg #[.int _ _, .int _ _]) (vs := [_,_]) zAb sizeOf23 rfl rfl rfl rfl rfl (by simp [Value.oneCell']) gY rfl (zNl rfl) (fun ju gd => ?_)
  refine zBs rfl rfl (zBs rfl rfl (zAe (zAd (gW _ _ (zAg (fun jv gZ => ?_))))))
  have hx13 := ats_ofL (i := 0) (vs := [_,_]) gd rfl rfl
  refine zAc (w_p (zA9 (vs := [_,_,_,_,_]) isAgg42 sizeOf42 gd.tail.tail.tail.tail rfl rfl hP1) rfl (zAr zAb call8 rfl rfl rfl rfl ((c8 (cargoX (-1)) p1 g0.cons.cons.cons.cons 3 gd).mono (fun v w' h => by rw [ex_safe] at h; exact h)) ?_))
  rintro _ jw ⟨B1, a1, c1, rfl, hr1, g4⟩
  replace g4 := (show St _ _ (B1 ++ (_ :: _ :: _ :: _ :: Z)) from g4)
  refine w_p (zAi (v := .tuple _) rfl rfl) rfl (w_p (zAh (v := .slice _ _ _) rfl rfl rfl) rfl (w_p (zAh (v := .int _ _) rfl rfl rfl) rfl (w_p (zAo (v := .slice _ _ _) rfl rfl) rfl (zBs rfl rfl (zAe (zAd (gZ _ _ (zAg (fun jx hD => (zAc (w_p (zA9 (vs := [_,_,_,_,_]) isAgg42 sizeOf42 g4.drop.tail.tail.tail.tail rfl rfl hP1) rfl ?_)))))))))))
  refine zAr zAb call26 rfl rfl rfl rfl ((c26 (cargoX (-1)) p1 g0.cons.cons.cons.cons.app 0 g4).mono (fun v w' h => by rw [ex_first] at h; exact h)) ?_
  rintro _ jy ⟨B2, a2, c2, rfl, hr2, g5⟩
  replace g5 := (show St _ _ (B2 ++ (B1 ++ (_ :: _ :: _ :: _ :: Z))) from g5)
  refine w_p (zAi (v := .tuple _) rfl rfl) rfl (w_p (zAh (v := .slice _ _ _) rfl rfl rfl) rfl (w_p (zAh (v := .int _ _) rfl rfl rfl) rfl (w_p (zAo (v := .slice _ _ _) rfl rfl) rfl (zBs rfl rfl (zAe (zAd (hD _ _ (zAg (fun jz hG => (zAc (w_p (zA9 (vs := [_,_,_,_,_]) isAgg42 sizeOf42 g5.drop.drop.tail.tail.tail.tail rfl rfl hP1) rfl ?_)))))))))))
  refine zAr zAb call27 rfl rfl rfl rfl ((c27 (cargoX (-1)) p1 g0.cons.cons.cons.cons.app.app 0 1 g5).mono (fun v w' h => by rw [ex_spoils] at h; exact h)) ?_
  rintro _ jA ⟨rfl, hH⟩
  refine w_p (zAi (v := .tuple _) rfl rfl) rfl (w_p (zAh (v := .int _ _) rfl rfl rfl) rfl (w_p (zAh (v := .int _ _) rfl rfl rfl) rfl (zBs rfl rfl (zBs rfl rfl (zAe (zAd (hG _ _ (zAg (fun jB hN => (zCe [] [(0,1),(1,2),(2,2),(3,0),(4,0),(5,0),(6,0),(7,0)] zB0 (zB5 (by kernel_rfl)) hH (fun jC gl => ?_)))))))))))
  refine zBb rfl zAb rfl gl (fun _ hq => (zA9 (vs := [_,_,_,_,_]) isAgg42 sizeOf42 hq.drop.drop.tail.tail.tail.tail rfl rfl hP1)) ?_
  refine zBl rfl ?_
  refine zAr zAb call29 rfl rfl rfl rfl (c29 _ _ gl) ?_
  rintro _ jD ⟨rfl, gm⟩
  refine zAe (qn ⟨gm, ?_⟩)
  refine zBl rfl ?_
  refine zAr zAb call28 rfl rfl rfl rfl ((c28 (cargoX (-1)) p1 g0.cons.cons.cons.cons.app.app (8,8) 1 5 gm).mono (fun v w' h => by rw [ex_put] at h; exact h)) ?_
  rintro _ jE ⟨B3, a3, c3, rfl, hr3, g3⟩
  replace g3 := (show St _ _ (B3 ++ (B2 ++ (B1 ++ (_ :: _ :: _ :: _ :: Z)))) from g3)
  refine zAe (qn ⟨g3.drop, ?_⟩)
  refine d_w rfl (fun _ => zAi (v := .tuple _) rfl rfl) rfl ?_
  refine d_w rfl (fun _ => zAh (v := .slice _ _ _) rfl rfl rfl) rfl ?_
  refine d_w rfl (fun _ => zAh (v := .int _ _) rfl rfl rfl) rfl ?_
  refine d_w rfl (fun _ => zAo (v := .slice _ _ _) rfl rfl) rfl ?_
  refine d_w rfl (fun _ => zA2 rfl rfl) rfl ?_
  refine zBh ?_
  refine zAd (hN _ _ (zAg (fun jF hO => (zAc (w_p (zA9 (vs := [_,_,_,_,_]) isAgg42 sizeOf42 g3.drop.drop.drop.tail.tail.tail.tail rfl rfl hP1) rfl (zAr zAb call30 rfl rfl rfl rfl ((c30 (cargoX (-1)) p1 g0.cons.cons.cons.cons.app.app.app 0 4 g3).mono (fun v w' h => by rw [ex_out] at h; exact h)) ?_))))))
  rintro _ jG ⟨B4, a4, c4, rfl, hr4, g6⟩
  replace g6 := (show St _ _ (B4 ++ (B3 ++ (B2 ++ (B1 ++ (_ :: _ :: _ :: _ :: Z))))) from g6)
  refine w_p (zAi (v := .tuple _) rfl rfl) rfl (w_p (zAh (v := .slice _ _ _) rfl rfl rfl) rfl (w_p (zAh (v := .int _ _) rfl rfl rfl) rfl (w_p (zAo (v := .slice _ _ _) rfl rfl) rfl (zBs rfl rfl (zAe (zAd (hO _ _ (zAg (fun jH hP => (zAc (w_p (zA9 (vs := [_,_,_,_,_]) isAgg42 sizeOf42 g6.drop.drop.drop.drop.tail.tail.tail.tail rfl rfl hP3) rfl ?_)))))))))))
  refine zAr zAb call31 rfl rfl rfl rfl ((c31 (cargoX (4)) p3 gj.cons.cons.cons.cons.app.app.app.app g6).mono (fun v w' h => by rw [ex_wrong] at h; exact h)) ?_
  rintro _ jI ⟨B5, a5, c5, rfl, hr5, g7⟩
  replace g7 := (show St _ _ (B5 ++ (B4 ++ (B3 ++ (B2 ++ (B1 ++ (_ :: _ :: _ :: _ :: Z)))))) from g7)
  refine w_p (zAi (v := .tuple _) rfl rfl) rfl (w_p (zAh (v := .slice _ _ _) rfl rfl rfl) rfl (w_p (zAh (v := .int _ _) rfl rfl rfl) rfl (w_p (zAo (v := .slice _ _ _) rfl rfl) rfl (zBs rfl rfl (zAe (zAd (hP _ _ (zAg (fun jJ hX => (zAc (w_p (zA9 (vs := [_,_,_,_,_]) isAgg42 sizeOf42 g7.drop.drop.drop.drop.drop.tail.tail.tail.tail rfl rfl hP3) rfl ?_)))))))))))
  refine zAr zAb call11 rfl rfl rfl rfl ((c11 (cargoX (4)) p3 gj.cons.cons.cons.cons.app.app.app.app.app 0 g7).mono (fun v w' h => by rw [ex_none] at h; exact h)) ?_
  rintro _ jK ⟨rfl, hY⟩
  refine w_p (zAi (v := .tuple _) rfl rfl) rfl (w_p (zAh (v := .agg _) rfl rfl rfl) rfl (w_p (zAh (v := .int _ _) rfl rfl rfl) rfl (w_p (zAh (v := .int _ _) rfl rfl rfl) rfl (zA0 (cs := [_,_]) zAb zeroValue23 rfl hY (fun jL jM j0 => ?_)))))
  refine zAs (i := 0) (v := .agg #[.int _ _, .int _ _]) (vs := [_,_]) zAb sizeOf23 rfl rfl rfl rfl rfl (by simp [Value.oneCell']) j0 rfl (zNl rfl) (fun jN gn => ?_)
  refine zBs rfl rfl (zBs rfl rfl (zAe (zAd (hX _ _ (zAg (fun jO j1 => (zAc (w_p (zA9 (vs := [_,_,_,_,_]) isAgg42 sizeOf42 gn.tail.drop.drop.drop.drop.drop.tail.tail.tail.tail rfl rfl hP1) rfl (zAr zAb call27 rfl rfl rfl rfl ((c27 (cargoX (-1)) p1 g0.cons.cons.cons.cons.app.app.app.app.app.cons 1 1 gn).mono (fun v w' h => by rw [ex_arg] at h; exact h)) ?_)))))))))
  rintro _ jP ⟨rfl, j2⟩
  refine w_p (zAi (v := .tuple _) rfl rfl) rfl (w_p (zAh (v := .int _ _) rfl rfl rfl) rfl (w_p (zAh (v := .int _ _) rfl rfl rfl) rfl (zBs rfl rfl (zBs rfl rfl (zAe (zAd (j1 _ _ (zAg (fun jQ j3 => (zCe [] [(0,0),(1,0),(2,0),(3,0),(4,0),(5,0),(6,0),(7,0),(8,0),(9,0),(10,0),(11,0),(12,0),(13,0),(14,0),(15,0),(16,0),(17,0),(18,0),(19,0),(20,0),(21,0),(22,0),(23,0),(24,0),(25,0),(26,0),(27,0),(28,0),(29,0),(30,0),(31,0),(32,0),(33,0),(34,0),(35,0),(36,0),(37,0),(38,0),(39,0),(40,0),(41,0),(42,0),(43,0),(44,0),(45,0),(46,0),(47,1),(48,2),(49,0),(50,0),(51,0),(52,0),(53,0),(54,0),(55,0),(56,1),(57,2),(58,0),(59,0),(60,0),(61,0),(62,0),(63,0),(64,0),(65,1),(66,2),(67,0),(68,0),(69,0),(70,0),(71,0),(72,0),(73,0),(74,0),(75,2),(76,2),(77,0),(78,0),(79,0),(80,2),(81,2),(82,0),(83,0),(84,0),(85,0),(86,0),(87,0),(88,0),(89,2),(90,2),(91,0),(92,0),(93,0),(94,2),(95,2),(96,0),(97,0),(98,0),(99,2),(100,2),(101,0),(102,0)] zB0 (zB5 (by kernel_rfl)) j2 (fun jR go => ?_)))))))))))
  refine d_w rfl (fun _ => zA6 rfl rfl) rfl ?_
  refine d_w rfl (fun _ => zB3 rfl rfl rfl rfl) rfl ?_
  refine d_w rfl (fun _ => zAi (v := .bool _) rfl rfl) rfl ?_
  refine zBv rfl (zAp rfl rfl rfl) rfl (fun _ => (zA6 rfl rfl)) ?_
  refine zBv rfl (zAp rfl rfl rfl) rfl (fun _ => (zB3 rfl rfl rfl rfl)) ?_
  refine d_w rfl (fun _ => zAv (v := .bool _) rfl rfl rfl rfl) rfl ?_
  refine d_w rfl (fun _ => zAi (v := .bool _) rfl rfl) rfl ?_
  refine zBv rfl (zAp rfl rfl rfl) rfl (fun _ => (zA6 rfl rfl)) ?_
  refine zBv rfl (zAp rfl rfl rfl) rfl (fun _ => (zB3 rfl rfl rfl rfl)) ?_
  refine d_w rfl (fun _ => zAv (v := .bool _) rfl rfl rfl rfl) rfl ?_
  refine d_w rfl (fun _ => zAi (v := .bool _) rfl rfl) rfl ?_
  refine zBv rfl (zAp rfl rfl rfl) rfl (fun _ => (zA6 rfl rfl)) ?_
  refine zBv rfl (zAp rfl rfl rfl) rfl (fun _ => (zB3 rfl rfl rfl rfl)) ?_
  refine d_w rfl (fun _ => zAv (v := .bool _) rfl rfl rfl rfl) rfl ?_
  refine d_w rfl (fun _ => zAi (v := .bool _) rfl rfl) rfl ?_
  refine zBv rfl (zAp rfl rfl rfl) rfl (fun _ => (zA6 rfl rfl)) ?_
  refine zBv rfl (zAp rfl rfl rfl) rfl (fun _ => (zB3 rfl rfl rfl rfl)) ?_
  refine d_w rfl (fun _ => zAv (v := .bool _) rfl rfl rfl rfl) rfl ?_
  refine d_w rfl (fun _ => zAi (v := .bool _) rfl rfl) rfl ?_
  refine zBv rfl (zAp rfl rfl rfl) rfl (fun _ => (zA6 rfl rfl)) ?_
  refine zBv rfl (zAp rfl rfl rfl) rfl (fun _ => (zB3 rfl rfl rfl rfl)) ?_
  refine d_w rfl (fun _ => zAv (v := .bool _) rfl rfl rfl rfl) rfl ?_
  refine d_w rfl (fun _ => zAi (v := .bool _) rfl rfl) rfl ?_
  refine zBv rfl (zAp rfl rfl rfl) rfl (fun _ => (zA6 rfl rfl)) ?_
  refine zBv rfl (zAp rfl rfl rfl) rfl (fun _ => (zB3 rfl rfl rfl rfl)) ?_
  refine d_w rfl (fun _ => zAv (v := .bool _) rfl rfl rfl rfl) rfl ?_
  refine d_w rfl (fun _ => zAi (v := .bool _) rfl rfl) rfl ?_
  refine zBv rfl (zAp rfl rfl rfl) rfl (fun _ => (zA6 rfl rfl)) ?_
  refine zBv rfl (zAp rfl rfl rfl) rfl (fun _ => (zB3 rfl rfl rfl rfl)) ?_
  refine d_w rfl (fun _ => zAv (v := .bool _) rfl rfl rfl rfl) rfl ?_
  refine d_w rfl (fun _ => zAi (v := .bool _) rfl rfl) rfl ?_
  refine zBv rfl (zAp rfl rfl rfl) rfl (fun _ => (zA6 rfl rfl)) ?_
  refine zBv rfl (zAp rfl rfl rfl) rfl (fun _ => (zB3 rfl rfl rfl rfl)) ?_
  refine d_w rfl (fun _ => zAv (v := .bool _) rfl rfl rfl rfl) rfl ?_
  refine d_w rfl (fun _ => zAi (v := .bool _) rfl rfl) rfl ?_
  refine zBv rfl (zAp rfl rfl rfl) rfl (fun _ => (zA6 rfl rfl)) ?_
  refine zBv rfl (zAp rfl rfl rfl) rfl (fun _ => (zB3 rfl rfl rfl rfl)) ?_
  refine d_w rfl (fun _ => zAv (v := .bool _) rfl rfl rfl rfl) rfl ?_
  refine d_w rfl (fun _ => zAi (v := .bool _) rfl rfl) rfl ?_
  refine zBv rfl (zAp rfl rfl rfl) rfl (fun _ => (zA6 rfl rfl)) ?_
  refine zBv rfl (zAp rfl rfl rfl) rfl (fun _ => (zB3 rfl rfl rfl rfl)) ?_
  refine d_w rfl (fun _ => zAv (v := .bool _) rfl rfl rfl rfl) rfl ?_
  refine d_w rfl (fun _ => zAi (v := .bool _) rfl rfl) rfl ?_
  refine zBv rfl (zAp rfl rfl rfl) rfl (fun _ => (zA6 rfl rfl)) ?_
  refine zBv rfl (zAp rfl rfl rfl) rfl (fun _ => (zB3 rfl rfl rfl rfl)) ?_
  refine d_w rfl (fun _ => zAv (v := .bool _) rfl rfl rfl rfl) rfl ?_
  refine d_w rfl (fun _ => zAi (v := .bool _) rfl rfl) rfl ?_
  refine zBb rfl (zAp rfl rfl rfl) rfl go (fun _ hq => (zA9 (vs := [_,_]) isAgg23 sizeOf23 hq.tail.drop.drop.drop.drop.drop.tail.tail.tail rfl rfl hx4)) ?_
  refine zBl rfl ?_
  refine zAr (zAp rfl rfl rfl) call29 rfl rfl rfl rfl (c29 _ _ go) ?_
  rintro _ jS ⟨rfl, ge⟩
  refine zAe (qn ⟨ge, ?_⟩)
  refine zBv rfl (zAp rfl rfl rfl) rfl (fun _ => (zFe (l := [_,_]) (m := [_,_]) eqGuardType23 zD2 (by first | omega | rfl | (simp only [zL] <;> omega)) (by first | omega | rfl | (simp only [zL] <;> omega)) rfl rfl rfl rfl rfl rfl)) ?_
  refine d_w rfl (fun _ => zAv (v := .bool _) rfl rfl rfl rfl) rfl ?_
  refine d_w rfl (fun _ => zAi (v := .bool _) rfl rfl) rfl ?_
  refine zDx (fun gf => ?_) (fun gf => ?_)
  ·
   try simp only [zS] at gf
   refine zBv rfl (zAp rfl rfl rfl) rfl (fun _ => (zA6 rfl rfl)) ?_
   refine zBv rfl (zAp rfl rfl rfl) rfl (fun _ => (zB3 rfl rfl rfl rfl)) ?_
   refine d_w rfl (fun _ => zAv (v := .bool _) rfl rfl rfl rfl) rfl ?_
   refine d_w rfl (fun _ => zAi (v := .bool _) rfl rfl) rfl ?_
   refine zBb rfl (zAp rfl rfl rfl) rfl ge (fun _ hq => (zA9 (vs := [_,_]) isAgg23 sizeOf23 hq.tail.drop.drop.drop.drop.drop.tail.tail rfl rfl hx7)) ?_
   refine zBl rfl ?_
   refine zAr (zAp rfl rfl rfl) call29 rfl rfl rfl rfl (c29 _ _ ge) ?_
   rintro _ jT ⟨rfl, gg⟩
   refine zAe (qn ⟨gg, ?_⟩)
   refine zBv rfl (zAp rfl rfl rfl) rfl (fun _ => (zFe (l := [_,_]) (m := [_,_]) eqGuardType23 zD2 (by first | omega | rfl | (simp only [zL] <;> omega)) (by first | omega | rfl | (simp only [zL] <;> omega)) rfl rfl rfl rfl rfl rfl)) ?_
   refine d_w rfl (fun _ => zAv (v := .bool _) rfl rfl rfl rfl) rfl ?_
   refine d_w rfl (fun _ => zAi (v := .bool _) rfl rfl) rfl ?_
   refine zDx (fun gh => ?_) (fun gh => ?_)
   ·
    try simp only [zS] at gh
    refine zBv rfl (zAp rfl rfl rfl) rfl (fun _ => (zA6 rfl rfl)) ?_
    refine zBv rfl (zAp rfl rfl rfl) rfl (fun _ => (zB3 rfl rfl rfl rfl)) ?_
    refine d_w rfl (fun _ => zAv (v := .bool _) rfl rfl rfl rfl) rfl ?_
    refine d_w rfl (fun _ => zAi (v := .bool _) rfl rfl) rfl ?_
    refine zBb rfl (zAp rfl rfl rfl) rfl gg (fun _ hq => (zA9 (vs := [_,_]) isAgg23 sizeOf23 hq.tail.drop.drop.drop.drop.drop rfl rfl hx13)) ?_
    refine zBl rfl ?_
    refine zAr (zAp rfl rfl rfl) call29 rfl rfl rfl rfl (c29 _ _ gg) ?_
    rintro _ jU ⟨rfl, gp⟩
    refine zAe (qn ⟨gp, ?_⟩)
    refine zBv rfl (zAp rfl rfl rfl) rfl (fun _ => (zFe (l := [_,_]) (m := [_,_]) eqGuardType23 zD2 (by first | omega | rfl | (simp only [zL] <;> omega)) (by first | omega | rfl | (simp only [zL] <;> omega)) rfl rfl rfl rfl rfl rfl)) ?_
    refine d_w rfl (fun _ => zAv (v := .bool _) rfl rfl rfl rfl) rfl ?_
    refine d_w rfl (fun _ => zAi (v := .bool _) rfl rfl) rfl ?_
    refine zDx (fun gi => ?_) (fun gi => ?_)
    ·
     try simp only [zS] at gi
     refine zBv rfl (zAp rfl rfl rfl) rfl (fun _ => (zA6 rfl rfl)) ?_
     refine zBv rfl (zAp rfl rfl rfl) rfl (fun _ => (zB3 rfl rfl rfl rfl)) ?_
     refine d_w rfl (fun _ => zAv (v := .bool _) rfl rfl rfl rfl) rfl ?_
     refine d_w rfl (fun _ => zAi (v := .bool _) rfl rfl) rfl ?_
     refine zBv rfl (zAp rfl rfl rfl) rfl (fun _ => (zAi (v := .slice _ _ _) rfl rfl)) ?_
     refine zBl rfl ?_
     refine zA3 (ps := [(0, _),(1, _)]) (pv := [(0, .int _ _),(1, .int _ _)]) (cs := [_,_]) (zAp rfl rfl rfl) rfl rfl (fun w => Try_UO_fb13 _ _ w) gp (fun jV jW gq => ?_)
     refine zAe (qn ⟨gq.tail, ?_⟩)
     refine zBl rfl ?_
     refine zAr (zAp rfl rfl rfl) call10 rfl rfl rfl rfl (zEl (c10 _ _ [1,2] [1,2] _ _ (by decide) hr1.top.app.app.app.app.cons.cons (zBd (i := 0) (rows := [[_], [_]]) rfl (by simp) rfl) gq) (by decide)) ?_
     rintro _ jX ⟨rfl, gr⟩
     refine zAe (qn ⟨gr.tail, ?_⟩)
     refine d_w rfl (fun _ => zAv (v := .bool _) rfl rfl rfl rfl) rfl ?_
     refine d_w rfl (fun _ => zAi (v := .bool _) rfl rfl) rfl ?_
     refine zBv rfl (zAp rfl rfl rfl) rfl (fun _ => (zAi (v := .slice _ _ _) rfl rfl)) ?_
     refine zBl rfl ?_
     refine zA3 (ps := [(0, _)]) (pv := [(0, .int _ _)]) (cs := [_]) (zAp rfl rfl rfl) rfl rfl (fun w => zFn _ w) gr (fun jY jZ gt => ?_)
     refine zAe (qn ⟨gt.tail.tail, ?_⟩)
     refine zBl rfl ?_
     refine zAr (zAp rfl rfl rfl) call10 rfl rfl rfl rfl (zEl (c10 _ _ [0] [0] _ _ (by decide) hr2.top.app.app.app.cons.cons.cons (zBd (i := 0) (rows := [[_]]) rfl (by simp) rfl) gt) (by decide)) ?_
     rintro _ k4 ⟨rfl, gu⟩
     refine zAe (qn ⟨gu.tail.tail, ?_⟩)
     refine d_w rfl (fun _ => zAv (v := .bool _) rfl rfl rfl rfl) rfl ?_
     refine d_w rfl (fun _ => zAi (v := .bool _) rfl rfl) rfl ?_
     refine zBv rfl (zAp rfl rfl rfl) rfl (fun _ => (zA6 rfl rfl)) ?_
     refine zBv rfl (zAp rfl rfl rfl) rfl (fun _ => (zB3 rfl rfl rfl rfl)) ?_
     refine d_w rfl (fun _ => zAv (v := .bool _) rfl rfl rfl rfl) rfl ?_
     refine d_w rfl (fun _ => zAi (v := .bool _) rfl rfl) rfl ?_
     refine zBv rfl (zAp rfl rfl rfl) rfl (fun _ => (zAi (v := .slice _ _ _) rfl rfl)) ?_
     refine zBl rfl ?_
     refine zA3 (ps := [(0, _)]) (pv := [(0, .int _ _)]) (cs := [_]) (zAp rfl rfl rfl) rfl rfl (fun w => zFn _ w) gu (fun k5 k6 gv => ?_)
     refine zAe (qn ⟨gv.tail.tail.tail, ?_⟩)
     refine zBl rfl ?_
     refine zAr (zAp rfl rfl rfl) call10 rfl rfl rfl rfl (zEl (c10 _ _ [1] [1] _ _ (by decide) hr3.top.app.app.cons.cons.cons.cons (zBd (i := 0) (rows := [[_]]) rfl (by simp) rfl) gv) (by decide)) ?_
     rintro _ k7 ⟨rfl, gw⟩
     refine zAe (qn ⟨gw.tail.tail.tail, ?_⟩)
     refine d_w rfl (fun _ => zAv (v := .bool _) rfl rfl rfl rfl) rfl ?_
     refine d_w rfl (fun _ => zAi (v := .bool _) rfl rfl) rfl ?_
     refine zBv rfl (zAp rfl rfl rfl) rfl (fun _ => (zAi (v := .slice _ _ _) rfl rfl)) ?_
     refine zBl rfl ?_
     refine zA3 (ps := [(0, _)]) (pv := [(0, .int _ _)]) (cs := [_]) (zAp rfl rfl rfl) rfl rfl (fun w => zFn _ w) gw (fun k8 k9 gx => ?_)
     refine zAe (qn ⟨gx.tail.tail.tail.tail, ?_⟩)
     refine zBl rfl ?_
     refine zAr (zAp rfl rfl rfl) call10 rfl rfl rfl rfl (zEl (c10 _ _ [0] [0] _ _ (by decide) hr4.top.app.cons.cons.cons.cons.cons (zBd (i := 0) (rows := [[_]]) rfl (by simp) rfl) gx) (by decide)) ?_
     rintro _ ka ⟨rfl, gy⟩
     refine zAe (qn ⟨gy.tail.tail.tail.tail, ?_⟩)
     refine d_w rfl (fun _ => zAv (v := .bool _) rfl rfl rfl rfl) rfl ?_
     refine d_w rfl (fun _ => zAi (v := .bool _) rfl rfl) rfl ?_
     refine zBv rfl (zAp rfl rfl rfl) rfl (fun _ => (zAi (v := .slice _ _ _) rfl rfl)) ?_
     refine zBl rfl ?_
     refine zA3 (ps := [(0, _)]) (pv := [(0, .int _ _)]) (cs := [_]) (zAp rfl rfl rfl) rfl rfl (fun w => zFn _ w) gy (fun kb kc gz => ?_)
     refine zAe (qn ⟨gz.tail.tail.tail.tail.tail, ?_⟩)
     refine zBl rfl ?_
     refine zAr (zAp rfl rfl rfl) call10 rfl rfl rfl rfl (zEl (c10 _ _ [0] [0] _ _ (by decide) hr5.top.cons.cons.cons.cons.cons.cons (zBd (i := 0) (rows := [[_]]) rfl (by simp) rfl) gz) (by decide)) ?_
     rintro _ kd ⟨rfl, gA⟩
     refine zAe (qn ⟨gA.tail.tail.tail.tail.tail, ?_⟩)
     refine d_w rfl (fun _ => zAv (v := .bool _) rfl rfl rfl rfl) rfl ?_
     refine d_w rfl (fun _ => zAo (v := .bool _) rfl rfl) rfl ?_
     refine zBh ?_
     refine zAd (j3 _ _ (zA7 (zBa (l := [.tmp 0]) (vs := [_]) rfl ⟨⟨rfl, (rfl : _ = Value.bool _)⟩, trivial⟩ ?_)))
     exact ⟨rfl, (St.cast hZ gA.tail.tail.tail.tail.tail.tail.drop.drop.drop.drop.drop.tail.tail.tail.tail).tail.tail.tail.drop.drop.drop⟩
    exfalso; simp at gi
   exfalso; simp at gh
  exfalso; simp at gf

end Go.Proofs.Ut
set_option maxRecDepth 20000
namespace Go.Proofs.Cb
open Go.Proofs.Tryz
open Go.Rt Go.Rt.Ca
attribute [local irreducible] WL WC Con Yd At Ats Sl Agree DW
theorem zGe (x0 : Int) (w : World) : (Instr.buildSlice 35 1 [(0, .int .i64 x0)].toArray).run Tryz.prog w = .ok (.slice (some ⟨w.heap.size, 0, none⟩) 1 1) (w.alloc (Go.Rt.blk 3 [.int .i64 x0])) := by kernel_rfl
theorem Try_CC_fb1 (x0 : Int) (x1 : Int) (w : World) : (Instr.buildSlice 35 2 [(0, .int .i64 x0),(1, .int .i64 x1)].toArray).run Tryz.prog w = .ok (.slice (some ⟨w.heap.size, 0, none⟩) 2 2) (w.alloc (Go.Rt.blk 3 [.int .i64 x0, .int .i64 x1])) := by kernel_rfl
theorem zGd (x0 : Int) (x1 : Go.Fn) (a1 c1 : Array Value) (w : World) : (Instr.build 137 [(0, .int .i64 x0),(1, .func x1 a1 c1)].toArray).run Tryz.prog w = .ok (.agg #[.int .i64 x0, .func x1 a1 c1]) w := by kernel_rfl
theorem Try_CC_fb3 (x0 : Int) (x1 : Go.Fn) (a1 c1 : Array Value) (x2 : Int) (x3 : Go.Fn) (a3 c3 : Array Value) (x4 : Int) (x5 : Go.Fn) (a5 c5 : Array Value) (x6 : Int) (x7 : Go.Fn) (a7 c7 : Array Value) (w : World) : (Instr.buildSlice 133 4 [(0, .agg #[.int .i64 x0, .func x1 a1 c1]),(1, .agg #[.int .i64 x2, .func x3 a3 c3]),(2, .agg #[.int .i64 x4, .func x5 a5 c5]),(3, .agg #[.int .i64 x6, .func x7 a7 c7])].toArray).run Tryz.prog w = .ok (.slice (some ⟨w.heap.size, 0, none⟩) 4 4) (w.alloc (Go.Rt.blk 137 [.int .i64 x0, .func x1 a1 c1, .int .i64 x2, .func x3 a3 c3, .int .i64 x4, .func x5 a5 c5, .int .i64 x6, .func x7 a7 c7])) := by kernel_rfl
theorem sl_farm {w0 : World} {F : List (Nat × Obj)} {a : Option Addr} {l : List Farm} {i : Nat} (h : Sl w0 F a 6 (rows l)) (hi : i < l.length) :
    ∃ b off, a = some ⟨b, off, none⟩ ∧ Ats w0 F b (off + i * 6) l[i].cells := by
  obtain ⟨b, off, ha, _, hat⟩ := h.at (i := i) (row := l[i].cells) (by simp [rows, hi])
  exact ⟨b, off, ha, hat⟩
theorem any_takeF {l : List Farm} {p : Farm → Bool} {i : Nat} (h : (l.take i).any p = false) (hi : i < l.length) (hp : p l[i] = false) : (l.take (i + 1)).any p = false := by
  rw [List.take_succ_eq_append_getElem hi, List.any_append, h]; simp [hp]
theorem c15 {w0 w : World} {F : List (Nat × Obj)} (f : Farm) (hs : St w0 w F) :
  Con Tryz.prog 15 [.agg f.cells.toArray] w fun v w' => v = .int .i64 (farmErr f) ∧ St w0 w' F := by
  refine zAu (n := 24) func15 rfl rfl (zNl rfl) ?_
  refine zAg (fun K2 ga => (zAc (zCj (v := .agg #[.string _, .int _ _, .int _ _, .int _ _, .int _ _, .int _ _]) (cs := [_,_,_,_,_,_]) zAb rfl rfl rfl hs (fun b3 w4 g9 => ?_))))
  refine zBj rfl rfl (zAe (zAd (ga _ _ (zAg (fun K7 gb => (zAg (fun K9 g3 => (zAc (w_p (zAf (o := 1) (i := 1) underlying33 rfl sizeOf3 rfl rfl rfl) rfl ?_)))))))))
  refine w_p (zAk isAgg3 g9 rfl rfl (zAl (i := 0) (vs := [_]) rfl rfl)) rfl (zAr zAb call13 rfl rfl rfl rfl (c13 _ _ _ g9) ?_)
  rintro _ gh ⟨rfl, g4⟩
  refine w_p (zDq rfl rfl) rfl (w_p (zAi (v := .bool _) rfl rfl) rfl (zBp (fun g5 => ?_) (fun g5 => ?_)))
  ·
   try simp only [zS] at g5
   refine zAj rfl rfl rfl ?_
   refine zAj rfl rfl rfl ?_
   refine zAj rfl rfl rfl ?_
   refine zAj rfl rfl rfl ?_
   refine w_p (zAv (v := _) rfl rfl rfl rfl) rfl (w_p (zAi (v := .bool _) rfl rfl) rfl (zAj rfl rfl rfl ?_))
   refine zAj rfl rfl rfl ?_
   refine zAj rfl rfl rfl ?_
   refine zAj rfl rfl rfl ?_
   refine zAj rfl rfl rfl ?_
   refine zAj rfl rfl rfl ?_
   refine w_p (zAv (v := _) rfl rfl rfl rfl) rfl (zAe (zAd (g3 _ _ (zC0 rfl rfl ?_))))
   refine zAg (fun gi gc => (zAc (zBj rfl rfl (zAe (zAd (gc _ _ (zA7 (zAm (zBa (l := [.tmp 2]) (vs := [_]) rfl ⟨⟨rfl, (rfl : _ = Value.int _ _)⟩, trivial⟩ ?_)))))))))
   exact ⟨congrArg (Value.int .i64) (by unfold farmErr out; simp only [Bool.or_eq_true, decide_eq_true_eq]; split <;> first | rfl | omega), g4.tail⟩
  try simp only [zS] at g5
  refine w_y rfl rfl rfl (zAf (o := 2) (i := 2) underlying33 rfl sizeOf3 rfl rfl rfl) rfl ?_
  refine w_y rfl rfl rfl (zAk isAgg3 g4 rfl rfl (zAl (i := 0) (vs := [_]) rfl rfl)) rfl ?_
  refine zAr (zAp rfl rfl rfl) call13 rfl rfl rfl rfl (c13 _ _ _ g4) ?_
  rintro _ gj ⟨rfl, g0⟩
  refine w_y rfl rfl rfl (zDq rfl rfl) rfl ?_
  refine w_p (zBg (v := .bool _) rfl rfl rfl rfl) rfl (w_p (zAi (v := .bool _) rfl rfl) rfl (zBp (fun g6 => ?_) (fun g6 => ?_)))
  ·
   try simp only [zS] at g6
   refine zAj rfl rfl rfl ?_
   refine zAj rfl rfl rfl ?_
   refine zAj rfl rfl rfl ?_
   refine zAj rfl rfl rfl ?_
   refine zAj rfl rfl rfl ?_
   refine zAj rfl rfl rfl ?_
   refine w_p (zAv (v := _) rfl rfl rfl rfl) rfl (zAe (zAd (g3 _ _ (zC0 rfl rfl ?_))))
   refine zAg (fun gk gd => (zAc (zBj rfl rfl (zAe (zAd (gd _ _ (zA7 (zAm (zBa (l := [.tmp 2]) (vs := [_]) rfl ⟨⟨rfl, (rfl : _ = Value.int _ _)⟩, trivial⟩ ?_)))))))))
   exact ⟨congrArg (Value.int .i64) (by unfold farmErr out; simp only [Bool.or_eq_true, decide_eq_true_eq]; split <;> first | rfl | omega), g0.tail⟩
  try simp only [zS] at g6
  refine w_y rfl rfl rfl (zAf (o := 3) (i := 3) underlying33 rfl sizeOf3 rfl rfl rfl) rfl ?_
  refine w_y rfl rfl rfl (zAk isAgg3 g0 rfl rfl (zAl (i := 0) (vs := [_]) rfl rfl)) rfl ?_
  refine w_y rfl rfl rfl (zAf (o := 1) (i := 1) underlying33 rfl sizeOf3 rfl rfl rfl) rfl ?_
  refine w_y rfl rfl rfl (zAk isAgg3 g0 rfl rfl (zAl (i := 0) (vs := [_]) rfl rfl)) rfl ?_
  refine zAr (zAp rfl rfl rfl) call13 rfl rfl rfl rfl (c13 _ _ _ g0) ?_
  rintro _ gl ⟨rfl, g7⟩
  refine w_y rfl rfl rfl (zDq rfl rfl) rfl ?_
  refine w_p (zBg (v := .bool _) rfl rfl rfl rfl) rfl (zAe (zAd (g3 _ _ (zA1 rfl rfl (fun g8 => ?_) (fun g8 => ?_)))))
  ·
   try simp only [zS] at g8
   refine zAg (fun gm ge => (zAc (zBj rfl rfl (zAe (zAd (ge _ _ (zA7 (zAm (zBa (l := [.tmp 2]) (vs := [_]) rfl ⟨⟨rfl, (rfl : _ = Value.int _ _)⟩, trivial⟩ ?_)))))))))
   exact ⟨congrArg (Value.int .i64) (by unfold farmErr out; simp only [Bool.or_eq_true, decide_eq_true_eq]; split <;> first | rfl | omega), g7.tail⟩
  try simp only [zS] at g8
  refine zAx (zAd (gb _ _ (zAg (fun gn gf => (zAc (w_p (zAf (o := 4) (i := 4) underlying33 rfl sizeOf23 rfl rfl rfl) rfl (w_p (zA9 (vs := [_,_]) isAgg23 sizeOf23 g7 rfl rfl (zAl (i := 0) (vs := [_,_]) rfl rfl)) rfl ?_)))))))
  refine zAr zAb call12 rfl rfl rfl rfl (c12 _ _ _ _ g7) ?_
  rintro _ go ⟨rfl, gg⟩
  refine zBs rfl rfl (zAe (zAd (gf _ _ (zA7 (zBa (l := [.tmp 2]) (vs := [_]) rfl ⟨⟨rfl, (rfl : _ = Value.int _ _)⟩, trivial⟩ ?_)))))
  exact ⟨congrArg (Value.int .i64) (by unfold farmErr out; simp only [Bool.or_eq_true, decide_eq_true_eq]; split <;> first | rfl | omega), gg.tail⟩

theorem c98 {w0 w : World} {F : List (Nat × Obj)} (f : Farm) (b1 b2 : Nat) (a : Option Addr) (c : Nat) (l : List Farm) (i : Nat) (hi : i < l.length) (h1 : Ats w0 F b1 0 [.slice a l.length c]) (h2 : Ats w0 F b2 0 [.int .i64 (i : Int)]) (ha : Sl w0 F a 6 (rows l)) (hs : St w0 w F) :
  Con Tryz.prog 98 [.agg f.cells.toArray, .pointer (some ⟨b1,0, none⟩), .pointer (some ⟨b2,0, none⟩)] w fun v w' => v = .bool (decide (f.name = l[i].name)) ∧ St w0 w' F := by
  refine zAu (n := 13) func98 rfl rfl (zNl rfl) ?_
  obtain ⟨bx, ox, rfl, hx⟩ := sl_farm ha hi
  refine zAg (fun K2 g3 => (zAc (zCj (v := .agg #[.string _, .int _ _, .int _ _, .int _ _, .int _ _, .int _ _]) (cs := [_,_,_,_,_,_]) zAb rfl rfl rfl hs (fun b3 w4 g4 => ?_))))
  refine zBj rfl rfl (zAe (zAd (g3 _ _ (zAg (fun K7 g5 => (zCe [] [(0,0),(1,1),(2,1),(3,1),(4,0),(5,0),(6,1),(7,0),(8,0)] zB0 (by kernel_rfl) g4 (fun w8 g0 => ?_)))))))
  refine d_w rfl (fun _ => zAf (o := 0) (i := 0) underlying33 rfl sizeOf9 rfl rfl rfl) rfl ?_
  refine zBb rfl zAb rfl g0 (fun _ hq => (zAk isAgg9 hq rfl rfl (zAl (i := 0) (vs := [_]) rfl rfl))) ?_
  refine zBb rfl zAb rfl g0 (fun _ hq => (zAk isAgg24 hq.tail rfl rfl h1)) ?_
  refine zBb rfl zAb rfl g0 (fun _ hq => (zAk isAgg3 hq.tail rfl rfl h2)) ?_
  refine d_w rfl (fun _ => zBk underlying24 sizeOf33 rfl rfl rfl rfl (i := _) rfl (by omega)) rfl ?_
  refine d_w rfl (fun _ => zAf (o := 0) (i := 0) underlying33 rfl sizeOf9 rfl rfl rfl) rfl ?_
  refine zBb rfl zAb rfl g0 (fun _ hq => (zAk isAgg9 hq.tail rfl rfl (show Ats _ _ _ _ [_] from Ats.part hx 0 1))) ?_
  refine d_w rfl (fun _ => y_strEq rfl rfl rfl rfl) rfl ?_
  refine d_w rfl (fun _ => zAo (v := .bool _) rfl rfl) rfl ?_
  refine zBh ?_
  refine zAd (g5 _ _ (zA7 (zBa (l := [.tmp 4]) (vs := [_]) rfl ⟨⟨rfl, (rfl : _ = Value.bool _)⟩, trivial⟩ ?_)))
  exact ⟨rfl, g0.tail⟩

theorem c104 {w0 w : World} {F : List (Nat × Obj)} (a : Option Addr) (l : List Farm) (c : Nat) (hla : l.length ≤ 9223372036854775807) (ha : Sl w0 F a 6 (rows l)) {fk : FuncId} (hC : CF Tryz.prog fk) (first captured : Array Value) (p : Farm → Bool)
    (hp : ∀ x ∈ l, ∀ w, St w0 w F → Con Tryz.prog fk (first.toList ++ ([.agg x.cells.toArray] ++ captured.toList)) w fun v w' => v = .bool (p x) ∧ St w0 w' F) (hs : St w0 w F) :
  Con Tryz.prog 104 [.slice a l.length c, .func (.func fk) first captured] w fun v w' => (∃ z, v = .int .i64 z ∧ decide (0 ≤ z) = l.any p) ∧ St w0 w' F := by
  refine zAu (n := 19) func104 rfl rfl (zNl rfl) ?_
  refine zAg (fun K2 g5 => (zAc (zBj rfl rfl (zAe (zAd (g5 _ _ (zAg (fun K4 g6 => (zAg (fun K6 g7 => (zAc (w_p (zAi (v := .slice _ _ _) rfl rfl) rfl ?_))))))))))))
  refine w_p (zBo underlying24 rfl rfl) rfl (w_p (zAi (v := _) rfl rfl) rfl (zAe (zAd (g7 _ _ (zA8 ?_)))))
  refine zCd [4,5,8,9,10,11,12,13,14,15,16,17,18] [8] (fun k vs w => ∃ i : Nat, vs = [.int .i64 i] ∧ i ≤ l.length ∧ k = l.length - i ∧ (l.take i).any p = false ∧ St w0 w F) (l.length) ?_ ?_
  ·
   exact ⟨0, rfl, by omega, by omega, by simp, hs⟩
  intro k vs μ w9 hI K8 g8
  obtain ⟨i, rfl, hia, rfl, hpre, hs⟩ := hI
  refine zAg (fun gg g9 => (zAc (w_p (zCl rfl rfl rfl rfl) rfl (zAe (zAd (g9 _ _ (zAg (fun gh ga => (zA1 rfl rfl (fun g0 => ?_) (fun g0 => ?_))))))))))
  ·
   try simp only [zS] at g0
   refine zAx (zAd (ga _ _ (zAg (fun gi gb => (zA8 ?_)))))
   refine zAg (fun gj gc => (zAc (zBe rfl rfl (zBs rfl rfl (zAe (zAd (gc _ _ (zAg (fun gk gd => ?_)))))))))
   have hi2 : i < l.length := by omega
   obtain ⟨bx, ox, rfl, hx⟩ := sl_farm ha hi2
   refine zAc (w_p (zAi (v := .func _ _ _) rfl rfl) rfl (w_p (zAi (v := .slice _ _ _) rfl rfl) rfl (zBe rfl rfl (w_p (zBk underlying24 sizeOf33 rfl rfl rfl rfl (i := _) rfl (by omega)) rfl (w_p (zA9 (vs := [_,_,_,_,_,_]) isAgg33 sizeOf33 hs rfl rfl hx) rfl ?_)))))
   refine zAr zAb hC rfl rfl rfl rfl (hp _ (List.getElem_mem hi2) _ hs) ?_
   rintro _ gl ⟨rfl, g3⟩
   refine zAe (zAd (gd _ _ (zA1 rfl rfl (fun g4 => ?_) (fun g4 => ?_))))
   ·
    try simp only [zS] at g4
    refine zAg (fun gm ge => (zAc (zBe rfl rfl (zBs rfl rfl (zAe (zAd (ge _ _ (zA7 (zAy (zAm (zAm (zAy (zAm (zBa (l := [.tmp 4]) (vs := [_]) rfl ⟨⟨rfl, (rfl : _ = Value.int _ _)⟩, trivial⟩ ?_))))))))))))))
    first
      | exact ⟨⟨-1, rfl, by have hil : i = l.length := (by omega); subst hil; rw [List.take_length] at hpre; rw [hpre]; rfl⟩, g3⟩
      | exact ⟨⟨(i : Int), rfl, by rw [Bool.eq_iff_iff]; simp only [decide_eq_true_eq, List.any_eq_true]; exact ⟨fun _ => ⟨_, List.getElem_mem hi2, by assumption⟩, fun _ => by omega⟩⟩, g3⟩
   try simp only [zS] at g4
   refine zAx (zAn (zAd (gb _ _ (zAc (w_p (zBq rfl rfl rfl rfl (by omega) (by omega)) rfl (zBe rfl rfl (zAe (zAd (g8 _ _ (nxI (l.length - (i + 1)) (by omega) ?_))))))))))
   exact ⟨i + 1, rfl, by omega, rfl, any_takeF hpre (by omega) (by assumption), g3⟩
  try simp only [zS] at g0
  refine zBy (zAq (zAq (zBc (zAd (g6 _ _ (zAg (fun gn gf => (zAc (zBj rfl rfl (zAe (zAd (gf _ _ (zA7 (zBa (l := [.tmp 4]) (vs := [_]) rfl ⟨⟨rfl, (rfl : _ = Value.int _ _)⟩, trivial⟩ ?_))))))))))))))
  first
    | exact ⟨⟨-1, rfl, by have hil : i = l.length := (by omega); subst hil; rw [List.take_length] at hpre; rw [hpre]; rfl⟩, hs⟩
    | exact ⟨⟨(i : Int), rfl, by rw [Bool.eq_iff_iff]; simp only [decide_eq_true_eq, List.any_eq_true]; exact ⟨fun _ => ⟨_, List.getElem_mem hi2, by assumption⟩, fun _ => by omega⟩⟩, hs⟩

theorem c97 {w0 w : World} {F : List (Nat × Obj)} (a : Option Addr) (l : List Farm) (c : Nat) (hla : l.length ≤ 9223372036854775807) (ha : Sl w0 F a 6 (rows l)) {fk : FuncId} (hC : CF Tryz.prog fk) (first captured : Array Value) (p : Farm → Bool)
    (hp : ∀ x ∈ l, ∀ w, St w0 w F → Con Tryz.prog fk (first.toList ++ ([.agg x.cells.toArray] ++ captured.toList)) w fun v w' => v = .bool (p x) ∧ St w0 w' F) (hs : St w0 w F) :
  Con Tryz.prog 97 [.slice a l.length c, .func (.func fk) first captured] w fun v w' => v = .bool (l.any p) ∧ St w0 w' F := by
  refine zAu (n := 9) func97 rfl rfl (zNl rfl) ?_
  refine zAg (fun K2 g0 => (zAc (zBj rfl rfl (zAe (zAd (g0 _ _ (zAg (fun K4 g3 => (zAc (w_p (zAi (v := .slice _ _ _) rfl rfl) rfl ?_))))))))))
  refine w_p (zAi (v := .func _ _ _) rfl rfl) rfl (zAr zAb call104 rfl rfl rfl rfl (c104 _ _ _ hla ha hC _ _ p hp hs) ?_)
  rintro _ w6 ⟨⟨z, rfl, hz⟩, g4⟩
  refine w_p (zHh rfl rfl rfl rfl) rfl (w_p (zAo (v := .bool _) rfl rfl) rfl (zAe (zAd (g3 _ _ (zA7 (zBa (l := [.tmp 4]) (vs := [_]) rfl ⟨⟨rfl, (rfl : _ = Value.bool _)⟩, trivial⟩ ?_))))))
  exact ⟨congrArg Value.bool hz, g4⟩

theorem c94 {w0 w : World} {F : List (Nat × Obj)} (a : Option Addr) (c : Nat) (l : List Farm) (hl3 : l.length ≤ 9223372036854775807) (hc : l.length ≤ c) (ha : Sl w0 F a 6 (rows l)) (i : Nat) (hi : i < l.length) (hnm : l[i].name.size ≤ 9223372036854775807) (hs : St w0 w F) :
  Con Tryz.prog 94 [.slice a l.length c, .int .i64 (i : Int)] w fun v w' => v = .bool (flawIs (names (l.take i)) l[i] 0) ∧ St w0 w' F := by
  refine zAu (n := 12) func94 rfl rfl (zNl rfl) ?_
  obtain ⟨bx, ox, rfl, hx⟩ := sl_farm ha hi
  refine zAg (fun K2 g0 => (zAc (zBj rfl rfl (zAe (zAd (g0 _ _ (zAg (fun K4 g3 => (zAc (w_p (zAi (v := .slice _ _ _) rfl rfl) rfl ?_))))))))))
  refine zBe rfl rfl (w_p (zBk underlying24 sizeOf33 rfl rfl rfl rfl (i := _) rfl (by omega)) rfl (w_p (zAf (o := 0) (i := 0) underlying33 rfl sizeOf9 rfl rfl rfl) rfl (w_p (zAk isAgg9 hs rfl rfl (show Ats _ _ _ _ [_] from Ats.part hx 0 1)) rfl (zAr zAb call95 rfl rfl rfl rfl (c95 _ (by omega) hs) ?_))))
  rintro _ w6 ⟨rfl, g4⟩
  refine w_p (zDq rfl rfl) rfl (w_p (zAo (v := .bool _) rfl rfl) rfl (zAe (zAd (g3 _ _ (zA7 (zBa (l := [.tmp 4]) (vs := [_]) rfl ⟨⟨rfl, (rfl : _ = Value.bool _)⟩, trivial⟩ ?_))))))
  exact ⟨rfl, g4⟩

theorem sl_take {w0 : World} {F : List (Nat × Obj)} {a : Option Addr} {l : List Farm} {i c : Nat} (h : Sl w0 F a 6 (rows l)) (hi : i ≤ l.length) (hc : l.length ≤ c) : Sl w0 F (if c = 0 then a else a.map (·.add (0 * 6))) 6 (rows (l.take i)) := by
  have := h.cut (l' := 0) (h' := i) (c := c) (by omega) (by simpa [rows] using hi) (by simpa [rows] using hc)
  simpa [rows, List.map_take] using this
theorem has_names (l : List Farm) (s : ByteArray) : (l.any fun x => decide (x.name = s)) = has (names l) s := by
  simp [has, names, List.any_map, Function.comp_def]
theorem c96 {w0 w : World} {F : List (Nat × Obj)} (a : Option Addr) (c : Nat) (l : List Farm) (hl3 : l.length ≤ 9223372036854775807) (hc : l.length ≤ c) (ha : Sl w0 F a 6 (rows l)) (i : Nat) (hi : i < l.length) (hs : St w0 w F) :
  Con Tryz.prog 96 [.slice a l.length c, .int .i64 (i : Int)] w fun v w' => v = .bool (flawIs (names (l.take i)) l[i] 1) ∧ St w0 w' F := by
  refine zAu (n := 10) func96 rfl rfl (zNl rfl) ?_
  refine zAg (fun K2 g3 => (zAc (zCj (v := .slice _ _ _) (cs := [_]) zAb rfl rfl rfl hs (fun b3 w4 g4 => ?_))))
  refine zCj (v := .int _ _) (cs := [_]) zAb rfl rfl rfl g4 (fun b6 w7 g0 => ?_)
  refine zBj rfl rfl (zAe (zAd (g3 _ _ (zAg (fun g7 g5 => (zAc (w_p (zAk isAgg24 g0 rfl rfl (zAl (i := 1) (vs := [_]) rfl rfl)) rfl (w_p (zAk isAgg3 g0 rfl rfl (zAl (i := 0) (vs := [_]) rfl rfl)) rfl ?_))))))))
  refine w_p (y_sliceS (l' := 0) (h' := i) underlying24 sizeOf33 rfl rfl rfl ⟨rfl, _,_, rfl, rfl⟩ (by omega) (by omega)) rfl (w_p (zCa (fv := []) (cv := [_,_]) rfl rfl rfl rfl) rfl (zAr zAb call97 rfl rfl rfl rfl ((show Con Tryz.prog 97 [.slice (if c = 0 then a else a.map (·.add (0 * 6))) (i - 0) (c - 0), _] _ _ from by rw [Nat.sub_zero, show (i = (l.take i).length) from by rw [List.length_take]; omega]; exact c97 _ (l.take i) _ (by rw [List.length_take]; omega) (sl_take ha.cons.cons (by omega) hc) call98 _ _ (fun x => decide (x.name = l[i].name)) (fun x _ w hs => c98 _ _ _ _ _ _ _ hi (zAl (i := 1) (vs := [_]) rfl rfl) (zAl (i := 0) (vs := [_]) rfl rfl) ha.cons.cons hs) g0)) ?_))
  rintro _ g8 ⟨rfl, g6⟩
  refine w_p (zAo (v := .bool _) rfl rfl) rfl (zAe (zAd (g5 _ _ (zA7 (zBa (l := [.tmp 4]) (vs := [_]) rfl ⟨⟨rfl, (rfl : _ = Value.bool _)⟩, trivial⟩ ?_)))))
  exact ⟨congrArg Value.bool (has_names _ _), g6.tail.tail⟩

theorem c99 {w0 w : World} {F : List (Nat × Obj)} (a : Option Addr) (c : Nat) (l : List Farm) (hl3 : l.length ≤ 9223372036854775807) (hc : l.length ≤ c) (ha : Sl w0 F a 6 (rows l)) (i : Nat) (hi : i < l.length) (hs : St w0 w F) :
  Con Tryz.prog 99 [.slice a l.length c, .int .i64 (i : Int)] w fun v w' => v = .bool (flawIs (names (l.take i)) l[i] 2) ∧ St w0 w' F := by
  refine zAu (n := 38) func99 rfl rfl (zNl rfl) ?_
  obtain ⟨bx, ox, rfl, hx⟩ := sl_farm ha hi
  refine zAg (fun K2 ga => (zAc (zBj rfl rfl (zAe (zAd (ga _ _ (zAg (fun K4 gb => (zAc (w_p (zAi (v := .slice _ _ _) rfl rfl) rfl ?_))))))))))
  refine zBe rfl rfl (w_p (zBk underlying24 sizeOf33 rfl rfl rfl rfl (i := _) rfl (by omega)) rfl (w_p (zA9 (vs := [_,_,_,_,_,_]) isAgg33 sizeOf33 hs rfl rfl hx) rfl (zA0 (cs := [_,_,_,_,_,_]) zAb zeroValue33 rfl hs (fun b5 w6 gc => ?_))))
  refine zAs (i := 0) (v := .agg #[.string _, .int _ _, .int _ _, .int _ _, .int _ _, .int _ _]) (vs := [_,_,_,_,_,_]) zAb sizeOf33 rfl rfl rfl rfl rfl (by simp [Value.oneCell']) gc rfl (zNl rfl) (fun w8 g9 => ?_)
  refine zAe (zAd (gb _ _ (zAg (fun gi g5 => (zAc (w_p (zAf (o := 1) (i := 1) underlying33 rfl sizeOf3 rfl rfl rfl) rfl (w_p (zAk isAgg3 g9 rfl rfl (zAl (i := 0) (vs := [_]) rfl rfl)) rfl ?_)))))))
  refine zA3 (ps := [(0, _)]) (pv := [(0, .int _ _)]) (cs := [_]) zAb rfl rfl (fun w => zGe _ w) g9 (fun gj gk gd => ?_)
  refine zAr zAb call51 rfl rfl rfl rfl (c51 _ _ _ [_] _ (by simp) (zBd (i := 0) (rows := [[_]]) rfl (by simp) rfl) gd) ?_
  rintro _ gl ⟨rfl, g8⟩
  refine w_p (zAi (v := .bool _) rfl rfl) rfl (zBp (fun g0 => ?_) (fun g0 => ?_))
  ·
   try simp only [zS] at g0
   refine zAj rfl rfl rfl ?_
   refine zAj rfl rfl rfl ?_
   refine zAj rfl rfl rfl ?_
   refine zAj rfl rfl rfl ?_
   refine w_p (zAv (v := _) rfl rfl rfl rfl) rfl (w_p (zAi (v := .bool _) rfl rfl) rfl (zAj rfl rfl rfl ?_))
   refine zAj rfl rfl rfl ?_
   refine zAj rfl rfl rfl ?_
   refine zAj rfl rfl rfl ?_
   refine zAj rfl rfl rfl ?_
   refine zAj rfl rfl rfl ?_
   refine w_p (zAv (v := _) rfl rfl rfl rfl) rfl (w_p (zAi (v := .bool _) rfl rfl) rfl (zAj rfl rfl rfl ?_))
   refine zAj rfl rfl rfl ?_
   refine zAj rfl rfl rfl ?_
   refine zAj rfl rfl rfl ?_
   refine zAj rfl rfl rfl ?_
   refine zAj rfl rfl rfl ?_
   refine zAj rfl rfl rfl ?_
   refine zAj rfl rfl rfl ?_
   refine w_p (zAv (v := _) rfl rfl rfl rfl) rfl (w_p (zAo (v := .bool _) rfl rfl) rfl (zAe (zAd (g5 _ _ (zA7 (zBa (l := [.tmp 4]) (vs := [_]) rfl ⟨⟨rfl, (rfl : _ = Value.bool _)⟩, trivial⟩ ?_))))))
   try simp only [List.any_cons, List.any_nil, Bool.or_false, Bool.or_eq_false_iff] at g0
   exact ⟨congrArg Value.bool (by simp [flawIs, g0]), g8.tail.tail⟩
  try simp only [zS] at g0
  refine w_y rfl rfl rfl (zAf (o := 2) (i := 2) underlying33 rfl sizeOf3 rfl rfl rfl) rfl ?_
  refine w_y rfl rfl rfl (zAk isAgg3 g8 rfl rfl (zAl (i := 1) (vs := [_]) rfl rfl)) rfl ?_
  refine zA3 (ps := [(0, _)]) (pv := [(0, .int _ _)]) (cs := [_]) (zAp rfl rfl rfl) rfl rfl (fun w => zGe _ w) g8 (fun gm gn ge => ?_)
  refine zAr (zAp rfl rfl rfl) call51 rfl rfl rfl rfl (c51 _ _ _ [_] _ (by simp) (zBd (i := 0) (rows := [[_]]) rfl (by simp) rfl) ge) ?_
  rintro _ go ⟨rfl, g6⟩
  refine w_p (zBg (v := .bool _) rfl rfl rfl rfl) rfl (w_p (zAi (v := .bool _) rfl rfl) rfl (zBp (fun g3 => ?_) (fun g3 => ?_)))
  ·
   try simp only [zS] at g3
   refine zAj rfl rfl rfl ?_
   refine zAj rfl rfl rfl ?_
   refine zAj rfl rfl rfl ?_
   refine zAj rfl rfl rfl ?_
   refine zAj rfl rfl rfl ?_
   refine zAj rfl rfl rfl ?_
   refine w_p (zAv (v := _) rfl rfl rfl rfl) rfl (w_p (zAi (v := .bool _) rfl rfl) rfl (zAj rfl rfl rfl ?_))
   refine zAj rfl rfl rfl ?_
   refine zAj rfl rfl rfl ?_
   refine zAj rfl rfl rfl ?_
   refine zAj rfl rfl rfl ?_
   refine zAj rfl rfl rfl ?_
   refine zAj rfl rfl rfl ?_
   refine zAj rfl rfl rfl ?_
   refine w_p (zAv (v := _) rfl rfl rfl rfl) rfl (w_p (zAo (v := .bool _) rfl rfl) rfl (zAe (zAd (g5 _ _ (zA7 (zBa (l := [.tmp 4]) (vs := [_]) rfl ⟨⟨rfl, (rfl : _ = Value.bool _)⟩, trivial⟩ ?_))))))
   try simp only [List.any_cons, List.any_nil, Bool.or_false, Bool.or_eq_false_iff] at g0 g3
   exact ⟨congrArg Value.bool (by simp [flawIs, g0, g3]), g6.tail.tail.tail⟩
  try simp only [zS] at g3
  refine w_y rfl rfl rfl (zAf (o := 1) (i := 1) underlying33 rfl sizeOf3 rfl rfl rfl) rfl ?_
  refine w_y rfl rfl rfl (zAk isAgg3 g6 rfl rfl (zAl (i := 2) (vs := [_]) rfl rfl)) rfl ?_
  refine w_y rfl rfl rfl (zAf (o := 3) (i := 3) underlying33 rfl sizeOf3 rfl rfl rfl) rfl ?_
  refine w_y rfl rfl rfl (zAk isAgg3 g6 rfl rfl (zAl (i := 2) (vs := [_]) rfl rfl)) rfl ?_
  refine zA3 (ps := [(0, _)]) (pv := [(0, .int _ _)]) (cs := [_]) (zAp rfl rfl rfl) rfl rfl (fun w => zGe _ w) g6 (fun gp gq gf => ?_)
  refine zAr (zAp rfl rfl rfl) call51 rfl rfl rfl rfl (c51 _ _ _ [_] _ (by simp) (zBd (i := 0) (rows := [[_]]) rfl (by simp) rfl) gf) ?_
  rintro _ gr ⟨rfl, g7⟩
  refine w_p (zBg (v := .bool _) rfl rfl rfl rfl) rfl (w_p (zAi (v := .bool _) rfl rfl) rfl (zBp (fun g4 => ?_) (fun g4 => ?_)))
  ·
   try simp only [zS] at g4
   refine zAj rfl rfl rfl ?_
   refine zAj rfl rfl rfl ?_
   refine zAj rfl rfl rfl ?_
   refine zAj rfl rfl rfl ?_
   refine zAj rfl rfl rfl ?_
   refine zAj rfl rfl rfl ?_
   refine zAj rfl rfl rfl ?_
   refine zAj rfl rfl rfl ?_
   refine w_p (zAv (v := _) rfl rfl rfl rfl) rfl (w_p (zAo (v := .bool _) rfl rfl) rfl (zAe (zAd (g5 _ _ (zA7 (zBa (l := [.tmp 4]) (vs := [_]) rfl ⟨⟨rfl, (rfl : _ = Value.bool _)⟩, trivial⟩ ?_))))))
   try simp only [List.any_cons, List.any_nil, Bool.or_false, Bool.or_eq_false_iff] at g0 g3 g4
   exact ⟨congrArg Value.bool (by simp [flawIs, g0, g3, g4]), g7.tail.tail.tail.tail⟩
  try simp only [zS] at g4
  refine w_y rfl rfl rfl (zAf (o := 4) (i := 4) underlying33 rfl sizeOf23 rfl rfl rfl) rfl ?_
  refine w_y rfl rfl rfl (zAf (o := 0) (i := 0) underlying23 rfl sizeOf3 rfl rfl rfl) rfl ?_
  refine w_y rfl rfl rfl (zAk isAgg3 g7 rfl rfl (zAl (i := 3) (vs := [_]) rfl rfl)) rfl ?_
  refine w_y rfl rfl rfl (zAf (o := 4) (i := 4) underlying33 rfl sizeOf23 rfl rfl rfl) rfl ?_
  refine w_y rfl rfl rfl (zAf (o := 1) (i := 1) underlying23 rfl sizeOf3 rfl rfl rfl) rfl ?_
  refine w_y rfl rfl rfl (zAk isAgg3 g7 rfl rfl (zAl (i := 3) (vs := [_]) rfl rfl)) rfl ?_
  refine zA3 (ps := [(0, _),(1, _)]) (pv := [(0, .int _ _),(1, .int _ _)]) (cs := [_,_]) (zAp rfl rfl rfl) rfl rfl (fun w => Try_CC_fb1 _ _ w) g7 (fun gt gu gg => ?_)
  refine zAr (zAp rfl rfl rfl) call51 rfl rfl rfl rfl (c51 _ _ _ [_,_] _ (by simp) (zBd (i := 0) (rows := [[_], [_]]) rfl (by simp) rfl) gg) ?_
  rintro _ gv ⟨rfl, gh⟩
  refine w_p (zBg (v := .bool _) rfl rfl rfl rfl) rfl (w_p (zAo (v := .bool _) rfl rfl) rfl (zAe (zAd (g5 _ _ (zA7 (zBa (l := [.tmp 4]) (vs := [_]) rfl ⟨⟨rfl, (rfl : _ = Value.bool _)⟩, trivial⟩ ?_))))))
  try simp only [List.any_cons, List.any_nil, Bool.or_false, Bool.or_eq_false_iff] at g0 g3 g4
  exact ⟨congrArg Value.bool (by simp [flawIs, g0, g3, g4]), gh.tail.tail.tail.tail.tail⟩

theorem c100 {w0 w : World} {F : List (Nat × Obj)} (a : Option Addr) (c : Nat) (l : List Farm) (hl3 : l.length ≤ 9223372036854775807) (hc : l.length ≤ c) (ha : Sl w0 F a 6 (rows l)) (i : Nat) (hi : i < l.length) (hs : St w0 w F) :
  Con Tryz.prog 100 [.slice a l.length c, .int .i64 (i : Int)] w fun v w' => v = .bool (flawIs (names (l.take i)) l[i] 3) ∧ St w0 w' F := by
  refine zAu (n := 18) func100 rfl rfl (zNl rfl) ?_
  obtain ⟨bx, ox, rfl, hx⟩ := sl_farm ha hi
  refine zAg (fun K2 g3 => (zAc (zBj rfl rfl (zAe (zAd (g3 _ _ (zAg (fun K4 g4 => (zCe [] [(0,0),(1,0),(2,0),(3,0),(4,0),(5,1),(6,0),(7,0),(8,0),(9,0),(10,0),(11,1),(12,0),(13,0)] zB0 (by kernel_rfl) hs (fun w5 g0 => ?_))))))))))
  refine d_w rfl (fun _ => zAi (v := .slice _ _ _) rfl rfl) rfl ?_
  refine d_w rfl (fun _ => zA6 rfl rfl) rfl ?_
  refine d_w rfl (fun _ => zBk underlying24 sizeOf33 rfl rfl rfl rfl (i := _) rfl (by omega)) rfl ?_
  refine d_w rfl (fun _ => zAf (o := 4) (i := 4) underlying33 rfl sizeOf23 rfl rfl rfl) rfl ?_
  refine d_w rfl (fun _ => zAf (o := 0) (i := 0) underlying23 rfl sizeOf3 rfl rfl rfl) rfl ?_
  refine zBb rfl zAb rfl g0 (fun _ hq => (zAk isAgg3 hq rfl rfl (show Ats _ _ _ _ [_] from Ats.part hx 4 1))) ?_
  refine d_w rfl (fun _ => zAi (v := .slice _ _ _) rfl rfl) rfl ?_
  refine d_w rfl (fun _ => zA6 rfl rfl) rfl ?_
  refine d_w rfl (fun _ => zBk underlying24 sizeOf33 rfl rfl rfl rfl (i := _) rfl (by omega)) rfl ?_
  refine d_w rfl (fun _ => zAf (o := 4) (i := 4) underlying33 rfl sizeOf23 rfl rfl rfl) rfl ?_
  refine d_w rfl (fun _ => zAf (o := 1) (i := 1) underlying23 rfl sizeOf3 rfl rfl rfl) rfl ?_
  refine zBb rfl zAb rfl g0 (fun _ hq => (zAk isAgg3 hq rfl rfl (show Ats _ _ _ _ [_] from Ats.part hx 5 1))) ?_
  refine d_w rfl (fun _ => zEt rfl rfl rfl rfl) rfl ?_
  refine d_w rfl (fun _ => zAo (v := .bool _) rfl rfl) rfl ?_
  refine zBh ?_
  refine zAd (g4 _ _ (zA7 (zBa (l := [.tmp 4]) (vs := [_]) rfl ⟨⟨rfl, (rfl : _ = Value.bool _)⟩, trivial⟩ ?_)))
  exact ⟨rfl, g0⟩

def flawK : Nat → Nat
  | 0 => 94
  | 1 => 96
  | 2 => 99
  | _ => 100
def flawCells : List Value := [.int .i64 6, .func (.func 94) #[] #[], .int .i64 5, .func (.func 96) #[] #[], .int .i64 7, .func (.func 99) #[] #[], .int .i64 2, .func (.func 100) #[] #[]]
theorem flaw_at {w0 : World} {L : List (Nat × Obj)} {b i j : Nat} (hi : L[i]? = some (b, blk 137 flawCells)) (hj : j < 4) : Ats w0 L b (0 + j * 2) [.int .i64 (flawE j), .func (.func (flawK j)) #[] #[]] := by
  match j, hj with
  | 0, _ => exact zAl hi rfl
  | 1, _ => exact zAl hi rfl
  | 2, _ => exact zAl hi rfl
  | 3, _ => exact zAl hi rfl
theorem flaw_con {w0 w : World} {F : List (Nat × Obj)} (a : Option Addr) (c : Nat) (l : List Farm) (hl3 : l.length ≤ 9223372036854775807) (hc : l.length ≤ c) (ha : Sl w0 F a 6 (rows l)) (i : Nat) (hi : i < l.length) (hnm : l[i].name.size ≤ 9223372036854775807) (j : Nat) (hj : j < 4) (hs : St w0 w F) :
    FCon Tryz.prog (.func (.func (flawK j)) #[] #[]) [.slice a l.length c, .int .i64 (i : Int)] w fun v w' => v = .bool (flawIs (names (l.take i)) l[i] j) ∧ St w0 w' F := by
  match j, hj with
  | 0, _ => exact zDw call94 (c94 a c l hl3 hc ha i hi hnm hs)
  | 1, _ => exact zDw call96 (c96 a c l hl3 hc ha i hi hs)
  | 2, _ => exact zDw call99 (c99 a c l hl3 hc ha i hi hs)
  | 3, _ => exact zDw call100 (c100 a c l hl3 hc ha i hi hs)
theorem c74 {w0 w : World} {F : List (Nat × Obj)}  (hs : St w0 w F) :
  Con Tryz.prog 74 [] w fun v w' => ∃ b, v = .slice (some ⟨b, 0, none⟩) 4 4 ∧ St w0 w' ((b, blk 137 flawCells) :: F) := by
  refine zAu (n := 6) func74 rfl rfl (zNl rfl) ?_
  refine zAg (fun K2 g0 => (zAc (zBj rfl rfl (zAe (zAd (g0 _ _ (zAg (fun K4 g3 => (zAc (w_p (zBx (ps := [(0, _),(1, _)]) (pv := [(0, .int _ _),(1, .func _ _ _)]) rfl rfl (fun w => zGd _ _ _ _ w)) rfl ?_))))))))))
  refine w_p (zBx (ps := [(0, _),(1, _)]) (pv := [(0, .int _ _),(1, .func _ _ _)]) rfl rfl (fun w => zGd _ _ _ _ w)) rfl (w_p (zBx (ps := [(0, _),(1, _)]) (pv := [(0, .int _ _),(1, .func _ _ _)]) rfl rfl (fun w => zGd _ _ _ _ w)) rfl ?_)
  refine w_p (zBx (ps := [(0, _),(1, _)]) (pv := [(0, .int _ _),(1, .func _ _ _)]) rfl rfl (fun w => zGd _ _ _ _ w)) rfl (zA3 (ps := [(0, _),(1, _),(2, _),(3, _)]) (pv := [(0, .agg #[.int _ _, .func _ _ _]),(1, .agg #[.int _ _, .func _ _ _]),(2, .agg #[.int _ _, .func _ _ _]),(3, .agg #[.int _ _, .func _ _ _])]) (cs := [_,_,_,_,_,_,_,_]) zAb rfl rfl (fun w => Try_CC_fb3 _ _ _ _ _ _ _ _ _ _ _ _ _ _ _ _ w) hs (fun b5 w6 g4 => ?_))
  refine w_p (zAo (v := .slice _ _ _) rfl rfl) rfl (zAe (zAd (g3 _ _ (zA7 (zBa (l := [.tmp 0]) (vs := [_]) rfl ⟨⟨rfl, show _ = (.slice _ _ _ : Value) from rfl⟩, trivial⟩ ?_)))))
  exact ⟨_, rfl, g4⟩

theorem tup3 {x : Int × Int × Int} {a b c : Int} (h : x = (a, b, c)) : Value.tuple #[.int .i64 a, .int .i64 b, .int .i64 c] = .tuple #[.int .i64 x.1, .int .i64 x.2.1, .int .i64 x.2.2] := by subst h; rfl
theorem c45 {w0 w : World} {F : List (Nat × Obj)} (p : Port) (a : Option Addr) (c : Nat) (hl3 : p.farms.length ≤ 9223372036854775807) (hc : p.farms.length ≤ c) (ha : Sl w0 F a 6 (rows p.farms)) (hnm : ∀ f ∈ p.farms, f.name.size ≤ 9223372036854775807) (hs : St w0 w F) :
  Con Tryz.prog 45 [.agg (p.cells a c).toArray] w fun v w' => v = .tuple #[.int .i64 (check p).1, .int .i64 (check p).2.1, .int .i64 (check p).2.2] ∧ St w0 w' F := by
  refine zAu (n := 59) func45 rfl rfl (zNl rfl) ?_
  refine zAg (fun K2 gg => (zAc (zCj (v := .agg #[.int _ _, .int _ _, .int _ _, .slice _ _ _]) (cs := [_,_,_,_]) zAb rfl rfl rfl hs (fun b3 w4 gd => ?_))))
  refine zBj rfl rfl (zBj rfl rfl (zBj rfl rfl (zAe (zAd (gg _ _ (zAg (fun K7 gh => (zA8 ?_))))))))
  refine zAg (fun K9 ge => (zAc (w_p (zAf (o := 0) (i := 0) underlying26 rfl sizeOf3 rfl rfl rfl) rfl (w_p (zAk isAgg3 gd rfl rfl (zAl (i := 0) (vs := [_]) rfl rfl)) rfl (zA3 (ps := [(0, _)]) (pv := [(0, .int _ _)]) (cs := [_]) zAb rfl rfl (fun w => zGe _ w) gd (fun gJ gK gi => ?_))))))
  refine zAr zAb call51 rfl rfl rfl rfl (c51 _ _ _ [_] _ (by simp) (zBd (i := 0) (rows := [[_]]) rfl (by simp) rfl) gi) ?_
  rintro _ gL ⟨rfl, g8⟩
  refine w_p (zAi (v := .bool _) rfl rfl) rfl (zBp (fun g0 => ?_) (fun g0 => ?_))
  ·
   try simp only [zS] at g0
   refine zAj rfl rfl rfl ?_
   refine zAj rfl rfl rfl ?_
   refine zAj rfl rfl rfl ?_
   refine zAj rfl rfl rfl ?_
   refine zAj rfl rfl rfl ?_
   refine zAj rfl rfl rfl ?_
   refine zAj rfl rfl rfl ?_
   refine zAj rfl rfl rfl ?_
   refine w_p (zAv (v := _) rfl rfl rfl rfl) rfl (w_p (zAo (v := .bool _) rfl rfl) rfl (zAe (zAd (ge _ _ (zC0 rfl rfl ?_)))))
   refine zAg (fun gM gj => (zAc (zBj rfl rfl (zBj rfl rfl (zBj rfl rfl (zAe (zAd (gj _ _ (zA7 (zAy (zAm (zBa (l := [.tmp 2, .tmp 3, .tmp 4]) (vs := [_,_,_]) rfl ⟨⟨rfl, (rfl : _ = Value.int _ _)⟩, ⟨rfl, (rfl : _ = Value.int _ _)⟩, ⟨rfl, (rfl : _ = Value.int _ _)⟩, trivial⟩ ?_))))))))))))
   try simp only [List.any_cons, List.any_nil, Bool.or_false, Bool.or_eq_false_iff] at g0
   first
     | exact ⟨tup3 (hinv.trans ((zBt hi2 (by rw [zDl _ _ j hj2 (by assumption) hfl]; match j, hj2 with | 0, _ => decide | 1, _ => decide | 2, _ => decide | 3, _ => decide)).trans (by rw [zDl _ _ j hj2 (by assumption) hfl]))), g8.tail.tail⟩
     | exact ⟨tup3 (hinv.trans (zCq (by omega) _)), g8.tail.tail⟩
     | (refine ⟨tup3 ?_, g8.tail.tail⟩; unfold check; rw [if_pos (by simp [g0])]; done)
     | (refine ⟨tup3 ?_, g8.tail.tail⟩; unfold check; rw [if_neg (by simp [g0]), if_pos (by omega)]; done)
     | (refine ⟨tup3 ?_, g8.tail.tail⟩; unfold check; rw [if_neg (by simp [g0]), if_neg (by omega), if_pos (by omega)]; done)
  try simp only [zS] at g0
  refine w_y rfl rfl rfl (zAf (o := 1) (i := 1) underlying26 rfl sizeOf23 rfl rfl rfl) rfl ?_
  refine w_y rfl rfl rfl (zAf (o := 0) (i := 0) underlying23 rfl sizeOf3 rfl rfl rfl) rfl ?_
  refine w_y rfl rfl rfl (zAk isAgg3 g8 rfl rfl (zAl (i := 1) (vs := [_]) rfl rfl)) rfl ?_
  refine w_y rfl rfl rfl (zAf (o := 1) (i := 1) underlying26 rfl sizeOf23 rfl rfl rfl) rfl ?_
  refine w_y rfl rfl rfl (zAf (o := 1) (i := 1) underlying23 rfl sizeOf3 rfl rfl rfl) rfl ?_
  refine w_y rfl rfl rfl (zAk isAgg3 g8 rfl rfl (zAl (i := 1) (vs := [_]) rfl rfl)) rfl ?_
  refine zA3 (ps := [(0, _),(1, _)]) (pv := [(0, .int _ _),(1, .int _ _)]) (cs := [_,_]) (zAp rfl rfl rfl) rfl rfl (fun w => Try_CC_fb1 _ _ w) g8 (fun gN gO gk => ?_)
  refine zAr (zAp rfl rfl rfl) call51 rfl rfl rfl rfl (c51 _ _ _ [_,_] _ (by simp) (zBd (i := 0) (rows := [[_], [_]]) rfl (by simp) rfl) gk) ?_
  rintro _ gP ⟨rfl, g5⟩
  refine w_p (zBg (v := .bool _) rfl rfl rfl rfl) rfl (w_p (zAo (v := .bool _) rfl rfl) rfl (zAe (zAd (ge _ _ (zA1 rfl rfl (fun g3 => ?_) (fun g3 => ?_))))))
  ·
   try simp only [zS] at g3
   refine zAg (fun gQ gl => (zAc (zBj rfl rfl (zBj rfl rfl (zBj rfl rfl (zAe (zAd (gl _ _ (zA7 (zAy (zAm (zBa (l := [.tmp 2, .tmp 3, .tmp 4]) (vs := [_,_,_]) rfl ⟨⟨rfl, (rfl : _ = Value.int _ _)⟩, ⟨rfl, (rfl : _ = Value.int _ _)⟩, ⟨rfl, (rfl : _ = Value.int _ _)⟩, trivial⟩ ?_))))))))))))
   try simp only [List.any_cons, List.any_nil, Bool.or_false, Bool.or_eq_false_iff] at g0 g3
   first
     | exact ⟨tup3 (hinv.trans ((zBt hi2 (by rw [zDl _ _ j hj2 (by assumption) hfl]; match j, hj2 with | 0, _ => decide | 1, _ => decide | 2, _ => decide | 3, _ => decide)).trans (by rw [zDl _ _ j hj2 (by assumption) hfl]))), g5.tail.tail.tail⟩
     | exact ⟨tup3 (hinv.trans (zCq (by omega) _)), g5.tail.tail.tail⟩
     | (refine ⟨tup3 ?_, g5.tail.tail.tail⟩; unfold check; rw [if_pos (by simp [g0, g3])]; done)
     | (refine ⟨tup3 ?_, g5.tail.tail.tail⟩; unfold check; rw [if_neg (by simp [g0, g3]), if_pos (by omega)]; done)
     | (refine ⟨tup3 ?_, g5.tail.tail.tail⟩; unfold check; rw [if_neg (by simp [g0, g3]), if_neg (by omega), if_pos (by omega)]; done)
  try simp only [zS] at g3
  refine zAg (fun gR gm => (zAc (w_p (zAf (o := 1) (i := 1) underlying26 rfl sizeOf23 rfl rfl rfl) rfl (w_p (zAf (o := 0) (i := 0) underlying23 rfl sizeOf3 rfl rfl rfl) rfl (w_p (zAk isAgg3 g5 rfl rfl (zAl (i := 2) (vs := [_]) rfl rfl)) rfl ?_)))))
  refine w_p (zAf (o := 1) (i := 1) underlying26 rfl sizeOf23 rfl rfl rfl) rfl (w_p (zAf (o := 1) (i := 1) underlying23 rfl sizeOf3 rfl rfl rfl) rfl (w_p (zAk isAgg3 g5 rfl rfl (zAl (i := 2) (vs := [_]) rfl rfl)) rfl ?_))
  refine w_p (zEt rfl rfl rfl rfl) rfl (w_p (zAo (v := .bool _) rfl rfl) rfl (zAe (zAd (gm _ _ (zA1 rfl rfl (fun g4 => ?_) (fun g4 => ?_))))))
  ·
   try simp only [zS] at g4
   refine zAg (fun gS gn => (zAc (zBj rfl rfl (zBj rfl rfl (zBj rfl rfl (zAe (zAd (gn _ _ (zA7 (zAy (zAm (zBa (l := [.tmp 2, .tmp 3, .tmp 4]) (vs := [_,_,_]) rfl ⟨⟨rfl, (rfl : _ = Value.int _ _)⟩, ⟨rfl, (rfl : _ = Value.int _ _)⟩, ⟨rfl, (rfl : _ = Value.int _ _)⟩, trivial⟩ ?_))))))))))))
   try simp only [List.any_cons, List.any_nil, Bool.or_false, Bool.or_eq_false_iff] at g0 g3 g4
   first
     | exact ⟨tup3 (hinv.trans ((zBt hi2 (by rw [zDl _ _ j hj2 (by assumption) hfl]; match j, hj2 with | 0, _ => decide | 1, _ => decide | 2, _ => decide | 3, _ => decide)).trans (by rw [zDl _ _ j hj2 (by assumption) hfl]))), g5.tail.tail.tail⟩
     | exact ⟨tup3 (hinv.trans (zCq (by omega) _)), g5.tail.tail.tail⟩
     | (refine ⟨tup3 ?_, g5.tail.tail.tail⟩; unfold check; rw [if_pos (by simp [g0, g3, g4])]; done)
     | (refine ⟨tup3 ?_, g5.tail.tail.tail⟩; unfold check; rw [if_neg (by simp [g0, g3, g4]), if_pos (by omega)]; done)
     | (refine ⟨tup3 ?_, g5.tail.tail.tail⟩; unfold check; rw [if_neg (by simp [g0, g3, g4]), if_neg (by omega), if_pos (by omega)]; done)
  try simp only [zS] at g4
  refine zAg (fun gT go => (zAc (w_p (zAf (o := 3) (i := 2) underlying26 rfl sizeOf24 rfl rfl rfl) rfl (w_p (zAk isAgg24 g5 rfl rfl (zAl (i := 2) (vs := [_]) rfl rfl)) rfl (w_p (zBo underlying24 rfl rfl) rfl ?_)))))
  refine w_p (zEt rfl rfl rfl rfl) rfl (w_p (zAo (v := .bool _) rfl rfl) rfl (zAe (zAd (go _ _ (zA1 rfl rfl (fun g6 => ?_) (fun g6 => ?_))))))
  ·
   try simp only [zS] at g6
   refine zAg (fun gU gp => (zAc (zBj rfl rfl (zBj rfl rfl (zBj rfl rfl (zAe (zAd (gp _ _ (zA7 (zAy (zAm (zBa (l := [.tmp 2, .tmp 3, .tmp 4]) (vs := [_,_,_]) rfl ⟨⟨rfl, (rfl : _ = Value.int _ _)⟩, ⟨rfl, (rfl : _ = Value.int _ _)⟩, ⟨rfl, (rfl : _ = Value.int _ _)⟩, trivial⟩ ?_))))))))))))
   try simp only [List.any_cons, List.any_nil, Bool.or_false, Bool.or_eq_false_iff] at g0 g3 g4 g6
   first
     | exact ⟨tup3 (hinv.trans ((zBt hi2 (by rw [zDl _ _ j hj2 (by assumption) hfl]; match j, hj2 with | 0, _ => decide | 1, _ => decide | 2, _ => decide | 3, _ => decide)).trans (by rw [zDl _ _ j hj2 (by assumption) hfl]))), g5.tail.tail.tail⟩
     | exact ⟨tup3 (hinv.trans (zCq (by omega) _)), g5.tail.tail.tail⟩
     | (refine ⟨tup3 ?_, g5.tail.tail.tail⟩; unfold check; rw [if_pos (by simp [g0, g3, g4, g6])]; done)
     | (refine ⟨tup3 ?_, g5.tail.tail.tail⟩; unfold check; rw [if_neg (by simp [g0, g3, g4, g6]), if_pos (by omega)]; done)
     | (refine ⟨tup3 ?_, g5.tail.tail.tail⟩; unfold check; rw [if_neg (by simp [g0, g3, g4, g6]), if_neg (by omega), if_pos (by omega)]; done)
  try simp only [zS] at g6
  refine zAx (zAn (zAd (gh _ _ (zAg (fun gV gq => (zAg (fun gW gr => (zAc (w_p (zAf (o := 3) (i := 2) underlying26 rfl sizeOf24 rfl rfl rfl) rfl ?_)))))))))
  refine w_p (zAk isAgg24 g5 rfl rfl (zAl (i := 2) (vs := [_]) rfl rfl)) rfl (w_p (zBo underlying24 rfl rfl) rfl (w_p (zAi (v := _) rfl rfl) rfl (zAe (zAd (gr _ _ (zA8 ?_))))))
  refine zCd [2,3,4,5,7,39,40,41,42,43,44,45,46,47,48,49,50,51,52,53,54,55,56,57,58] [39] (fun k vs w => ∃ i : Nat, vs = [.int .i64 i] ∧ i ≤ p.farms.length ∧ k = p.farms.length - i ∧ check p = farmsErr (names (p.farms.take i)) (i : Nat) (p.farms.drop i) ∧ St w0 w ((b3, blk 26 (p.cells a c)) :: F)) (p.farms.length) ?_ ?_
  ·
   try simp only [List.any_cons, List.any_nil, Bool.or_false, Bool.or_eq_false_iff] at g0 g3 g4 g6
   exact ⟨0, rfl, by omega, by omega, (by unfold check; rw [if_neg (by simp [g0, g3, g4, g6]), if_neg (by omega), if_neg (by omega)]; rfl), g5.tail.tail⟩
  intro k vs μ gX hI gY gt
  obtain ⟨i, rfl, hia, rfl, hinv, hs⟩ := hI
  refine zAg (fun gZ gu => (zAc (w_p (zCl rfl rfl rfl rfl) rfl (zAe (zAd (gu _ _ (zAg (fun hD gv => (zA1 rfl rfl (fun g7 => ?_) (fun g7 => ?_))))))))))
  ·
   try simp only [zS] at g7
   refine zAx (zAd (gv _ _ (zAg (fun hG gw => (zA8 ?_)))))
   refine zAg (fun hH gx => (zAc (zBe rfl rfl (zBs rfl rfl (zAe (zAd (gx _ _ (zAg (fun hN gy => ?_)))))))))
   have hi2 : i < p.farms.length := by omega
   refine zAc (zAr zAb call74 rfl rfl rfl rfl (c74 hs) ?_)
   rintro _ hO ⟨bq, rfl, gz⟩
   refine w_p (zBo underlying133 rfl rfl) rfl (w_p (zAi (v := _) rfl rfl) rfl (zAe (zAd (gy _ _ (zA8 ?_)))))
   refine zCd [2,3,4,7,44,45,46,47,48,49,50,51,52,53,54,55,56,57] [44] (fun k vs w => ∃ j : Nat, vs = [.int .i64 j] ∧ j ≤ 4 ∧ k = 4 - j ∧ (∀ q < j, flawIs (names (p.farms.take i)) p.farms[i] q = false) ∧ St w0 w ((bq, blk 137 flawCells) :: (b3, blk 26 (p.cells a c)) :: F)) (4) ?_ ?_
   ·
    exact ⟨0, rfl, by omega, by omega, (fun q hq => by omega), gz⟩
   intro k vs μ hP hI hX gA
   obtain ⟨j, rfl, hja, rfl, hfl, hs⟩ := hI
   refine zAg (fun hY gB => (zAc (w_p (zCl rfl rfl rfl rfl) rfl (zAe (zAd (gB _ _ (zAg (fun j0 gC => (zA1 rfl rfl (fun g9 => ?_) (fun g9 => ?_))))))))))
   ·
    try simp only [zS] at g9
    refine zAx (zAd (gC _ _ (zAg (fun j1 gD => (zA8 ?_)))))
    refine zAg (fun j2 gE => ?_)
    have hj2 : j < 4 := by omega
    have hxq := flaw_at (w0 := w0) (L := (bq, blk 137 flawCells) :: (b3, blk 26 (p.cells a c)) :: F) (i := 0) rfl hj2
    refine zAc (w_p (zBk underlying133 sizeOf137 rfl rfl rfl rfl (i := _) rfl (by omega)) rfl (w_p (zA9 (vs := [_,_]) isAgg137 sizeOf137 hs rfl rfl hxq) rfl (zA0 (cs := [_,_]) zAb zeroValue137 rfl hs (fun j3 j4 gF => ?_))))
    refine zAs (i := 0) (v := .agg #[.int _ _, .func _ _ _]) (vs := [_,_]) zAb sizeOf137 rfl rfl rfl rfl rfl (by simp [Value.oneCell']) gF rfl (zNl rfl) (fun j5 gc => ?_)
    refine zAe (zAd (gE _ _ (zAg (fun j6 gG => (zAc (w_p (zAf (o := 1) (i := 1) underlying137 rfl sizeOf135 rfl rfl rfl) rfl (w_p (zAk isAgg135 gc rfl rfl (zAl (i := 0) (vs := [_]) rfl rfl)) rfl ?_)))))))
    refine w_p (zAf (o := 3) (i := 2) underlying26 rfl sizeOf24 rfl rfl rfl) rfl (w_p (zAk isAgg24 gc rfl rfl (zAl (i := 2) (vs := [_]) rfl rfl)) rfl (zBe rfl rfl (zEc zAb rfl rfl rfl rfl (flaw_con a c p.farms hl3 hc ha.cons.cons.cons i hi2 (hnm _ (List.getElem_mem hi2)) j hj2 gc) ?_)))
    rintro _ j7 ⟨rfl, gf⟩
    refine zAe (zAd (gG _ _ (zA1 rfl rfl (fun ga => ?_) (fun ga => ?_))))
    ·
     try simp only [zS] at ga
     refine zAg (fun j8 gH => (zCe [] [(0,0),(1,0),(2,1),(3,0),(4,0),(5,0)] zB0 (by kernel_rfl) gf (fun j9 gb => ?_)))
     refine d_w rfl (fun _ => zA6 rfl rfl) rfl ?_
     refine d_w rfl (fun _ => zAf (o := 0) (i := 0) underlying137 rfl sizeOf28 rfl rfl rfl) rfl ?_
     refine zBb rfl zAb rfl gb (fun _ hq => (zAk isAgg28 hq rfl rfl (zAl (i := 0) (vs := [_]) rfl rfl))) ?_
     refine d_w rfl (fun _ => zAo (v := _) rfl rfl) rfl ?_
     refine d_w rfl (fun _ => zA2 rfl rfl) rfl ?_
     refine d_w rfl (fun _ => zA2 rfl rfl) rfl ?_
     refine zBh ?_
     refine zAd (gH _ _ (zA7 (zAy (zAm (zAm (zAy (zAy (zAm (zAm (zAy (zAm (zBa (l := [.tmp 2, .tmp 3, .tmp 4]) (vs := [_,_,_]) rfl ⟨⟨rfl, (rfl : _ = Value.int _ _)⟩, ⟨rfl, (rfl : _ = Value.int _ _)⟩, ⟨rfl, (rfl : _ = Value.int _ _)⟩, trivial⟩ ?_))))))))))))
     try simp only [List.any_cons, List.any_nil, Bool.or_false, Bool.or_eq_false_iff] at g0 g3 g4 g6 g7 g9 ga
     first
       | exact ⟨tup3 (hinv.trans ((zBt hi2 (by rw [zDl _ _ j hj2 (by assumption) hfl]; match j, hj2 with | 0, _ => decide | 1, _ => decide | 2, _ => decide | 3, _ => decide)).trans (by rw [zDl _ _ j hj2 (by assumption) hfl]))), gb.tail.tail.tail⟩
       | exact ⟨tup3 (hinv.trans (zCq (by omega) _)), gb.tail.tail.tail⟩
       | (refine ⟨tup3 ?_, gb.tail.tail.tail⟩; unfold check; rw [if_pos (by simp [g0, g3, g4, g6, g7, g9, ga])]; done)
       | (refine ⟨tup3 ?_, gb.tail.tail.tail⟩; unfold check; rw [if_neg (by simp [g0, g3, g4, g6, g7, g9, ga]), if_pos (by omega)]; done)
       | (refine ⟨tup3 ?_, gb.tail.tail.tail⟩; unfold check; rw [if_neg (by simp [g0, g3, g4, g6, g7, g9, ga]), if_neg (by omega), if_pos (by omega)]; done)
    try simp only [zS] at ga
    refine zAx (zAn (zAd (gD _ _ (zAc (w_p (zBq rfl rfl rfl rfl (by omega) (by omega)) rfl (zBe rfl rfl (zAe (zAd (gA _ _ (nxI (4 - (j + 1)) (by omega) ?_))))))))))
    exact ⟨j + 1, rfl, by omega, rfl, (fun q hq => by rcases Nat.lt_or_ge q j with h | h; exact hfl q h; have hqj : q = j := (by omega); subst hqj; assumption), gf.tail⟩
   try simp only [zS] at g9
   refine zBy (zAq (zAq (zBc (zAn (zAd (gw _ _ (zAc (w_p (zBq rfl rfl rfl rfl (by omega) (by omega)) rfl (zBe rfl rfl (zAe (zAd (gt _ _ (nxI (p.farms.length - (i + 1)) (by omega) ?_)))))))))))))
   have hj4 : j = 4 := by omega
   subst hj4
   exact ⟨i + 1, rfl, by omega, rfl, hinv.trans (zFm hi2 (fErr_fine _ _ hfl)), hs.tail⟩
  try simp only [zS] at g7
  refine zBy (zAq (zAq (zBc (zAd (gq _ _ (zAg (fun ja gI => (zAc (zBj rfl rfl (zBj rfl rfl (zBj rfl rfl (zAe (zAd (gI _ _ (zA7 (zBa (l := [.tmp 2, .tmp 3, .tmp 4]) (vs := [_,_,_]) rfl ⟨⟨rfl, (rfl : _ = Value.int _ _)⟩, ⟨rfl, (rfl : _ = Value.int _ _)⟩, ⟨rfl, (rfl : _ = Value.int _ _)⟩, trivial⟩ ?_))))))))))))))))
  try simp only [List.any_cons, List.any_nil, Bool.or_false, Bool.or_eq_false_iff] at g0 g3 g4 g6 g7
  first
    | exact ⟨tup3 (hinv.trans ((zBt hi2 (by rw [zDl _ _ j hj2 (by assumption) hfl]; match j, hj2 with | 0, _ => decide | 1, _ => decide | 2, _ => decide | 3, _ => decide)).trans (by rw [zDl _ _ j hj2 (by assumption) hfl]))), hs.tail⟩
    | exact ⟨tup3 (hinv.trans (zCq (by omega) _)), hs.tail⟩
    | (refine ⟨tup3 ?_, hs.tail⟩; unfold check; rw [if_pos (by simp [g0, g3, g4, g6, g7])]; done)
    | (refine ⟨tup3 ?_, hs.tail⟩; unfold check; rw [if_neg (by simp [g0, g3, g4, g6, g7]), if_pos (by omega)]; done)
    | (refine ⟨tup3 ?_, hs.tail⟩; unfold check; rw [if_neg (by simp [g0, g3, g4, g6, g7]), if_neg (by omega), if_pos (by omega)]; done)

end Go.Proofs.Cb
set_option maxRecDepth 20000
namespace Go.Proofs.Cb
open Go.Proofs.Tryz
open Go.Rt Go.Rt.Ca
attribute [local irreducible] WL WC Con Yd At Ats Sl Agree DW
theorem zD2 : flatInts Tryz.prog 23 2 = true := by kernel_rfl
theorem c105 {w0 w : World} {F : List (Nat × Obj)} (x : Int) (hs : St w0 w F) :
  Con Tryz.prog 105 [.int .i64 x] w fun v w' => v = .bool false ∧ St w0 w' F := by
  refine zAu (n := 6) func105 rfl rfl (zNl rfl) ?_
  refine zAg (fun K2 g0 => (zAc (zBj rfl rfl (zAe (zAd (g0 _ _ (zAg (fun K4 g3 => (zAc (zBe rfl rfl (zBe rfl rfl (w_p (zCv rfl rfl rfl rfl) rfl ?_))))))))))))
  refine w_p (zAo (v := .bool _) rfl rfl) rfl (zAe (zAd (g3 _ _ (zA7 (zBa (l := [.tmp 2]) (vs := [_]) rfl ⟨⟨rfl, (rfl : _ = Value.bool _)⟩, trivial⟩ ?_)))))
  exact ⟨by simp [retV], hs⟩

def cmpI (a b : Int) : Int := if a < b then -1 else if b < a then 1 else 0
theorem c101 {w0 w : World} {F : List (Nat × Obj)} (a b : Int) (hs : St w0 w F) :
  Con Tryz.prog 101 [.int .i64 a, .int .i64 b] w fun v w' => v = .int .i64 (cmpI a b) ∧ St w0 w' F := by
  refine zAu (n := 20) func101 rfl rfl (zNl rfl) ?_
  refine zAg (fun K2 g5 => (zAc (zBj rfl rfl (zAe (zAd (g5 _ _ (zAg (fun K4 g6 => (zAc (zBe rfl rfl (zAr zAb call105 rfl rfl rfl rfl (c105 _ hs) ?_)))))))))))
  rintro _ w6 ⟨rfl, g7⟩
  refine w_p (zAo (v := .bool _) rfl rfl) rfl (zAe (zAd (g6 _ _ (zAg (fun K9 g8 => (zAc (zBe rfl rfl (zAr zAb call105 rfl rfl rfl rfl (c105 _ g7) ?_))))))))
  rintro _ gk ⟨rfl, g0⟩
  refine w_p (zAo (v := .bool _) rfl rfl) rfl (zAe (zAd (g8 _ _ (zAg (fun gl g9 => (zAg (fun gm ga => (zAc (w_p (zAi (v := .bool _) rfl rfl) rfl ?_)))))))))
  refine zAe (zAd (ga _ _ (zB7 rfl rfl ?_)))
  refine zAx (zAd (g9 _ _ (zAg (fun gn gb => (zAg (fun go gc => (zAc (w_p (zAi (v := .bool _) rfl rfl) rfl (zAe (zAd (gc _ _ (zB7 rfl rfl ?_))))))))))))
  refine zAx (zAd (gb _ _ (zAg (fun gp gd => (zAg (fun gq ge => (zAc (zBe rfl rfl (zBe rfl rfl (w_p (zCl rfl rfl rfl rfl) rfl (zAe (zAd (ge _ _ (zA1 rfl rfl (fun g3 => ?_) (fun g3 => ?_)))))))))))))))
  ·
   try simp only [zS] at g3
   refine zAg (fun gr gf => (zAc (zBj rfl rfl (zAe (zAd (gf _ _ (zA7 (zAm (zBa (l := [.tmp 4]) (vs := [_]) rfl ⟨⟨rfl, (rfl : _ = Value.int _ _)⟩, trivial⟩ ?_)))))))))
   exact ⟨congrArg (Value.int .i64) (by unfold cmpI; (repeat' split) <;> first | rfl | omega), g0⟩
  try simp only [zS] at g3
  refine zAx (zAd (gd _ _ (zAg (fun gt gg => (zAg (fun gu gh => (zAc (zBe rfl rfl (zBe rfl rfl (w_p (zEt rfl rfl rfl rfl) rfl (zAe (zAd (gh _ _ (zA1 rfl rfl (fun g4 => ?_) (fun g4 => ?_)))))))))))))))
  ·
   try simp only [zS] at g4
   refine zAg (fun gv gi => (zAc (zBj rfl rfl (zAe (zAd (gi _ _ (zA7 (zAm (zBa (l := [.tmp 4]) (vs := [_]) rfl ⟨⟨rfl, (rfl : _ = Value.int _ _)⟩, trivial⟩ ?_)))))))))
   exact ⟨congrArg (Value.int .i64) (by unfold cmpI; (repeat' split) <;> first | rfl | omega), g0⟩
  try simp only [zS] at g4
  refine zAx (zAd (gg _ _ (zAg (fun gw gj => (zAc (zBj rfl rfl (zAe (zAd (gj _ _ (zA7 (zBa (l := [.tmp 4]) (vs := [_]) rfl ⟨⟨rfl, (rfl : _ = Value.int _ _)⟩, trivial⟩ ?_)))))))))))
  exact ⟨congrArg (Value.int .i64) (by unfold cmpI; (repeat' split) <;> first | rfl | omega), g0⟩

theorem zEm {a b : List Int} {i : Nat} (h : a.take i = b.take i) (ha : i < a.length) (hb : i < b.length) (hne : ¬ cmpI a[i] b[i] = 0) : decide (cmpI a[i] b[i] < 0) = less a b := by
  have hn : a[i] ≠ b[i] := fun e => hne (by unfold cmpI; rw [e]; simp)
  rw [zDp h ha hb hn]
  unfold cmpI
  rw [Bool.eq_iff_iff]
  simp only [decide_eq_true_eq]
  split
  · simp [*]
  · split <;> simp <;> omega
theorem cmp_zero {a b : Int} (h : cmpI a b = 0) : a = b := by
  unfold cmpI at h
  split at h
  · omega
  · split at h <;> omega
theorem c75 {w0 w : World} {F : List (Nat × Obj)} (aa ab : Option Addr) (a b : List Int) (ca cb : Nat) (hla : a.length ≤ 9223372036854775807) (hlb : b.length ≤ 9223372036854775807) (ha : Sl w0 F aa 1 (a.map fun x => [Value.int .i64 x])) (hb : Sl w0 F ab 1 (b.map fun x => [Value.int .i64 x])) (hs : St w0 w F) :
  Con Tryz.prog 75 [.slice aa a.length ca, .slice ab b.length cb] w fun v w' => (∃ z, v = .int .i64 z ∧ decide (z < 0) = less a b) ∧ St w0 w' F := by
  refine zAu (n := 36) func75 rfl rfl (zNl rfl) ?_
  refine zAg (fun K2 g7 => (zAc (zBj rfl rfl (zAe (zAd (g7 _ _ (zAg (fun K4 g8 => (zAg (fun K6 g9 => (zAc (w_p (zAi (v := .slice _ _ _) rfl rfl) rfl ?_))))))))))))
  refine w_p (zBo underlying35 rfl rfl) rfl (w_p (zAi (v := _) rfl rfl) rfl (zAe (zAd (g9 _ _ (zA8 ?_)))))
  refine zCd [4,5,6,7,8,11,12,13,14,15,16,17,18,19,20,21,22,23,24,25,26,27,28,29,30] [11] (fun k vs w => ∃ i : Nat, vs = [.int .i64 i] ∧ i ≤ a.length ∧ i ≤ b.length ∧ k = a.length - i ∧ a.take i = b.take i ∧ St w0 w F) (a.length) ?_ ?_
  ·
   exact ⟨0, rfl, by omega, by omega, by omega, rfl, hs⟩
  intro k vs μ w9 hI K8 ga
  obtain ⟨i, rfl, hia, hib, rfl, hpre, hs⟩ := hI
  refine zAg (fun gq gb => (zAc (w_p (zCl rfl rfl rfl rfl) rfl (zAe (zAd (gb _ _ (zAg (fun gr gc => (zA1 rfl rfl (fun g3 => ?_) (fun g3 => ?_))))))))))
  ·
   try simp only [zS] at g3
   refine zAx (zAd (gc _ _ (zAg (fun gt gd => (zA8 ?_)))))
   refine zAg (fun gu ge => ?_)
   have hia2 : i < a.length := by omega
   obtain ⟨ba, oa, rfl, hxa⟩ := zDv ha hia2
   refine zAc (zBe rfl rfl (w_p (zBk underlying35 sizeOf3 rfl rfl rfl rfl (i := _) rfl (by omega)) rfl (w_p (zAk isAgg3 hs rfl rfl hxa) rfl (zBs rfl rfl (zBs rfl rfl (zAe (zAd (ge _ _ (zAg (fun gv gf => (zAg (fun gw gg => (zAc (zBe rfl rfl ?_))))))))))))))
   refine w_p (zAi (v := .slice _ _ _) rfl rfl) rfl (w_p (zBo underlying35 rfl rfl) rfl (w_p (zHh rfl rfl rfl rfl) rfl (zAe (zAd (gg _ _ (zA1 rfl rfl (fun g4 => ?_) (fun g4 => ?_)))))))
   ·
    try simp only [zS] at g4
    refine zAg (fun gx gh => (zAc (zBj rfl rfl (zAe (zAd (gh _ _ (zA7 (zAm (zAy (zAm (zAm (zAy (zAm (zBa (l := [.tmp 4]) (vs := [_]) rfl ⟨⟨rfl, (rfl : _ = Value.int _ _)⟩, trivial⟩ ?_))))))))))))))
    first
      | exact ⟨⟨_, rfl, zEm hpre hia2 hib2 (by assumption)⟩, hs⟩
      | exact ⟨⟨_, rfl, by rw [zC8 hpre hia (by omega)]; rfl⟩, hs⟩
      | exact ⟨⟨_, rfl, by rw [zCp hpre (by omega) (by omega)]; rfl⟩, hs⟩
   try simp only [zS] at g4
   refine zAx (zAd (gf _ _ (zAg (fun gy gi => ?_))))
   have hib2 : i < b.length := by omega
   obtain ⟨bb, ob, rfl, hxb⟩ := zDv hb hib2
   refine zAc (w_p (zAi (v := .slice _ _ _) rfl rfl) rfl (zBe rfl rfl (w_p (zBk underlying35 sizeOf3 rfl rfl rfl rfl (i := _) rfl (by omega)) rfl (w_p (zAk isAgg3 hs rfl rfl hxb) rfl (zBs rfl rfl (zAe (zAd (gi _ _ (zAg (fun gz gj => (zAc (zBe rfl rfl ?_))))))))))))
   refine zBe rfl rfl (zAr zAb call101 rfl rfl rfl rfl (c101 _ _ hs) ?_)
   rintro _ gA ⟨rfl, g0⟩
   refine zBs rfl rfl (zAe (zAd (gj _ _ (zAg (fun gB gk => (zAc (zBe rfl rfl (w_p (zCv rfl rfl rfl rfl) rfl (zAe (zAd (gk _ _ (zA1 rfl rfl (fun g5 => ?_) (fun g5 => ?_)))))))))))))
   ·
    try simp only [zS] at g5
    refine zAg (fun gC gl => (zAc (zBe rfl rfl (zBs rfl rfl (zAe (zAd (gl _ _ (zA7 (zAy (zAm (zAm (zAy (zAm (zBa (l := [.tmp 4]) (vs := [_]) rfl ⟨⟨rfl, (rfl : _ = Value.int _ _)⟩, trivial⟩ ?_))))))))))))))
    first
      | exact ⟨⟨_, rfl, zEm hpre hia2 hib2 (by assumption)⟩, g0⟩
      | exact ⟨⟨_, rfl, by rw [zC8 hpre hia (by omega)]; rfl⟩, g0⟩
      | exact ⟨⟨_, rfl, by rw [zCp hpre (by omega) (by omega)]; rfl⟩, g0⟩
   try simp only [zS] at g5
   refine zAx (zAn (zAd (gd _ _ (zAc (w_p (zBq rfl rfl rfl rfl (by omega) (by omega)) rfl (zBe rfl rfl (zAe (zAd (ga _ _ (nxI (a.length - (i + 1)) (by omega) ?_))))))))))
   exact ⟨i + 1, rfl, by omega, by omega, rfl, zFs hpre (by omega) (by omega) (cmp_zero (by assumption)), g0⟩
  try simp only [zS] at g3
  refine zBy (zAq (zAq (zBc (zAd (g8 _ _ (zAg (fun gD gm => (zAg (fun gE gn => (zAc (w_p (zAi (v := .slice _ _ _) rfl rfl) rfl ?_)))))))))))
  refine w_p (zBo underlying35 rfl rfl) rfl (w_p (zAi (v := .slice _ _ _) rfl rfl) rfl (w_p (zBo underlying35 rfl rfl) rfl (w_p (zCl rfl rfl rfl rfl) rfl (zAe (zAd (gn _ _ (zA1 rfl rfl (fun g6 => ?_) (fun g6 => ?_))))))))
  ·
   try simp only [zS] at g6
   refine zAg (fun gF go => (zAc (zBj rfl rfl (zAe (zAd (go _ _ (zA7 (zAm (zBa (l := [.tmp 4]) (vs := [_]) rfl ⟨⟨rfl, (rfl : _ = Value.int _ _)⟩, trivial⟩ ?_)))))))))
   first
     | exact ⟨⟨_, rfl, zEm hpre hia2 hib2 (by assumption)⟩, hs⟩
     | exact ⟨⟨_, rfl, by rw [zC8 hpre hia (by omega)]; rfl⟩, hs⟩
     | exact ⟨⟨_, rfl, by rw [zCp hpre (by omega) (by omega)]; rfl⟩, hs⟩
  try simp only [zS] at g6
  refine zAx (zAd (gm _ _ (zAg (fun gG gp => (zAc (zBj rfl rfl (zAe (zAd (gp _ _ (zA7 (zBa (l := [.tmp 4]) (vs := [_]) rfl ⟨⟨rfl, (rfl : _ = Value.int _ _)⟩, trivial⟩ ?_)))))))))))
  first
    | exact ⟨⟨_, rfl, zEm hpre hia2 hib2 (by assumption)⟩, hs⟩
    | exact ⟨⟨_, rfl, by rw [zC8 hpre hia (by omega)]; rfl⟩, hs⟩
    | exact ⟨⟨_, rfl, by rw [zCp hpre (by omega) (by omega)]; rfl⟩, hs⟩

abbrev sprow (l : List (List Int)) : List (List Value) := l.map iv
theorem sl_spans {w0 : World} {F : List (Nat × Obj)} {a : Option Addr} {l : List (List Int)} {i : Nat} (h : Sl w0 F a 2 (sprow l)) (hi : i < l.length) :
    ∃ b off, a = some ⟨b, off, none⟩ ∧ l[i].length = 2 ∧ Ats w0 F b (off + i * 2) (iv l[i]) := by
  obtain ⟨b, off, ha, hlen, hat⟩ := h.at (i := i) (row := iv l[i]) (by simp [hi])
  exact ⟨b, off, ha, by simpa using hlen, hat⟩
theorem spans_succ {a b : List (List Int)} {i : Nat} (h : a.take i = b.take i) (ha : i < a.length) (hb : i < b.length) (e : a[i] = b[i]) : a.take (i + 1) = b.take (i + 1) := by
  rw [List.take_succ_eq_append_getElem ha, List.take_succ_eq_append_getElem hb, h, e]
theorem spans_differ {a b : List (List Int)} {i : Nat} (ha : i < a.length) (hb : i < b.length) (e : ¬ a[i] = b[i]) : ¬ a = b := by
  rintro rfl; exact e rfl
theorem spans_same {a b : List (List Int)} {i : Nat} (hl : a.length = b.length) (h : a.take i = b.take i) (hi : a.length ≤ i) : a = b := by
  rwa [List.take_of_length_le hi, List.take_of_length_le (by omega)] at h
theorem c23 {w0 w : World} {F : List (Nat × Obj)} (aa ab : Option Addr) (a b : List (List Int)) (ca cb : Nat) (hla : a.length ≤ 9223372036854775807) (hlb : b.length ≤ 9223372036854775807) (ha : Sl w0 F aa 2 (sprow a)) (hb : Sl w0 F ab 2 (sprow b)) (hs : St w0 w F) :
  Con Tryz.prog 23 [.slice aa a.length ca, .slice ab b.length cb] w fun v w' => v = .bool (decide (a = b)) ∧ St w0 w' F := by
  refine zAu (n := 31) func23 rfl rfl (zNl rfl) ?_
  refine zAg (fun K2 g7 => (zAc (zBj rfl rfl (zAe (zAd (g7 _ _ (zAg (fun K4 g8 => (zAc (w_p (zAi (v := .slice _ _ _) rfl rfl) rfl ?_))))))))))
  refine w_p (zBo underlying36 rfl rfl) rfl (w_p (zAi (v := .slice _ _ _) rfl rfl) rfl (w_p (zBo underlying36 rfl rfl) rfl (w_p (zB3 rfl rfl rfl rfl) rfl (w_p (zAo (v := .bool _) rfl rfl) rfl (zAe (zAd (g8 _ _ (zAg (fun K6 g5 => (zAg (fun K8 g9 => (zAc (zBj rfl rfl ?_)))))))))))))
  refine zAe (zAd (g9 _ _ (zA8 ?_)))
  refine zCd [5,6,12,13,14,15,16,17,18,19,20,21,22,23,24,25,26,27,28,29] [5,6] (fun k vs w => ∃ (i : Nat) (s : Bool), vs = [.bool s, .int .i64 i] ∧ i ≤ a.length ∧ k = a.length - i ∧ (s = true → a.length = b.length ∧ a.take i = b.take i) ∧ (s = false → ¬ a = b) ∧ St w0 w F) (a.length) ?_ ?_
  ·
   exact ⟨0, _, rfl, by omega, by omega, (fun h => ⟨(by simp only [decide_eq_true_eq] at h; omega), rfl⟩), (fun h e => by simp only [decide_eq_false_iff_not] at h; rw [e] at h; exact h rfl), hs⟩
  intro k vs μ gf hI gg ga
  obtain ⟨i, s, rfl, hia, rfl, hst, hsf, hs⟩ := hI
  refine zAg (fun gh gb => (zAg (fun gi g6 => (zAc (w_p (zAi (v := .bool _) rfl rfl) rfl (w_p (zAi (v := .bool _) rfl rfl) rfl (zBp (fun g0 => ?_) (fun g0 => ?_))))))))
  ·
   try simp only [zS] at g0
   refine w_y rfl rfl rfl (zA6 rfl rfl) rfl ?_
   refine w_y rfl rfl rfl (zAi (v := .slice _ _ _) rfl rfl) rfl ?_
   refine w_y rfl rfl rfl (zBo underlying36 rfl rfl) rfl ?_
   refine w_y rfl rfl rfl (zCl rfl rfl rfl rfl) rfl ?_
   refine w_p (zAv (v := .bool _) rfl rfl rfl rfl) rfl (zAe (zAd (g6 _ _ (zA1 rfl rfl (fun g3 => ?_) (fun g3 => ?_)))))
   ·
    try simp only [zS] at g3
    refine zAx (zAd (gb _ _ (zAg (fun gj gc => (zA8 ?_)))))
    have hst2 := hst (by assumption)
    have hi2 : i < a.length := by omega
    have hi3 : i < b.length := by omega
    obtain ⟨ba, oa, rfl, hla2, hxa⟩ := sl_spans ha hi2
    obtain ⟨bb, ob, rfl, hlb2, hxb⟩ := sl_spans hb hi3
    refine zCe [] [(0,0),(1,0),(2,0),(3,1),(4,0),(5,0),(6,0),(7,1),(8,0),(9,0)] zB0 (by kernel_rfl) hs (fun gk g4 => ?_)
    refine d_w rfl (fun _ => zAi (v := .slice _ _ _) rfl rfl) rfl ?_
    refine d_w rfl (fun _ => zA6 rfl rfl) rfl ?_
    refine d_w rfl (fun _ => zBk underlying36 sizeOf23 rfl rfl rfl rfl (i := _) rfl (by omega)) rfl ?_
    refine zBb rfl zAb rfl g4 (fun _ hq => (zA9 (vs := iv _) isAgg23 (fun w => by rw [List.length_map, hla2]; exact sizeOf23 w) hq rfl rfl hxa)) ?_
    refine d_w rfl (fun _ => zAi (v := .slice _ _ _) rfl rfl) rfl ?_
    refine d_w rfl (fun _ => zA6 rfl rfl) rfl ?_
    refine d_w rfl (fun _ => zBk underlying36 sizeOf23 rfl rfl rfl rfl (i := _) rfl (by omega)) rfl ?_
    refine zBb rfl zAb rfl g4 (fun _ hq => (zA9 (vs := iv _) isAgg23 (fun w => by rw [List.length_map, hlb2]; exact sizeOf23 w) hq rfl rfl hxb)) ?_
    refine d_w rfl (fun _ => zFe (l := a[i]) (m := b[i]) eqGuardType23 zD2 hla2 hlb2 rfl rfl rfl rfl rfl rfl) rfl ?_
    refine d_w rfl (fun _ => zAo (v := .bool _) rfl rfl) rfl ?_
    refine zBh ?_
    refine zAn (zAd (gc _ _ (zAc (zBe rfl rfl (w_p (zBq rfl rfl rfl rfl (by omega) (by omega)) rfl (zBs rfl rfl (zAe (zAd (ga _ _ (nxI (a.length - (i + 1)) (by omega) ?_))))))))))
    exact ⟨i + 1, _, rfl, by omega, rfl, (fun h => ⟨hst2.1, spans_succ hst2.2 hi2 hi3 (of_decide_eq_true h)⟩), (fun h => spans_differ hi2 hi3 (of_decide_eq_false h)), g4⟩
   try simp only [zS] at g3
   refine zBy (zAq (zAq (zBc (zAd (g5 _ _ (zAg (fun gl gd => (zAc (w_p (zAi (v := .bool _) rfl rfl) rfl (w_p (zAo (v := .bool _) rfl rfl) rfl ?_))))))))))
   refine zAe (zAd (gd _ _ (zA7 (zBa (l := [.tmp 4]) (vs := [_]) rfl ⟨⟨rfl, (rfl : _ = Value.bool _)⟩, trivial⟩ ?_))))
   first
     | (refine ⟨congrArg Value.bool ?_, hs⟩; rw [show s = true from by assumption]; symm; exact decide_eq_true (spans_same (hst (by assumption)).1 (hst (by assumption)).2 (by omega)))
     | (refine ⟨congrArg Value.bool ?_, hs⟩; rw [show s = false from by assumption]; symm; exact decide_eq_false (hsf (by assumption)))
  try simp only [zS] at g0
  refine zAj rfl rfl rfl ?_
  refine zAj rfl rfl rfl ?_
  refine zAj rfl rfl rfl ?_
  refine zAj rfl rfl rfl ?_
  refine w_p (zBg (v := _) rfl rfl rfl rfl) rfl (zAe (zAd (g6 _ _ (zB7 rfl rfl ?_))))
  refine zBy (zAq (zAq (zBc (zAd (g5 _ _ (zAg (fun gm ge => (zAc (w_p (zAi (v := .bool _) rfl rfl) rfl (w_p (zAo (v := .bool _) rfl rfl) rfl ?_))))))))))
  refine zAe (zAd (ge _ _ (zA7 (zBa (l := [.tmp 4]) (vs := [_]) rfl ⟨⟨rfl, (rfl : _ = Value.bool _)⟩, trivial⟩ ?_))))
  first
    | (refine ⟨congrArg Value.bool ?_, hs⟩; rw [show s = true from by assumption]; symm; exact decide_eq_true (spans_same (hst (by assumption)).1 (hst (by assumption)).2 (by omega)))
    | (refine ⟨congrArg Value.bool ?_, hs⟩; rw [show s = false from by assumption]; symm; exact decide_eq_false (hsf (by assumption)))

end Go.Proofs.Cb
set_option maxRecDepth 20000
namespace Go.Proofs.Cb
open Go.Proofs.Tryz
open Go.Rt Go.Rt.Ca
attribute [local irreducible] WL WC Con Yd At Ats Sl Agree DW
theorem Try_CE_fb1  (w : World) : (Instr.buildSlice 24 0 [].toArray).run Tryz.prog w = .ok (.slice (some ⟨w.heap.size, 0, none⟩) 0 0) (w.alloc (Go.Rt.blk 33 [])) := by kernel_rfl
theorem Try_info33 : Tryz.prog.info? 33 = some Tryz.t33 := by kernel_rfl
theorem Try_CE_fb3 (x0 : ByteArray) (w : World) : (Instr.buildSlice 53 1 [(0, .string x0)].toArray).run Tryz.prog w = .ok (.slice (some ⟨w.heap.size, 0, none⟩) 1 1) (w.alloc (Go.Rt.blk 9 [.string x0])) := by kernel_rfl
theorem Try_info9 : Tryz.prog.info? 9 = some Tryz.t9 := by kernel_rfl
theorem rows_one (l : List Farm) : ∀ row ∈ rows l, ∀ u ∈ row, u.oneCell' = true := by
  intro row hr u hu
  obtain ⟨f, _, rfl⟩ := List.mem_map.1 hr
  simp only [Farm.cells, List.mem_cons, List.not_mem_nil, or_false] at hu
  rcases hu with rfl | rfl | rfl | rfl | rfl | rfl <;> rfl
theorem c53 {w0 w : World} {F : List (Nat × Obj)} (a : Option Addr) (c : Nat) (l : List Farm) (hl3 : l.length ≤ 1000000) (hc : l.length ≤ c) (ha : Sl w0 F a 6 (rows l)) (hs : St w0 w F) :
  Con Tryz.prog 53 [.slice a l.length c] w fun v w' => ∃ B', Rt.Own v 33 6 l.length (rows l).flatten B' ∧ St w0 w' (B' ++ F) := by
  refine zAu (n := 8) func53 rfl rfl (zNl rfl) ?_
  refine zAg (fun K2 g5 => (zAc (zBj rfl rfl (zAe (zAd (g5 _ _ (zAg (fun K4 g6 => (zAg (fun K6 g7 => (zAc (w_p (zAi (v := .slice _ _ _) rfl rfl) rfl ?_))))))))))))
  refine w_p (y_sliceNil underlying24 rfl rfl rfl rfl) rfl (zAe (zAd (g7 _ _ (zA1 rfl rfl (fun h7 => ?_) (fun h7 => ?_)))))
  ·
   try simp only [zS] at h7
   refine zAg (fun K9 g8 => (zAc (zBj rfl rfl (zAe (zAd (g8 _ _ (zA7 (zAm (zBa (l := [.tmp 2]) (vs := [_]) rfl ⟨⟨rfl, show _ = (.slice _ _ _ : Value) from rfl⟩, trivial⟩ ?_)))))))))
   have hr := sl_none (L := F) (w0 := w0) (by have : a = none := (by simpa using ‹a.isNone = true›); subst this; exact ha)
   have hl0 : l = [] := by simpa [rows] using hr
   subst hl0
   exact ⟨[], zE1 33 6, hs⟩
  try simp only [zS] at h7
  refine zAx (zAd (g6 _ _ (zAg (fun gc g9 => (zAc (zA3 (ps := []) (pv := []) (cs := []) zAb rfl rfl (fun w => Try_CE_fb1  w) hs (fun gd ge ga => ?_)))))))
  refine w_p (zAi (v := .slice _ _ _) rfl rfl) rfl (zEf (X := ([])) (B := [_]) (rows := rows l) (sz := 6) (bytes := 56) zAb underlying24 Try_info33 rfl rfl rfl rfl rfl rfl rfl rfl rfl ga own_made ha.cons (by simp [rows]) (fun h => by subst h; simp at h7) (rows_one l) (by simp only [maxLen]; omega) (by omega) (fun g3 gf gb g4 g0 => ?_))
  replace g0 := (show St _ _ (gb ++ (F)) from g0)
  refine w_p (zAo (v := g3) rfl rfl) rfl (zAe (zAd (g9 _ _ (zA7 (zBa (l := [.tmp 2]) (vs := [_]) rfl ⟨⟨rfl, show _ = (g3 : Value) from rfl⟩, trivial⟩ ?_)))))
  rw [Nat.zero_add, List.nil_append] at g4
  exact ⟨_, g4, g0⟩

theorem zHs (a b lo hi : Int) : (ends a b lo hi = 7 ∧ (out lo hi a || out lo hi b) = true) ∨ (ends a b lo hi = 2 ∧ (out lo hi a || out lo hi b) = false ∧ b < a) ∨ (ends a b lo hi = 0 ∧ (out lo hi a || out lo hi b) = false ∧ ¬ b < a) := by
  unfold ends
  cases h : (out lo hi a || out lo hi b)
  · by_cases h2 : b < a
    · exact .inr (.inl ⟨by simp [h2], rfl, h2⟩)
    · exact .inr (.inr ⟨by simp [h2], rfl, h2⟩)
  · exact .inl ⟨rfl, rfl⟩
theorem out_iff (lo hi n : Int) : out lo hi n = false ↔ lo ≤ n ∧ n ≤ hi := by unfold out; rw [Bool.or_eq_false_iff]; simp
theorem zGr (p : Port) (h : ¬ (1 ≤ p.hold ∧ p.hold ≤ 200) ∨ ends p.clo p.chi 0 10 = 7) : check p = (1,0,7) := by
  unfold check
  rw [if_pos]
  rw [Bool.or_eq_true]
  rcases h with h | h
  · left
    cases ho : out 1 200 p.hold
    · exact absurd ((out_iff _ _ _).1 ho) h
    · rfl
  · rcases zHs p.clo p.chi 0 10 with ⟨_, h2⟩ | ⟨h1, _⟩ | ⟨h1, _⟩
    · exact .inr h2
    · omega
    · omega
theorem zGq (p : Port) (h : 1 ≤ p.hold ∧ p.hold ≤ 200) (h1 : ends p.clo p.chi 0 10 ≠ 7) (h2 : ends p.clo p.chi 0 10 ≠ 0) : check p = (1,0, ends p.clo p.chi 0 10) := by
  unfold check
  rcases zHs p.clo p.chi 0 10 with ⟨h3, _⟩ | ⟨h3, h4, h5⟩ | ⟨h3, _⟩
  · exact absurd h3 h1
  · rw [(out_iff _ _ _).2 h, h4, h3, if_neg (by simp), if_pos h5]
  · exact absurd h3 h2
theorem chk_go (p : Port) (h : 1 ≤ p.hold ∧ p.hold ≤ 200) (h2 : ends p.clo p.chi 0 10 = 0) : check p = if 3 < p.farms.length then (2,0,3) else farmsErr [] 0 p.farms := by
  unfold check
  rcases zHs p.clo p.chi 0 10 with ⟨h3, _⟩ | ⟨h3, h4, h5⟩ | ⟨h3, h4, h5⟩
  · omega
  · omega
  · rw [(out_iff _ _ _).2 h, h4, if_neg (by simp), if_neg h5]
theorem zGp (p : Port) (h : 1 ≤ p.hold ∧ p.hold ≤ 200) (h2 : ends p.clo p.chi 0 10 = 0) (h3 : 3 < p.farms.length) : check p = (2,0,3) := by rw [chk_go p h h2, if_pos h3]
theorem chk_ok (p : Port) (h : 1 ≤ p.hold ∧ p.hold ≤ 200) (h2 : ends p.clo p.chi 0 10 = 0) (h3 : p.farms.length ≤ 3) : check p = farmsErr [] 0 p.farms := by rw [chk_go p h h2, if_neg (by omega)]
theorem zDc (b : List ByteArray) (f : Farm) : fErr b f = if (if nmOk f.name = false then (6 : Int) else if has b f.name then 5 else 0) = 0 then farmErr f else (if nmOk f.name = false then 6 else if has b f.name then 5 else 0) := by
  unfold fErr
  cases nmOk f.name <;> cases has b f.name <;> simp
theorem names_snoc {l : List Farm} {i : Nat} (hi : i < l.length) : (names (l.take i)).map Value.string ++ [Value.string l[i].name] = (names (l.take (i + 1))).map Value.string := by
  rw [List.take_succ_eq_append_getElem hi]; simp only [names, List.map_append, List.map_cons, List.map_nil]
theorem names_len {l : List Farm} {i : Nat} (hi : i ≤ l.length) : (names (l.take i)).length = i := by simp [names]; omega
theorem c4 {w0 w : World} {F : List (Nat × Obj)} (p : Port) (a : Option Addr) (c : Nat) (hl3 : p.farms.length ≤ 9223372036854775807) (hc : p.farms.length ≤ c) (ha : Sl w0 F a 6 (rows p.farms)) (hnm : ∀ f ∈ p.farms, f.name.size ≤ 9223372036854775807) (hs : St w0 w F) :
  Con Tryz.prog 4 [.agg (p.cells a c).toArray] w fun v w' => v = .tuple #[.int .i64 (check p).1, .int .i64 (check p).2.1, .int .i64 (check p).2.2] ∧ St w0 w' F := by
  refine zAu (n := 63) func4 rfl rfl (zNl rfl) ?_
  refine zAg (fun K2 gl => (zAc (zCj (v := .agg #[.int _ _, .int _ _, .int _ _, .slice _ _ _]) (cs := [_,_,_,_]) zAb rfl rfl rfl hs (fun b3 w4 ge => ?_))))
  refine zBj rfl rfl (zBj rfl rfl (zBj rfl rfl (zAe (zAd (gl _ _ (zAg (fun K7 gm => (zAc (w_p (zAf (o := 1) (i := 1) underlying26 rfl sizeOf23 rfl rfl rfl) rfl ?_)))))))))
  refine w_p (zA9 (vs := [_,_]) isAgg23 sizeOf23 ge rfl rfl (zAl (i := 0) (vs := [_,_]) rfl rfl)) rfl (zAr zAb call12 rfl rfl rfl rfl (c12 _ _ _ _ ge) ?_)
  rintro _ w9 ⟨rfl, gf⟩
  refine zBs rfl rfl (zAe (zAd (gm _ _ (zAg (fun gN gn => (zAg (fun gO gg => (zAc (w_p (zAf (o := 0) (i := 0) underlying26 rfl sizeOf3 rfl rfl rfl) rfl ?_)))))))))
  refine w_p (zAk isAgg3 gf rfl rfl (zAl (i := 0) (vs := [_]) rfl rfl)) rfl (zAr zAb call13 rfl rfl rfl rfl (c13 _ _ _ gf) ?_)
  rintro _ gP ⟨rfl, g0⟩
  refine w_p (zDq rfl rfl) rfl (w_p (zAi (v := .bool _) rfl rfl) rfl (zBp (fun g5 => ?_) (fun g5 => ?_)))
  ·
   try simp only [zS] at g5
   refine zAj rfl rfl rfl ?_
   refine zAj rfl rfl rfl ?_
   refine w_p (zAv (v := _) rfl rfl rfl rfl) rfl (zAe (zAd (gg _ _ (zC0 rfl rfl ?_))))
   refine zAg (fun gQ go => (zAc (zBj rfl rfl (zBj rfl rfl (zBj rfl rfl (zAe (zAd (go _ _ (zA7 (zAm (zBa (l := [.tmp 2, .tmp 3, .tmp 4]) (vs := [_,_,_]) rfl ⟨⟨rfl, (rfl : _ = Value.int _ _)⟩, ⟨rfl, (rfl : _ = Value.int _ _)⟩, ⟨rfl, (rfl : _ = Value.int _ _)⟩, trivial⟩ ?_)))))))))))
   first
     | exact ⟨tup3 (hinv.trans (zCq (by omega) _)), g0.tail.drop⟩
     | exact ⟨tup3 (zGr p (by omega)), g0.tail⟩
     | exact ⟨tup3 (zGq p (by assumption) (by assumption) (by assumption)), g0.tail⟩
     | exact ⟨tup3 (zGp p (by omega) (by omega) (by omega)), g0.tail⟩
     | contradiction
     | (refine ⟨tup3 (hinv.trans ?_), g0.tail.tail.drop⟩; have hE := zDc (names (p.farms.take i)) p.farms[i]; rw [if_neg (by assumption)] at hE; rw [zBt hi2 (by rw [hE]; assumption), hE])
     | (refine ⟨tup3 (hinv.trans ?_), g0.tail.tail.drop⟩; have hE := zDc (names (p.farms.take i)) p.farms[i]; rw [if_pos (by assumption)] at hE; rw [zBt hi2 (by rw [hE]; assumption), hE])
  try simp only [zS] at g5
  refine w_y rfl rfl rfl (zA6 rfl rfl) rfl ?_
  refine w_y rfl rfl rfl (zB3 rfl rfl rfl rfl) rfl ?_
  refine w_p (zBg (v := .bool _) rfl rfl rfl rfl) rfl (zAe (zAd (gg _ _ (zA1 rfl rfl (fun g6 => ?_) (fun g6 => ?_)))))
  ·
   try simp only [zS] at g6
   refine zAg (fun gR gp => (zAc (zBj rfl rfl (zBj rfl rfl (zBj rfl rfl (zAe (zAd (gp _ _ (zA7 (zAm (zBa (l := [.tmp 2, .tmp 3, .tmp 4]) (vs := [_,_,_]) rfl ⟨⟨rfl, (rfl : _ = Value.int _ _)⟩, ⟨rfl, (rfl : _ = Value.int _ _)⟩, ⟨rfl, (rfl : _ = Value.int _ _)⟩, trivial⟩ ?_)))))))))))
   first
     | exact ⟨tup3 (hinv.trans (zCq (by omega) _)), g0.tail.drop⟩
     | exact ⟨tup3 (zGr p (by omega)), g0.tail⟩
     | exact ⟨tup3 (zGq p (by assumption) (by assumption) (by assumption)), g0.tail⟩
     | exact ⟨tup3 (zGp p (by omega) (by omega) (by omega)), g0.tail⟩
     | contradiction
     | (refine ⟨tup3 (hinv.trans ?_), g0.tail.tail.drop⟩; have hE := zDc (names (p.farms.take i)) p.farms[i]; rw [if_neg (by assumption)] at hE; rw [zBt hi2 (by rw [hE]; assumption), hE])
     | (refine ⟨tup3 (hinv.trans ?_), g0.tail.tail.drop⟩; have hE := zDc (names (p.farms.take i)) p.farms[i]; rw [if_pos (by assumption)] at hE; rw [zBt hi2 (by rw [hE]; assumption), hE])
  try simp only [zS] at g6
  refine zAx (zAd (gn _ _ (zAg (fun gS gq => (zAg (fun gT gr => (zAc (zBe rfl rfl (w_p (zCv rfl rfl rfl rfl) rfl (zAe (zAd (gr _ _ (zA1 rfl rfl (fun g7 => ?_) (fun g7 => ?_))))))))))))))
  ·
   try simp only [zS] at g7
   refine zAg (fun gU gt => (zAc (zBe rfl rfl (zBj rfl rfl (zBj rfl rfl (zBs rfl rfl (zAe (zAd (gt _ _ (zA7 (zAm (zBa (l := [.tmp 2, .tmp 3, .tmp 4]) (vs := [_,_,_]) rfl ⟨⟨rfl, (rfl : _ = Value.int _ _)⟩, ⟨rfl, (rfl : _ = Value.int _ _)⟩, ⟨rfl, (rfl : _ = Value.int _ _)⟩, trivial⟩ ?_))))))))))))
   first
     | exact ⟨tup3 (hinv.trans (zCq (by omega) _)), g0.tail.drop⟩
     | exact ⟨tup3 (zGr p (by omega)), g0.tail⟩
     | exact ⟨tup3 (zGq p (by assumption) (by assumption) (by assumption)), g0.tail⟩
     | exact ⟨tup3 (zGp p (by omega) (by omega) (by omega)), g0.tail⟩
     | contradiction
     | (refine ⟨tup3 (hinv.trans ?_), g0.tail.tail.drop⟩; have hE := zDc (names (p.farms.take i)) p.farms[i]; rw [if_neg (by assumption)] at hE; rw [zBt hi2 (by rw [hE]; assumption), hE])
     | (refine ⟨tup3 (hinv.trans ?_), g0.tail.tail.drop⟩; have hE := zDc (names (p.farms.take i)) p.farms[i]; rw [if_pos (by assumption)] at hE; rw [zBt hi2 (by rw [hE]; assumption), hE])
  try simp only [zS] at g7
  refine zAx (zAd (gq _ _ (zAg (fun gV gu => (zAg (fun gW gv => (zAc (w_p (zAf (o := 3) (i := 2) underlying26 rfl sizeOf24 rfl rfl rfl) rfl (w_p (zAk isAgg24 g0 rfl rfl (zAl (i := 0) (vs := [_]) rfl rfl)) rfl ?_)))))))))
  refine w_p (zBo underlying24 rfl rfl) rfl (w_p (zEt rfl rfl rfl rfl) rfl (zAe (zAd (gv _ _ (zA1 rfl rfl (fun g8 => ?_) (fun g8 => ?_))))))
  ·
   try simp only [zS] at g8
   refine zAg (fun gX gw => (zAc (zBj rfl rfl (zBj rfl rfl (zBj rfl rfl (zAe (zAd (gw _ _ (zA7 (zAm (zBa (l := [.tmp 2, .tmp 3, .tmp 4]) (vs := [_,_,_]) rfl ⟨⟨rfl, (rfl : _ = Value.int _ _)⟩, ⟨rfl, (rfl : _ = Value.int _ _)⟩, ⟨rfl, (rfl : _ = Value.int _ _)⟩, trivial⟩ ?_)))))))))))
   first
     | exact ⟨tup3 (hinv.trans (zCq (by omega) _)), g0.tail.drop⟩
     | exact ⟨tup3 (zGr p (by omega)), g0.tail⟩
     | exact ⟨tup3 (zGq p (by assumption) (by assumption) (by assumption)), g0.tail⟩
     | exact ⟨tup3 (zGp p (by omega) (by omega) (by omega)), g0.tail⟩
     | contradiction
     | (refine ⟨tup3 (hinv.trans ?_), g0.tail.tail.drop⟩; have hE := zDc (names (p.farms.take i)) p.farms[i]; rw [if_neg (by assumption)] at hE; rw [zBt hi2 (by rw [hE]; assumption), hE])
     | (refine ⟨tup3 (hinv.trans ?_), g0.tail.tail.drop⟩; have hE := zDc (names (p.farms.take i)) p.farms[i]; rw [if_pos (by assumption)] at hE; rw [zBt hi2 (by rw [hE]; assumption), hE])
  try simp only [zS] at g8
  refine zAx (zAd (gu _ _ (zAg (fun gY gx => (zAc (zBj rfl rfl (zAe (zAd (gx _ _ (zAg (fun gZ gy => (zAg (fun hD gz => (zAc (zBj rfl rfl ?_)))))))))))))))
  refine zAe (zAd (gz _ _ (zA8 ?_)))
  refine zCd [2,3,4,6,7,8,27,28,29,30,31,32,33,34,35,36,37,38,39,40,41,42,43,44,45,46,47,48,49,50,51,52,53,54,55,56,57,58,59,60,61,62] [6,7] (fun k vs w => ∃ (i : Nat) (v : Value) (B : List (Nat × Obj)), vs = [v, .int .i64 i] ∧ i ≤ p.farms.length ∧ k = p.farms.length - i ∧ check p = farmsErr (names (p.farms.take i)) (i : Nat) (p.farms.drop i) ∧ Rt.Own v 9 1 i ((names (p.farms.take i)).map Value.string) B ∧ St w0 w ((b3, blk 26 (p.cells a c)) :: (B ++ F))) (p.farms.length) ?_ ?_
  ·
   exact ⟨0, _, [], rfl, by omega, by omega, (chk_ok p (by omega) (by omega) (by omega)), zE1 9 1, g0⟩
  intro k vs μ hG hI hH gh
  obtain ⟨i, v, B, rfl, hia, rfl, hinv, hown, hs⟩ := hI
  refine zAg (fun hN gA => (zAg (fun hO gB => (zAc (zBe rfl rfl (w_p (zAf (o := 3) (i := 2) underlying26 rfl sizeOf24 rfl rfl rfl) rfl (w_p (zAk isAgg24 hs rfl rfl (zAl (i := 0) (vs := [_]) rfl rfl)) rfl ?_)))))))
  refine w_p (zBo underlying24 rfl rfl) rfl (w_p (zCl rfl rfl rfl rfl) rfl (zAe (zAd (gB _ _ (zA1 rfl rfl (fun g9 => ?_) (fun g9 => ?_))))))
  ·
   try simp only [zS] at g9
   refine zAx (zAd (gA _ _ (zAg (fun hP gi => (zA8 ?_)))))
   refine zAg (fun hX gC => ?_)
   have hi2 : i < p.farms.length := by omega
   have hn2 := names_len hia
   obtain ⟨bx, ox, rfl, hx⟩ := sl_farm ha hi2
   obtain ⟨an, cn, rfl, hsn⟩ := own_sl_map (w0 := w0) hown hn2 F
   have hnl : (names (p.farms.take i)).length ≤ 1000000 := by omega
   refine zAc (w_p (zAf (o := 3) (i := 2) underlying26 rfl sizeOf24 rfl rfl rfl) rfl (w_p (zAk isAgg24 hs rfl rfl (zAl (i := 0) (vs := [_]) rfl rfl)) rfl (zBe rfl rfl (w_p (zBk underlying24 sizeOf33 rfl rfl rfl rfl (i := _) rfl (by omega)) rfl ?_))))
   refine w_p (zAf (o := 0) (i := 0) underlying33 rfl sizeOf9 rfl rfl rfl) rfl (w_p (zAk isAgg9 hs.tail.drop rfl rfl (show Ats _ _ _ _ [_] from Ats.part hx 0 1)) rfl (w_p (zAi (v := .slice _ _ _) rfl rfl) rfl (zAr zAb call14 rfl rfl rfl rfl (c14 _ _ _ _ (hnm _ (List.getElem_mem hi2)) (by omega) hsn.cons hs) ?_)))
   rintro _ hY ⟨rfl, ga⟩
   refine zBs rfl rfl (zAe (zAd (gC _ _ (zAg (fun j0 gD => (zAc (w_p (zAi (v := .slice _ _ _) rfl rfl) rfl (w_p (zAf (o := 3) (i := 2) underlying26 rfl sizeOf24 rfl rfl rfl) rfl ?_))))))))
   refine w_p (zAk isAgg24 ga rfl rfl (zAl (i := 0) (vs := [_]) rfl rfl)) rfl (zBe rfl rfl (w_p (zBk underlying24 sizeOf33 rfl rfl rfl rfl (i := _) rfl (by omega)) rfl (w_p (zAf (o := 0) (i := 0) underlying33 rfl sizeOf9 rfl rfl rfl) rfl ?_)))
   refine w_p (zAk isAgg9 ga.tail.drop rfl rfl (show Ats _ _ _ _ [_] from Ats.part hx 0 1)) rfl (zA3 (ps := [(0, _)]) (pv := [(0, .string _)]) (cs := [_]) zAb rfl rfl (fun w => Try_CE_fb3 _ w) ga (fun j1 j2 gE => ?_))
   refine zEf (X := (_ :: _ :: [])) (B := B) (rows := [[_]]) (sz := 1) (bytes := 16) zAb underlying53 Try_info9 rfl rfl rfl rfl rfl rfl rfl rfl rfl gE hown (zBd (i := 0) rfl (by simp) rfl) rfl (by simp) (by simp [Value.oneCell']) (by simp only [maxLen]; omega) (by omega) (fun gF j3 gG gj g3 => ?_)
   replace g3 := (show St _ _ (_ :: _ :: gG ++ (F)) from g3)
   refine w_p (zAo (v := gF) rfl rfl) rfl (zAe (zAd (gD _ _ (zAg (fun j4 gk => (zAg (fun j5 gH => (zAc (zBe rfl rfl (w_p (zB3 rfl rfl rfl rfl) rfl ?_))))))))))
   refine zAe (zAd (gH _ _ (zA1 rfl rfl (fun gb => ?_) (fun gb => ?_))))
   ·
    try simp only [zS] at gb
    refine zAc (w_p (zAf (o := 3) (i := 2) underlying26 rfl sizeOf24 rfl rfl rfl) rfl (w_p (zAk isAgg24 g3 rfl rfl (zAl (i := 1) (vs := [_]) rfl rfl)) rfl (zBe rfl rfl (w_p (zBk underlying24 sizeOf33 rfl rfl rfl rfl (i := _) rfl (by omega)) rfl ?_))))
    refine w_p (zA9 (vs := [_,_,_,_,_,_]) isAgg33 sizeOf33 g3.tail.tail.drop rfl rfl hx) rfl (zAr zAb call15 rfl rfl rfl rfl (c15 _ g3) ?_)
    rintro _ j6 ⟨rfl, g4⟩
    refine zBs rfl rfl (zAe (zAd (gk _ _ (zAg (fun j7 gI => (zAc (zBe rfl rfl (w_p (zCv rfl rfl rfl rfl) rfl (zAe (zAd (gI _ _ (zA1 rfl rfl (fun gc => ?_) (fun gc => ?_)))))))))))))
    ·
     try simp only [zS] at gc
     refine zAg (fun j8 gJ => (zAc (zBe rfl rfl (zBe rfl rfl (zBj rfl rfl (zBs rfl rfl (zBs rfl rfl (zAe (zAd (gJ _ _ (zA7 (zAy (zAm (zAm (zAy (zAm (zBa (l := [.tmp 2, .tmp 3, .tmp 4]) (vs := [_,_,_]) rfl ⟨⟨rfl, (rfl : _ = Value.int _ _)⟩, ⟨rfl, (rfl : _ = Value.int _ _)⟩, ⟨rfl, (rfl : _ = Value.int _ _)⟩, trivial⟩ ?_)))))))))))))))))
     first
       | exact ⟨tup3 (hinv.trans (zCq (by omega) _)), g4.tail.drop⟩
       | exact ⟨tup3 (zGr p (by omega)), g4.tail⟩
       | exact ⟨tup3 (zGq p (by assumption) (by assumption) (by assumption)), g4.tail⟩
       | exact ⟨tup3 (zGp p (by omega) (by omega) (by omega)), g4.tail⟩
       | contradiction
       | (refine ⟨tup3 (hinv.trans ?_), g4.tail.tail.drop⟩; have hE := zDc (names (p.farms.take i)) p.farms[i]; rw [if_neg (by assumption)] at hE; rw [zBt hi2 (by rw [hE]; assumption), hE])
       | (refine ⟨tup3 (hinv.trans ?_), g4.tail.tail.drop⟩; have hE := zDc (names (p.farms.take i)) p.farms[i]; rw [if_pos (by assumption)] at hE; rw [zBt hi2 (by rw [hE]; assumption), hE])
    try simp only [zS] at gc
    refine zAx (zAn (zAd (gi _ _ (zAc (zBe rfl rfl (w_p (zBq rfl rfl rfl rfl (by omega) (by omega)) rfl (zBs rfl rfl (zAe (zAd (gh _ _ (nxI (p.farms.length - (i + 1)) (by omega) ?_)))))))))))
    first
      | contradiction
      | exact ⟨i + 1, _,_, rfl, by omega, rfl, hinv.trans (zFm hi2 (by rw [zDc]; first | (rw [if_pos (by assumption)]; assumption) | (rw [if_neg (by assumption)]; assumption))), by rw [← names_snoc hi2]; exact gj, g4.tail⟩
   try simp only [zS] at gb
   refine zAx (zAd (gk _ _ (zAg (fun j9 gK => (zAc (zBe rfl rfl (w_p (zCv rfl rfl rfl rfl) rfl (zAe (zAd (gK _ _ (zA1 rfl rfl (fun gd => ?_) (fun gd => ?_))))))))))))
   ·
    try simp only [zS] at gd
    refine zAg (fun ja gL => (zAc (zBe rfl rfl (zBe rfl rfl (zBj rfl rfl (zBs rfl rfl (zBs rfl rfl (zAe (zAd (gL _ _ (zA7 (zAy (zAm (zAm (zAy (zAm (zBa (l := [.tmp 2, .tmp 3, .tmp 4]) (vs := [_,_,_]) rfl ⟨⟨rfl, (rfl : _ = Value.int _ _)⟩, ⟨rfl, (rfl : _ = Value.int _ _)⟩, ⟨rfl, (rfl : _ = Value.int _ _)⟩, trivial⟩ ?_)))))))))))))))))
    first
      | exact ⟨tup3 (hinv.trans (zCq (by omega) _)), g3.tail.drop⟩
      | exact ⟨tup3 (zGr p (by omega)), g3.tail⟩
      | exact ⟨tup3 (zGq p (by assumption) (by assumption) (by assumption)), g3.tail⟩
      | exact ⟨tup3 (zGp p (by omega) (by omega) (by omega)), g3.tail⟩
      | contradiction
      | (refine ⟨tup3 (hinv.trans ?_), g3.tail.tail.drop⟩; have hE := zDc (names (p.farms.take i)) p.farms[i]; rw [if_neg (by assumption)] at hE; rw [zBt hi2 (by rw [hE]; assumption), hE])
      | (refine ⟨tup3 (hinv.trans ?_), g3.tail.tail.drop⟩; have hE := zDc (names (p.farms.take i)) p.farms[i]; rw [if_pos (by assumption)] at hE; rw [zBt hi2 (by rw [hE]; assumption), hE])
   try simp only [zS] at gd
   refine zAx (zAn (zAd (gi _ _ (zAc (zBe rfl rfl (w_p (zBq rfl rfl rfl rfl (by omega) (by omega)) rfl (zBs rfl rfl (zAe (zAd (gh _ _ (nxI (p.farms.length - (i + 1)) (by omega) ?_)))))))))))
   first
     | contradiction
     | exact ⟨i + 1, _,_, rfl, by omega, rfl, hinv.trans (zFm hi2 (by rw [zDc]; first | (rw [if_pos (by assumption)]; assumption) | (rw [if_neg (by assumption)]; assumption))), by rw [← names_snoc hi2]; exact gj, g3.tail⟩
  try simp only [zS] at g9
  refine zBy (zAq (zAq (zBc (zAd (gy _ _ (zAg (fun jb gM => (zAc (zBj rfl rfl (zBj rfl rfl (zBj rfl rfl (zAe (zAd (gM _ _ (zA7 (zBa (l := [.tmp 2, .tmp 3, .tmp 4]) (vs := [_,_,_]) rfl ⟨⟨rfl, (rfl : _ = Value.int _ _)⟩, ⟨rfl, (rfl : _ = Value.int _ _)⟩, ⟨rfl, (rfl : _ = Value.int _ _)⟩, trivial⟩ ?_))))))))))))))))
  first
    | exact ⟨tup3 (hinv.trans (zCq (by omega) _)), hs.tail.drop⟩
    | exact ⟨tup3 (zGr p (by omega)), hs.tail⟩
    | exact ⟨tup3 (zGq p (by assumption) (by assumption) (by assumption)), hs.tail⟩
    | exact ⟨tup3 (zGp p (by omega) (by omega) (by omega)), hs.tail⟩
    | contradiction
    | (refine ⟨tup3 (hinv.trans ?_), hs.tail.tail.drop⟩; have hE := zDc (names (p.farms.take i)) p.farms[i]; rw [if_neg (by assumption)] at hE; rw [zBt hi2 (by rw [hE]; assumption), hE])
    | (refine ⟨tup3 (hinv.trans ?_), hs.tail.tail.drop⟩; have hE := zDc (names (p.farms.take i)) p.farms[i]; rw [if_pos (by assumption)] at hE; rw [zBt hi2 (by rw [hE]; assumption), hE])

end Go.Proofs.Cb
set_option maxRecDepth 20000
namespace Go.Proofs.Cb
open Go.Proofs.Tryz
open Go.Rt Go.Rt.Ca
attribute [local irreducible] WL WC Con Yd At Ats Sl Agree DW
theorem Try_CF_fb3 (x0 : Int) (w : World) : (Instr.buildSlice 35 1 [(0, .int .i64 x0)].toArray).run Tryz.prog w = .ok (.slice (some ⟨w.heap.size, 0, none⟩) 1 1) (w.alloc (Go.Rt.blk 3 [.int .i64 x0])) := by kernel_rfl
theorem fresh_ref {f : Farm} {c day : Int} (hf : f.Ok) (hc : -1 ≤ c) : fresh f c day = (!decide (c = -1) && decide (c + f.notice + f.way ≤ day ∧ day ≤ c + f.notice + f.keep)) := by
  unfold fresh out
  unfold Farm.Ok at hf
  rw [Bool.eq_iff_iff]
  simp
  omega
theorem fresh_pos {f : Farm} {c day : Int} (h : fresh f c day = true) : ¬ c = -1 := by
  unfold fresh at h
  simp at h
  omega
theorem c7 {w0 w : World} {F : List (Nat × Obj)} (f : Farm) (c day : Int) (hf : f.Ok) (hc : -1 ≤ c) (hc2 : c ≤ 100) (hd : -100 ≤ day) (hd2 : day ≤ 100) (hs : St w0 w F) :
  Con Tryz.prog 7 [.agg f.cells.toArray, .int .i64 c, .int .i64 day] w fun v w' => v = .bool (fresh f c day) ∧ St w0 w' F := by
  refine zAu (n := 26) func7 rfl rfl (zNl rfl) ?_
  have hfo := hf
  unfold Farm.Ok at hfo
  refine zAg (fun K2 g5 => (zAc (zCj (v := .agg #[.string _, .int _ _, .int _ _, .int _ _, .int _ _, .int _ _]) (cs := [_,_,_,_,_,_]) zAb rfl rfl rfl hs (fun b3 w4 g0 => ?_))))
  refine zBj rfl rfl (zAe (zAd (g5 _ _ (zAg (fun K7 g6 => (zAc (zBe rfl rfl (w_p (zAf (o := 2) (i := 2) underlying33 rfl sizeOf3 rfl rfl rfl) rfl (w_p (zAk isAgg3 g0 rfl rfl (zAl (i := 0) (vs := [_]) rfl rfl)) rfl ?_)))))))))
  refine w_p (zBq rfl rfl rfl rfl (by omega) (by omega)) rfl (zBs rfl rfl (zAe (zAd (g6 _ _ (zAg (fun K9 g4 => (zAc (zBe rfl rfl (w_p (zCv rfl rfl rfl rfl) rfl ?_)))))))))
  refine w_p (zAi (v := .bool _) rfl rfl) rfl (zBp (fun g3 => ?_) (fun g3 => ?_))
  ·
   try simp only [zS] at g3
   refine w_y rfl rfl rfl (zA6 rfl rfl) rfl ?_
   refine w_y rfl rfl rfl (zA6 rfl rfl) rfl ?_
   refine w_y rfl rfl rfl (zAf (o := 1) (i := 1) underlying33 rfl sizeOf3 rfl rfl rfl) rfl ?_
   refine w_y rfl rfl rfl (zAk isAgg3 g0 rfl rfl (zAl (i := 0) (vs := [_]) rfl rfl)) rfl ?_
   refine w_y rfl rfl rfl (zBq rfl rfl rfl rfl (by omega) (by omega)) rfl ?_
   refine w_y rfl rfl rfl (zA6 rfl rfl) rfl ?_
   refine w_y rfl rfl rfl (zAf (o := 3) (i := 3) underlying33 rfl sizeOf3 rfl rfl rfl) rfl ?_
   refine w_y rfl rfl rfl (zAk isAgg3 g0 rfl rfl (zAl (i := 0) (vs := [_]) rfl rfl)) rfl ?_
   refine w_y rfl rfl rfl (zBq rfl rfl rfl rfl (by omega) (by omega)) rfl ?_
   refine zAr (zAp rfl rfl rfl) call13 rfl rfl rfl rfl (c13 _ _ _ g0) ?_
   rintro _ g8 ⟨rfl, g7⟩
   refine w_p (zAv (v := .bool _) rfl rfl rfl rfl) rfl (w_p (zAo (v := .bool _) rfl rfl) rfl (zAe (zAd (g4 _ _ (zA7 (zBa (l := [.tmp 6]) (vs := [_]) rfl ⟨⟨rfl, (rfl : _ = Value.bool _)⟩, trivial⟩ ?_))))))
   exact ⟨congrArg Value.bool (by rw [fresh_ref hf hc]; simp [g3] <;> omega), g7.tail⟩
  try simp only [zS] at g3
  refine zAj rfl rfl rfl ?_
  refine zAj rfl rfl rfl ?_
  refine zAj rfl rfl rfl ?_
  refine zAj rfl rfl rfl ?_
  refine zAj rfl rfl rfl ?_
  refine zAj rfl rfl rfl ?_
  refine zAj rfl rfl rfl ?_
  refine zAj rfl rfl rfl ?_
  refine zAj rfl rfl rfl ?_
  refine zAj rfl rfl rfl ?_
  refine w_p (zBg (v := _) rfl rfl rfl rfl) rfl (w_p (zAo (v := .bool _) rfl rfl) rfl (zAe (zAd (g4 _ _ (zA7 (zBa (l := [.tmp 6]) (vs := [_]) rfl ⟨⟨rfl, (rfl : _ = Value.bool _)⟩, trivial⟩ ?_))))))
  exact ⟨congrArg Value.bool (by rw [fresh_ref hf hc]; simp [g3] <;> omega), g0.tail⟩

theorem c81 {w0 w : World} {F : List (Nat × Obj)} (p : Port) (a : Option Addr) (c m pb : Nat) (hp : Ats w0 F pb 0 [.int .i64 p.hold, .int .i64 p.clo, .int .i64 p.chi, .slice a p.farms.length c, .map (some m)]) (ha : Sl w0 F a 6 (rows p.farms)) (hok : p.Ok) (i : Nat) (hi : i < p.farms.length) (q day : Int) (hq : -100 ≤ q) (hq2 : q ≤ 100) (hd : -100 ≤ day) (hd2 : day ≤ 100) (hs : St w0 w F) :
  Con Tryz.prog 81 [.pointer (some ⟨pb, 0, none⟩), .int .i64 (i : Int), .int .i64 q, .int .i64 day] w fun v w' => v = .bool (fresh p.farms[i] q day) ∧ St w0 w' F := by
  refine zAu (n := 35) func81 rfl rfl (zNl rfl) ?_
  obtain ⟨bx, ox, rfl, hx⟩ := sl_farm ha hi
  have hfo := hok.farm _ (List.getElem_mem hi)
  unfold Farm.Ok at hfo
  refine zAg (fun K2 g5 => (zAc (zBj rfl rfl (zAe (zAd (g5 _ _ (zAg (fun K4 g6 => (zAc (w_p (zAi (v := .pointer _) rfl rfl) rfl ?_))))))))))
  refine w_p (zBn rfl rfl) rfl (w_p (zAf (o := 0) (i := 0) underlying128 rfl sizeOf26 rfl rfl rfl) rfl (w_p (zAf (o := 3) (i := 2) underlying26 rfl sizeOf24 rfl rfl rfl) rfl (w_p (zAk isAgg24 hs rfl rfl (show Ats _ _ _ _ [_] from Ats.part hp 3 1)) rfl ?_)))
  refine zBe rfl rfl (w_p (zBk underlying24 sizeOf33 rfl rfl rfl rfl (i := _) rfl (by omega)) rfl (w_p (zA9 (vs := [_,_,_,_,_,_]) isAgg33 sizeOf33 hs rfl rfl hx) rfl (zA0 (cs := [_,_,_,_,_,_]) zAb zeroValue33 rfl hs (fun b5 w6 g7 => ?_))))
  refine zAs (i := 0) (v := .agg #[.string _, .int _ _, .int _ _, .int _ _, .int _ _, .int _ _]) (vs := [_,_,_,_,_,_]) zAb sizeOf33 rfl rfl rfl rfl rfl (by simp [Value.oneCell']) g7 rfl (zNl rfl) (fun w8 g3 => ?_)
  refine zAe (zAd (g6 _ _ (zAg (fun ga g4 => (zAc (zBe rfl rfl (w_p (zHh rfl rfl rfl rfl) rfl (w_p (zAi (v := .bool _) rfl rfl) rfl (zBp (fun g0 => ?_) (fun g0 => ?_))))))))))
  ·
   try simp only [zS] at g0
   refine w_y rfl rfl rfl (zAf (o := 1) (i := 1) underlying33 rfl sizeOf3 rfl rfl rfl) rfl ?_
   refine w_y rfl rfl rfl (zAk isAgg3 g3 rfl rfl (zAl (i := 0) (vs := [_]) rfl rfl)) rfl ?_
   refine w_y rfl rfl rfl (zAf (o := 3) (i := 3) underlying33 rfl sizeOf3 rfl rfl rfl) rfl ?_
   refine w_y rfl rfl rfl (zAk isAgg3 g3 rfl rfl (zAl (i := 0) (vs := [_]) rfl rfl)) rfl ?_
   refine w_y rfl rfl rfl (zA6 rfl rfl) rfl ?_
   refine w_y rfl rfl rfl (zA6 rfl rfl) rfl ?_
   refine w_y rfl rfl rfl (zHg rfl rfl rfl rfl (by omega) (by omega)) rfl ?_
   refine w_y rfl rfl rfl (zAf (o := 2) (i := 2) underlying33 rfl sizeOf3 rfl rfl rfl) rfl ?_
   refine w_y rfl rfl rfl (zAk isAgg3 g3 rfl rfl (zAl (i := 0) (vs := [_]) rfl rfl)) rfl ?_
   refine w_y rfl rfl rfl (zHg rfl rfl rfl rfl (by omega) (by omega)) rfl ?_
   refine zA3 (ps := [(0, _)]) (pv := [(0, .int _ _)]) (cs := [_]) (zAp rfl rfl rfl) rfl rfl (fun w => Try_CF_fb3 _ w) g3 (fun gb gc g8 => ?_)
   refine zAr (zAp rfl rfl rfl) call51 rfl rfl rfl rfl (c51 _ _ _ [_] _ (by simp) (zBd (i := 0) (rows := [[_]]) rfl (by simp) rfl) g8) ?_
   rintro _ gd ⟨rfl, g9⟩
   refine w_y rfl rfl rfl (zDq rfl rfl) rfl ?_
   refine w_p (zAv (v := .bool _) rfl rfl rfl rfl) rfl (w_p (zAo (v := .bool _) rfl rfl) rfl (zAe (zAd (g4 _ _ (zA7 (zBa (l := [.tmp 8]) (vs := [_]) rfl ⟨⟨rfl, (rfl : _ = Value.bool _)⟩, trivial⟩ ?_))))))
   try simp only [List.any_cons, List.any_nil, Bool.or_false, Bool.or_eq_false_iff] at g0
   exact ⟨congrArg Value.bool (by unfold fresh; rw [Bool.eq_iff_iff]; simp [g0] <;> omega), g9.tail.tail⟩
  try simp only [zS] at g0
  refine zAj rfl rfl rfl ?_
  refine zAj rfl rfl rfl ?_
  refine zAj rfl rfl rfl ?_
  refine zAj rfl rfl rfl ?_
  refine zAj rfl rfl rfl ?_
  refine zAj rfl rfl rfl ?_
  refine zAj rfl rfl rfl ?_
  refine zAj rfl rfl rfl ?_
  refine zAj rfl rfl rfl ?_
  refine zAj rfl rfl rfl ?_
  refine zAj rfl rfl rfl ?_
  refine zAj rfl rfl rfl ?_
  refine zAj rfl rfl rfl ?_
  refine w_p (zBg (v := _) rfl rfl rfl rfl) rfl (w_p (zAo (v := .bool _) rfl rfl) rfl (zAe (zAd (g4 _ _ (zA7 (zBa (l := [.tmp 8]) (vs := [_]) rfl ⟨⟨rfl, (rfl : _ = Value.bool _)⟩, trivial⟩ ?_))))))
  try simp only [List.any_cons, List.any_nil, Bool.or_false, Bool.or_eq_false_iff] at g0
  exact ⟨congrArg Value.bool (by unfold fresh; rw [Bool.eq_iff_iff]; simp [g0] <;> omega), g3.tail⟩

theorem c73 {w0 w : World} {F : List (Nat × Obj)} (p : Port) (a : Option Addr) (c m pb : Nat) (hp : Ats w0 F pb 0 [.int .i64 p.hold, .int .i64 p.clo, .int .i64 p.chi, .slice a p.farms.length c, .map (some m)]) (ha : Sl w0 F a 6 (rows p.farms)) (hok : p.Ok) (l : List Int) (hlen : l.length = 3) (hl1 : ∀ x ∈ l, -1 ≤ x ∧ x ≤ 10) (day : Int) (hd : -100 ≤ day) (hd2 : day ≤ 100) (hs : St w0 w F) :
  Con Tryz.prog 73 [.pointer (some ⟨pb, 0, none⟩), ia l, .int .i64 day] w fun v w' => v = ia (on p.farms l day).ints ∧ St w0 w' F := by
  refine zAu (n := 59) func73 rfl rfl (zNl rfl) ?_
  have hlen3 := hok.len
  refine zAg (fun K2 ge => (zAc (zDu (l := _) zAb rfl rfl rfl hs (fun b3 w4 gf => ?_))))
  refine zA0 (cs := [_,_,_]) zAb zeroValue91 rfl gf (fun b6 w7 gc => ?_)
  refine zAe (zAd (ge _ _ (w_scope ?_)))
  refine zAg (fun gt gg => (zAc (w_p (zAi (v := .pointer _) rfl rfl) rfl (w_p (zCa (fv := [_]) (cv := []) rfl rfl rfl rfl) rfl (w_p (zAo (v := .func _ _ _) rfl rfl) rfl ?_)))))
  refine zAe (zAd (gg _ _ (zAg (fun gu gh => (w_label ?_)))))
  refine zAd (gh _ _ (zAg (fun gv gi => (zAg (fun gw gj => (zAc (w_p (zAi (v := .pointer _) rfl rfl) rfl (w_p (zBn rfl rfl) rfl (w_p (zAf (o := 0) (i := 0) underlying128 rfl sizeOf26 rfl rfl rfl) rfl ?_)))))))))
  refine w_p (zAf (o := 3) (i := 2) underlying26 rfl sizeOf24 rfl rfl rfl) rfl (w_p (zAk isAgg24 gc.tail.tail rfl rfl (show Ats _ _ _ _ [_] from Ats.part hp 3 1)) rfl (w_p (zBo underlying24 rfl rfl) rfl (w_p (zAi (v := _) rfl rfl) rfl (zAe (zAd (gj _ _ (zA8 ?_)))))))
  refine zCd [8,9,18,19,20,21,22,23,24,25,26,27,28,29,30,31,32,33,34,35,36,37,38,39,40,41,42,43,44,45,46,47,48,49,50,51,52,53,54,55,56,57] [18] (fun k vs w => ∃ (i : Nat) (x : Load), x = onUpto p.farms l day i ∧ vs = [.int .i64 i] ∧ i ≤ p.farms.length ∧ k = p.farms.length - i ∧ St w0 w ((b6, blk 91 [.int .i64 x.least, .int .i64 x.most, .int .i64 x.vain]) :: (b3, blk 85 (iv l)) :: F)) (p.farms.length) ?_ ?_
  ·
   exact ⟨0, ⟨0,0,0⟩, rfl, rfl, by omega, by omega, gc⟩
  intro k vs μ gx hI gy g4
  obtain ⟨i, x, hxx, rfl, hia, rfl, hs⟩ := hI
  refine zAg (fun gz gk => (zAc (w_p (zCl rfl rfl rfl rfl) rfl (zAe (zAd (gk _ _ (zAg (fun gA gl => (zA1 rfl rfl (fun g5 => ?_) (fun g5 => ?_))))))))))
  ·
   try simp only [zS] at g5
   refine zAx (zAd (gl _ _ (zAg (fun gB g6 => (zA8 ?_)))))
   refine zAg (fun gC gm => ?_)
   have hi2 : i < p.farms.length := by omega
   have hi3 : i < l.length := by omega
   obtain ⟨bx, ox, rfl, hx⟩ := sl_farm ha hi2
   have hfo := hok.farm _ (List.getElem_mem hi2)
   have hfo2 := hfo
   unfold Farm.Ok at hfo2
   have hb := zH3 (fs := p.farms) (l := l) day i (by have := hok.len; omega) hok.farm
   rw [← hxx] at hb
   have hgd : l[i] = l.getD i 0 := by simp [List.getD, hi3]
   have hl2 := hl1 (l.getD i 0) (by rw [← hgd]; exact List.getElem_mem hi3)
   refine zAc (zBe rfl rfl (w_p (zBk underlying24 sizeOf33 rfl rfl rfl rfl (i := _) rfl (by omega)) rfl (w_p (zA9 (vs := [_,_,_,_,_,_]) isAgg33 sizeOf33 hs.tail.tail rfl rfl hx) rfl (zA0 (cs := [_,_,_,_,_,_]) zAb zeroValue33 rfl hs (fun gD gE gn => ?_)))))
   refine zBs rfl rfl (zAs (i := 0) (v := .agg #[.string _, .int _ _, .int _ _, .int _ _, .int _ _, .int _ _]) (vs := [_,_,_,_,_,_]) zAb sizeOf33 rfl rfl rfl rfl rfl (by simp [Value.oneCell']) gn rfl (zNl rfl) (fun gF g0 => ?_))
   refine zAe (zAd (gm _ _ (zA8 ?_)))
   refine zAg (fun gG go => (zAc (zBe rfl rfl (w_p (zCb underlying85 sizeOf3 rfl rfl rfl rfl (i := i) (by first | rfl | omega) (by omega)) rfl ?_))))
   refine w_p (zAk isAgg3 g0 rfl rfl (zCy (i := 2) (j := i) rfl (by first | omega | rfl | (simp only [zL] <;> omega)))) rfl ?_
   refine w_p (zB3 rfl rfl rfl rfl) rfl (w_p (zAo (v := .bool _) rfl rfl) rfl (zAe (zAd (go _ _ (zA1 rfl rfl (fun g7 => ?_) (fun g7 => ?_))))))
   ·
    try simp only [zS] at g7
    refine zBy (zFh rfl ?_)
    refine zBc (zAd (g6 _ _ (zAc (w_p (zBq rfl rfl rfl rfl (by omega) (by omega)) rfl (zBe rfl rfl (zAe (zAd (g4 _ _ (nxI (p.farms.length - (i + 1)) (by omega) ?_)))))))))
    first
      | exact ⟨i + 1, ⟨x.least + p.farms[i].lo, x.most + p.farms[i].hi, x.vain⟩, (by rw [zDj day hi2 hi3, ← hxx]; exact (step_fresh (fresh_pos (by assumption)) (by assumption)).symm), rfl, by omega, rfl, g0.tail⟩
      | exact ⟨i + 1, ⟨x.least, x.most, x.vain + p.farms[i].hi⟩, (by rw [zDj day hi2 hi3, ← hxx]; exact (step_vain (by assumption) (by assumption)).symm), rfl, by omega, rfl, g0.tail⟩
      | exact ⟨i + 1, x, (by rw [zDj day hi2 hi3, ← hxx]; exact (zHk (by assumption)).symm), rfl, by omega, rfl, g0.tail⟩
   try simp only [zS] at g7
   refine zAg (fun gH gp => (zAc (w_p (zAi (v := .func _ _ _) rfl rfl) rfl (zBe rfl rfl (zBe rfl rfl (w_p (zCb underlying85 sizeOf3 rfl rfl rfl rfl (i := i) (by first | rfl | omega) (by omega)) rfl ?_))))))
   refine w_p (zAk isAgg3 g0 rfl rfl (zCy (i := 2) (j := i) rfl (by first | omega | rfl | (simp only [zL] <;> omega)))) rfl ?_
   refine zBe rfl rfl (zAr zAb call81 rfl rfl rfl rfl (c81 p _ c m pb hp.cons.cons.cons ha.cons.cons.cons hok i hi2 _ _ (by omega) (by omega) (by omega) (by omega) g0) ?_)
   rintro _ gI ⟨rfl, g3⟩
   refine w_p (zAo (v := .bool _) rfl rfl) rfl (zAe (zAd (gp _ _ (zA1 rfl rfl (fun g8 => ?_) (fun g8 => ?_)))))
   ·
    try simp only [zS] at g8
    refine zAg (fun gJ gq => (zAc (w_p (zAf (o := 0) (i := 0) underlying91 rfl sizeOf3 rfl rfl rfl) rfl (w_p (zAk isAgg3 g3 rfl rfl (zAl (i := 1) (vs := [_]) rfl rfl)) rfl (w_p (zAf (o := 4) (i := 4) underlying33 rfl sizeOf23 rfl rfl rfl) rfl ?_)))))
    refine w_p (zAf (o := 0) (i := 0) underlying23 rfl sizeOf3 rfl rfl rfl) rfl (w_p (zAk isAgg3 g3 rfl rfl (zAl (i := 0) (vs := [_]) rfl rfl)) rfl (w_p (zBq rfl rfl rfl rfl (by omega) (by omega)) rfl ?_))
    refine w_p (zAf (o := 0) (i := 0) underlying91 rfl sizeOf3 rfl rfl rfl) rfl (zAs (i := 1) (v := .int _ _) (vs := [_]) zAb sizeOf3 rfl rfl rfl rfl rfl (by simp [Value.oneCell']) g3 rfl (zNl rfl) (fun gK g9 => ?_))
    refine zAe (zAd (gq _ _ (zAc (w_p (zAf (o := 1) (i := 1) underlying91 rfl sizeOf3 rfl rfl rfl) rfl (w_p (zAk isAgg3 g9 rfl rfl (zAl (i := 1) (vs := [_]) rfl rfl)) rfl ?_)))))
    refine w_p (zAf (o := 4) (i := 4) underlying33 rfl sizeOf23 rfl rfl rfl) rfl (w_p (zAf (o := 1) (i := 1) underlying23 rfl sizeOf3 rfl rfl rfl) rfl (w_p (zAk isAgg3 g9 rfl rfl (zAl (i := 0) (vs := [_]) rfl rfl)) rfl ?_))
    refine w_p (zBq rfl rfl rfl rfl (by omega) (by omega)) rfl (w_p (zAf (o := 1) (i := 1) underlying91 rfl sizeOf3 rfl rfl rfl) rfl (zAs (i := 1) (v := .int _ _) (vs := [_]) zAb sizeOf3 rfl rfl rfl rfl rfl (by simp [Value.oneCell']) g9 rfl (zNl rfl) (fun gL ga => ?_)))
    refine zAe (zAn (zAn (zAd (g6 _ _ (zAc (w_p (zBq rfl rfl rfl rfl (by omega) (by omega)) rfl (zBe rfl rfl (zAe (zAd (g4 _ _ (nxI (p.farms.length - (i + 1)) (by omega) ?_)))))))))))
    first
      | exact ⟨i + 1, ⟨x.least + p.farms[i].lo, x.most + p.farms[i].hi, x.vain⟩, (by rw [zDj day hi2 hi3, ← hxx]; exact (step_fresh (fresh_pos (by assumption)) (by assumption)).symm), rfl, by omega, rfl, ga.tail⟩
      | exact ⟨i + 1, ⟨x.least, x.most, x.vain + p.farms[i].hi⟩, (by rw [zDj day hi2 hi3, ← hxx]; exact (step_vain (by assumption) (by assumption)).symm), rfl, by omega, rfl, ga.tail⟩
      | exact ⟨i + 1, x, (by rw [zDj day hi2 hi3, ← hxx]; exact (zHk (by assumption)).symm), rfl, by omega, rfl, ga.tail⟩
   try simp only [zS] at g8
   refine zAc (w_p (zAf (o := 2) (i := 2) underlying91 rfl sizeOf3 rfl rfl rfl) rfl (w_p (zAk isAgg3 g3 rfl rfl (zAl (i := 1) (vs := [_]) rfl rfl)) rfl (w_p (zAf (o := 4) (i := 4) underlying33 rfl sizeOf23 rfl rfl rfl) rfl ?_)))
   refine w_p (zAf (o := 1) (i := 1) underlying23 rfl sizeOf3 rfl rfl rfl) rfl (w_p (zAk isAgg3 g3 rfl rfl (zAl (i := 0) (vs := [_]) rfl rfl)) rfl (w_p (zBq rfl rfl rfl rfl (by omega) (by omega)) rfl ?_))
   refine w_p (zAf (o := 2) (i := 2) underlying91 rfl sizeOf3 rfl rfl rfl) rfl (zAs (i := 1) (v := .int _ _) (vs := [_]) zAb sizeOf3 rfl rfl rfl rfl rfl (by simp [Value.oneCell']) g3 rfl (zNl rfl) (fun gM gb => ?_))
   refine zAe (zAn (zAn (zAd (g6 _ _ (zAc (w_p (zBq rfl rfl rfl rfl (by omega) (by omega)) rfl (zBe rfl rfl (zAe (zAd (g4 _ _ (nxI (p.farms.length - (i + 1)) (by omega) ?_)))))))))))
   first
     | exact ⟨i + 1, ⟨x.least + p.farms[i].lo, x.most + p.farms[i].hi, x.vain⟩, (by rw [zDj day hi2 hi3, ← hxx]; exact (step_fresh (fresh_pos (by assumption)) (by assumption)).symm), rfl, by omega, rfl, gb.tail⟩
     | exact ⟨i + 1, ⟨x.least, x.most, x.vain + p.farms[i].hi⟩, (by rw [zDj day hi2 hi3, ← hxx]; exact (step_vain (by assumption) (by assumption)).symm), rfl, by omega, rfl, gb.tail⟩
     | exact ⟨i + 1, x, (by rw [zDj day hi2 hi3, ← hxx]; exact (zHk (by assumption)).symm), rfl, by omega, rfl, gb.tail⟩
  try simp only [zS] at g5
  refine zBy (zAq (zAq (zBc (zAd (gi _ _ (zAg (fun gN gr => (zAc (w_p (zA9 (vs := [_,_,_]) isAgg91 sizeOf91 hs rfl rfl (zAl (i := 0) (vs := [_,_,_]) rfl rfl)) rfl ?_)))))))))
  refine zAs (i := 0) (v := .agg #[.int _ _, .int _ _, .int _ _]) (vs := [_,_,_]) zAb sizeOf91 rfl rfl rfl rfl rfl (by simp [Value.oneCell']) hs rfl (zNl rfl) (fun gO gd => ?_)
  refine zAe (zAd (gr _ _ (zA7 (q_ng_ret ?_))))
  refine zBa (l := [.cell 6 91]) (vs := [_]) rfl ⟨⟨rfl, _, rfl, zCo (vs := [_,_,_]) isAgg91 sizeOf91 gd (zAl (i := 0) (vs := [_,_,_]) rfl rfl)⟩, trivial⟩ ?_
  have hfin := onUpto_all (fs := p.farms) (l := l) (i := i) day (by omega)
  exact ⟨by rw [← hfin, ← hxx]; rfl, gd.tail.tail⟩

end Go.Proofs.Cb
set_option maxRecDepth 20000
namespace Go.Proofs.Cb
open Go.Proofs.Tryz
open Go.Rt Go.Rt.Ca
attribute [local irreducible] WL WC Con Yd At Ats Sl Agree DW
theorem Try_flat85 : flatInts Tryz.prog 85 3 = true := by kernel_rfl
theorem Try_CG_fb4 (x0 : Int) (x1 : Int) (x2 : Int) (w : World) : (Instr.buildSlice 88 1 [(0, .agg #[.int .i64 x0, .int .i64 x1, .int .i64 x2])].toArray).run Tryz.prog w = .ok (.slice (some ⟨w.heap.size, 0, none⟩) 1 1) (w.alloc (Go.Rt.blk 91 [.int .i64 x0, .int .i64 x1, .int .i64 x2])) := by kernel_rfl
theorem Try_info91 : Tryz.prog.info? 91 = some Tryz.t91 := by kernel_rfl
abbrev lrows (l : List Load) : List (List Value) := l.map fun x => iv x.ints
def Memo (w0 : World) (p : Port) (m : Nat) (M : List (Nat × Obj)) : Prop := ∃ es ck BL, M = (m, .map es ck) :: BL ∧ ∀ e ∈ es.toList, ∃ l a c, l.length = 3 ∧ e.key = ia l ∧ e.val = .slice a (loads p l).length c ∧ Sl w0 BL a 3 (lrows (loads p l))
theorem zEg (w0 : World) (p : Port) (m : Nat) : Memo w0 p m [(m, .map #[] 0)] := ⟨#[], 0, [], rfl, fun e he => by simp at he⟩
theorem lcells_succ {p : Port} {l : List Int} {i : Nat} (hi : (i : Int) < p.chi - p.clo + 1) : (lrows ((loads p l).take i)).flatten ++ [iv (on p.farms l (p.clo + i)).ints].flatten = (lrows ((loads p l).take (i + 1))).flatten := by
  rw [zFw l hi]; simp [lrows]
theorem c37f {w0 w : World} {F : List (Nat × Obj)} (p : Port) (a : Option Addr) (c m pb : Nat) (hp : Ats w0 F pb 0 [.int .i64 p.hold, .int .i64 p.clo, .int .i64 p.chi, .slice a p.farms.length c, .map (some m)]) (ha : Sl w0 F a 6 (rows p.farms)) (hok : p.Ok) (l : List Int) (hlen : l.length = 3) (hl1 : ∀ x ∈ l, -1 ≤ x ∧ x ≤ 10) (es : Array MapEntry) (ck : Nat) (BL : List (Nat × Obj)) (j : Nat) (av : Option Addr) (nv cv : Nat) (hf : ∀ w, (Instr.findKey 85 (ia l) es.toList).run Tryz.prog w = .ok (some (j, .slice av nv cv)) w) (hs : St w0 w ((m, .map es ck) :: (BL ++ F))) :
  Con Tryz.prog 37 [.pointer (some ⟨pb, 0, none⟩), ia l] w fun v w' => v = .slice av nv cv ∧ St w0 w' ((m, .map es ck) :: (BL ++ F)) := by
  refine zAu (n := 59) func37 rfl rfl (zNl rfl) ?_
  refine zAg (fun K2 g3 => (zAc (zDu (l := _) zAb rfl rfl rfl hs (fun b3 w4 g4 => ?_))))
  refine zBj rfl rfl (zAe (zAd (g3 _ _ (zAg (fun K7 g8 => (zAg (fun K9 g5 => (zCe [] [(0,0),(1,0),(2,0),(3,1),(4,1),(5,1),(6,0),(7,0),(8,0),(9,0),(10,0)] zB0 (by kernel_rfl) g4 (fun g9 g0 => ?_)))))))))
  refine d_w rfl (fun _ => zAi (v := .pointer _) rfl rfl) rfl ?_
  refine d_w rfl (fun _ => zBn rfl rfl) rfl ?_
  refine d_w rfl (fun _ => zAf (o := 4) (i := 1) underlying128 rfl sizeOf126 rfl rfl rfl) rfl ?_
  refine zBb rfl zAb rfl g0 (fun _ hq => (zAk isAgg126 hq.tail.tail.drop rfl rfl (show Ats _ _ _ _ [_] from Ats.part hp 4 1))) ?_
  refine zBb rfl zAb rfl g0 (fun _ hq => (zBz (i := 0) isAgg85 sizeOf85 (by first | omega | rfl | (simp only [zL] <;> omega)) hq rfl rfl rfl)) ?_
  refine zBb rfl zAb rfl g0 (fun _ hq => (y_lookupS (i := 1) (l := l) underlying126 underlying85 (by omega) underlying3 sizeOf3 hq rfl rfl rfl rfl rfl rfl hf)) ?_
  refine d_w rfl (fun _ => zAi (v := .tuple _) rfl rfl) rfl ?_
  refine d_w rfl (fun _ => zAh (v := .slice _ _ _) rfl rfl rfl) rfl ?_
  refine d_w rfl (fun _ => zAh (v := .bool _) rfl rfl rfl) rfl ?_
  refine d_w rfl (fun _ => zAo (v := .slice _ _ _) rfl rfl) rfl ?_
  refine d_w rfl (fun _ => zAo (v := .bool _) rfl rfl) rfl ?_
  refine zBh ?_
  refine zAd (g5 _ _ (zAg (fun ga g6 => (zAc (w_p (zAi (v := .bool _) rfl rfl) rfl (zAe (zAd (g6 _ _ (zC0 rfl rfl ?_)))))))))
  refine zAg (fun gb g7 => (zAc (w_p (zAi (v := .slice _ _ _) rfl rfl) rfl (w_p (zAo (v := .slice _ _ _) rfl rfl) rfl (zAe (zAd (g7 _ _ (zA7 (zAm (zBa (l := [.tmp 4]) (vs := [_]) rfl ⟨⟨rfl, show _ = (.slice _ _ _ : Value) from rfl⟩, trivial⟩ ?_))))))))))
  exact ⟨rfl, g0.tail⟩

theorem c37n {w0 w : World} {F : List (Nat × Obj)} (p : Port) (a : Option Addr) (c m pb : Nat) (hp : Ats w0 F pb 0 [.int .i64 p.hold, .int .i64 p.clo, .int .i64 p.chi, .slice a p.farms.length c, .map (some m)]) (ha : Sl w0 F a 6 (rows p.farms)) (hok : p.Ok) (l : List Int) (hlen : l.length = 3) (hl1 : ∀ x ∈ l, -1 ≤ x ∧ x ≤ 10) (es : Array MapEntry) (ck : Nat) (BL : List (Nat × Obj)) (hf : ∀ w, (Instr.findKey 85 (ia l) es.toList).run Tryz.prog w = .ok none w) (hs : St w0 w ((m, .map es ck) :: (BL ++ F))) :
  Con Tryz.prog 37 [.pointer (some ⟨pb, 0, none⟩), ia l] w fun v w' => ∃ B a c, v = .slice a (loads p l).length c ∧ Sl w0 B a 3 (lrows (loads p l)) ∧ St w0 w' ((m, .map (es.push { key := ia l, val := v, born := ck }) (ck + 1)) :: (B ++ (BL ++ F))) := by
  refine zAu (n := 59) func37 rfl rfl (zNl rfl) ?_
  have hcome := hok.come
  refine zAg (fun K2 ga => (zAc (zDu (l := _) zAb rfl rfl rfl hs (fun b3 w4 gb => ?_))))
  refine zBj rfl rfl (zAe (zAd (ga _ _ (zAg (fun K7 gc => (zAg (fun K9 gd => (zCe [] [(0,0),(1,0),(2,0),(3,1),(4,1),(5,1),(6,0),(7,0),(8,0),(9,0),(10,0)] zB0 (by kernel_rfl) gb (fun gu g0 => ?_)))))))))
  refine d_w rfl (fun _ => zAi (v := .pointer _) rfl rfl) rfl ?_
  refine d_w rfl (fun _ => zBn rfl rfl) rfl ?_
  refine d_w rfl (fun _ => zAf (o := 4) (i := 1) underlying128 rfl sizeOf126 rfl rfl rfl) rfl ?_
  refine zBb rfl zAb rfl g0 (fun _ hq => (zAk isAgg126 hq.tail.tail.drop rfl rfl (show Ats _ _ _ _ [_] from Ats.part hp 4 1))) ?_
  refine zBb rfl zAb rfl g0 (fun _ hq => (zBz (i := 0) isAgg85 sizeOf85 (by first | omega | rfl | (simp only [zL] <;> omega)) hq rfl rfl rfl)) ?_
  refine zBb rfl zAb rfl g0 (fun _ hq => (y_lookupN (i := 1) (l := l) underlying126 underlying85 (by omega) underlying3 sizeOf3 zeroValue88 hq rfl rfl rfl rfl rfl rfl hf)) ?_
  refine d_w rfl (fun _ => zAi (v := .tuple _) rfl rfl) rfl ?_
  refine d_w rfl (fun _ => zAh (v := .slice _ _ _) rfl rfl rfl) rfl ?_
  refine d_w rfl (fun _ => zAh (v := .bool _) rfl rfl rfl) rfl ?_
  refine d_w rfl (fun _ => zAo (v := .slice _ _ _) rfl rfl) rfl ?_
  refine d_w rfl (fun _ => zAo (v := .bool _) rfl rfl) rfl ?_
  refine zBh ?_
  refine zAd (gd _ _ (zAg (fun gv ge => (zAc (w_p (zAi (v := .bool _) rfl rfl) rfl (zAe (zAd (ge _ _ (zB7 rfl rfl ?_)))))))))
  refine zAx (zAd (gc _ _ (zAg (fun gw gf => (zAc (zBj rfl rfl (zAe (zAd (gf _ _ (zAg (fun gx gg => (zAg (fun gy gh => (zCe [] [(0,0),(1,0),(2,0),(3,0),(4,0),(5,1),(6,0),(7,0),(8,0),(9,0),(10,0),(11,1),(12,0),(13,0),(14,0)] zB0 (by kernel_rfl) g0 (fun gz g3 => ?_)))))))))))))))
  refine d_w rfl (fun _ => zAi (v := .pointer _) rfl rfl) rfl ?_
  refine d_w rfl (fun _ => zBn rfl rfl) rfl ?_
  refine d_w rfl (fun _ => zAf (o := 0) (i := 0) underlying128 rfl sizeOf26 rfl rfl rfl) rfl ?_
  refine d_w rfl (fun _ => zAf (o := 1) (i := 1) underlying26 rfl sizeOf23 rfl rfl rfl) rfl ?_
  refine d_w rfl (fun _ => zAf (o := 1) (i := 1) underlying23 rfl sizeOf3 rfl rfl rfl) rfl ?_
  refine zBb rfl zAb rfl g3 (fun _ hq => (zAk isAgg3 hq.tail.tail.drop rfl rfl (show Ats _ _ _ _ [_] from Ats.part hp 2 1))) ?_
  refine d_w rfl (fun _ => zAi (v := .pointer _) rfl rfl) rfl ?_
  refine d_w rfl (fun _ => zBn rfl rfl) rfl ?_
  refine d_w rfl (fun _ => zAf (o := 0) (i := 0) underlying128 rfl sizeOf26 rfl rfl rfl) rfl ?_
  refine d_w rfl (fun _ => zAf (o := 1) (i := 1) underlying26 rfl sizeOf23 rfl rfl rfl) rfl ?_
  refine d_w rfl (fun _ => zAf (o := 0) (i := 0) underlying23 rfl sizeOf3 rfl rfl rfl) rfl ?_
  refine zBb rfl zAb rfl g3 (fun _ hq => (zAk isAgg3 hq.tail.tail.drop rfl rfl (show Ats _ _ _ _ [_] from Ats.part hp 1 1))) ?_
  refine d_w rfl (fun _ => zHg rfl rfl rfl rfl (by omega) (by omega)) rfl ?_
  refine d_w rfl (fun _ => zBq rfl rfl rfl rfl (by omega) (by omega)) rfl ?_
  refine d_w rfl (fun _ => zAi (v := _) rfl rfl) rfl ?_
  refine zBh ?_
  refine zAd (gh _ _ (zA8 ?_))
  refine zCd [7,8,34,35,36,37,38,39,40,41,42,43,44,45,46,47,48,49,50,51] [7,34] (fun k vs w => ∃ (i : Nat) (v : Value) (B : List (Nat × Obj)), vs = [v, .int .i64 i] ∧ (i : Int) ≤ p.chi - p.clo + 1 ∧ k = (p.chi - p.clo + 1 - i).toNat ∧ Rt.Own v 91 3 i (lrows ((loads p l).take i)).flatten B ∧ St w0 w ((b3, blk 85 (iv l)) :: (m, .map es ck) :: (B ++ (BL ++ F)))) ((p.chi - p.clo + 1).toNat) ?_ ?_
  ·
   exact ⟨0, _, [], rfl, by omega, by simp, zE1 91 3, g3⟩
  intro k vs μ gA hI gB gi
  obtain ⟨i, v, B, rfl, hia, rfl, hown, hs⟩ := hI
  refine zAg (fun gC gj => (zAc (w_p (zCl rfl rfl rfl rfl) rfl (zAe (zAd (gj _ _ (zAg (fun gD gk => (zA1 rfl rfl (fun g4 => ?_) (fun g4 => ?_))))))))))
  ·
   try simp only [zS] at g4
   refine zAx (zAd (gk _ _ (zAg (fun gE gl => (zA8 ?_)))))
   refine zAg (fun gF gm => (zAc (zBe rfl rfl (zBs rfl rfl (zAe (zAd (gm _ _ (zCe [13] [(0,0),(1,0),(2,1),(3,0),(4,0),(5,0),(6,0),(7,0),(8,1),(9,0),(10,0),(11,2),(12,2),(13,3),(14,0)] zB0 (by kernel_rfl) hs (fun gG g5 => ?_)))))))))
   refine d_w rfl (fun _ => zAi (v := v) rfl rfl) rfl ?_
   refine d_w rfl (fun _ => zAi (v := .pointer _) rfl rfl) rfl ?_
   refine zBb rfl zAb rfl g5 (fun _ hq => (zBz (i := 0) isAgg85 sizeOf85 (by first | omega | rfl | (simp only [zL] <;> omega)) hq rfl rfl rfl)) ?_
   refine d_w rfl (fun _ => zAi (v := .pointer _) rfl rfl) rfl ?_
   refine d_w rfl (fun _ => zBn rfl rfl) rfl ?_
   refine d_w rfl (fun _ => zAf (o := 0) (i := 0) underlying128 rfl sizeOf26 rfl rfl rfl) rfl ?_
   refine d_w rfl (fun _ => zAf (o := 1) (i := 1) underlying26 rfl sizeOf23 rfl rfl rfl) rfl ?_
   refine d_w rfl (fun _ => zAf (o := 0) (i := 0) underlying23 rfl sizeOf3 rfl rfl rfl) rfl ?_
   refine zBb rfl zAb rfl g5 (fun _ hq => (zAk isAgg3 hq.tail.tail.drop.drop rfl rfl (show Ats _ _ _ _ [_] from Ats.part hp 1 1))) ?_
   refine d_w rfl (fun _ => zA6 rfl rfl) rfl ?_
   refine d_w rfl (fun _ => zBq rfl rfl rfl rfl (by omega) (by omega)) rfl ?_
   refine zBl rfl ?_
   refine zAr zAb call73 rfl rfl rfl rfl (c73 p _ c m pb hp.app.app.cons.cons ha.app.app.cons.cons hok _ (by assumption) (by assumption) _ (by omega) (by omega) g5) ?_
   rintro _ gH ⟨rfl, g8⟩
   refine zAe (qn ⟨g8, ?_⟩)
   refine zBl rfl ?_
   refine zA3 (ps := [(0, _)]) (pv := [(0, .agg #[.int _ _, .int _ _, .int _ _])]) (cs := [_,_,_]) zAb rfl rfl (fun w => Try_CG_fb4 _ _ _ w) g8 (fun gI gJ g9 => ?_)
   refine zAe (qn ⟨g9.tail, ?_⟩)
   refine zBm rfl ?_
   refine zEf (X := (_ :: _ :: _ :: [])) (B := B) (rows := [[_,_,_]]) (sz := 3) (bytes := 24) zAb underlying88 Try_info91 rfl rfl rfl rfl rfl rfl rfl rfl rfl g9 hown (zBd (i := 0) rfl (by simp) rfl) rfl (by simp) (by simp [Value.oneCell']) (by simp only [maxLen]; omega) (by omega) (fun gn gK go gp g6 => ?_)
   replace g6 := (show St _ _ (_ :: _ :: _ :: go ++ (BL ++ (F))) from g6)
   refine zAe (qn ?_)
   refine d_w rfl (fun _ => zAo (v := gn) rfl rfl) rfl ?_
   refine zBh ?_
   refine zAn (zAd (gl _ _ (zAc (w_p (zBq rfl rfl rfl rfl (by omega) (by omega)) rfl (zBe rfl rfl (zAe (zAd (gi _ _ (nxI ((p.chi - p.clo + 1 - (i + 1 : Nat)).toNat) (by omega) ?_)))))))))
   exact ⟨i + 1, _,_, rfl, by omega, rfl, by rw [← lcells_succ (by omega)]; exact gp, g6.tail⟩
  try simp only [zS] at g4
  refine zBy (zAq (zAq (zBc (zAd (gg _ _ (zAg (fun gL gq => (zCe [6] [(0,0),(1,0),(2,0),(3,1),(4,1),(5,0),(6,3)] zB0 (by kernel_rfl) hs (fun gM g7 => ?_)))))))))
  refine d_w rfl (fun _ => zAi (v := .pointer _) rfl rfl) rfl ?_
  refine d_w rfl (fun _ => zBn rfl rfl) rfl ?_
  refine d_w rfl (fun _ => zAf (o := 4) (i := 1) underlying128 rfl sizeOf126 rfl rfl rfl) rfl ?_
  refine zBb rfl zAb rfl g7 (fun _ hq => (zAk isAgg126 hq.tail.tail.drop.drop rfl rfl (show Ats _ _ _ _ [_] from Ats.part hp 4 1))) ?_
  refine zBb rfl zAb rfl g7 (fun _ hq => (zBz (i := 0) isAgg85 sizeOf85 (by first | omega | rfl | (simp only [zL] <;> omega)) hq rfl rfl rfl)) ?_
  refine d_w rfl (fun _ => zAi (v := v) rfl rfl) rfl ?_
  refine zBm rfl ?_
  refine w_mapAdd (i := 1) (l := l) zAb underlying126 underlying85 (by omega) underlying3 sizeOf3 rfl rfl rfl rfl rfl rfl rfl g7 rfl hf (fun gN gr => ?_)
  refine zAe (qn ?_)
  refine zBh ?_
  refine zAd (gq _ _ (zAg (fun gO gt => (zAc (w_p (zAi (v := v) rfl rfl) rfl (w_p (zAo (v := v) rfl rfl) rfl (zAe (zAd (gt _ _ (zA7 (zBa (l := [.tmp 4]) (vs := [_]) rfl ⟨⟨rfl, show _ = (v : Value) from rfl⟩, trivial⟩ ?_)))))))))))
  obtain ⟨aw, cw, rfl, hsl⟩ := hown.sl (w0 := w0) (rows := lrows (loads p l)) (by intro row hr; obtain ⟨x, _, rfl⟩ := List.mem_map.1 hr; rfl) (by rw [List.length_map, zD4]; omega) (by rw [List.take_of_length_le (by rw [zD4]; omega)]) []
  rw [List.append_nil] at hsl
  rw [List.length_map] at *
  exact ⟨B, aw, cw, rfl, hsl, gr.tail⟩

theorem loads_con {w0 w : World} {X M F : List (Nat × Obj)} (p : Port) (a : Option Addr) (c m pb : Nat) (hp : Ats w0 F pb 0 [.int .i64 p.hold, .int .i64 p.clo, .int .i64 p.chi, .slice a p.farms.length c, .map (some m)]) (ha : Sl w0 F a 6 (rows p.farms)) (hok : p.Ok) (l : List Int) (hlen : l.length = 3) (hl1 : ∀ x ∈ l, -1 ≤ x ∧ x ≤ 10) (hM : Memo w0 p m M) (hs : St w0 w (X ++ (M ++ F))) :
    Con Tryz.prog 37 [.pointer (some ⟨pb, 0, none⟩), ia l] w fun v w' => ∃ M' a c, v = .slice a (loads p l).length c ∧ Memo w0 p m M' ∧ Sl w0 (X ++ (M' ++ F)) a 3 (lrows (loads p l)) ∧ St w0 w' (X ++ (M' ++ F)) := by
  obtain ⟨es, ck, BL, rfl, hes⟩ := hM
  have g3 : St w0 w ((m, .map es ck) :: (BL ++ (X ++ F))) := hs.perm (zAa X ((m, .map es ck) :: BL) F)
  rcases run_findKey (P := Tryz.prog) underlying85 (by rw [hlen]; exact Try_flat85) es.toList (fun e he => by obtain ⟨l', _,_, h1, h2, _⟩ := hes e he; exact ⟨l', by omega, h2⟩) with ⟨hf, hne⟩ | ⟨j, e, hf, hmem, hkey⟩
  · refine (c37n p a c m pb (hp.app (L' := X)) (ha.app (L' := X)) hok l hlen hl1 es ck BL hf g3).mono ?_
    rintro v w' ⟨B, av, cv, rfl, hsl, g0⟩
    refine ⟨(m, .map (es.push { key := ia l, val := .slice av (loads p l).length cv, born := ck }) (ck + 1)) :: (B ++ BL), av, cv, rfl, ⟨_, _,_, rfl, fun e he => ?_⟩, ?_, ?_⟩
    · rw [Array.toList_push, List.mem_append] at he
      rcases he with he | he
      · obtain ⟨l', a', c', h1, h2, h3, h4⟩ := hes e he
        exact ⟨l', a', c', h1, h2, h3, h4.app⟩
      · rw [List.mem_singleton] at he
        subst he
        exact ⟨l, av, cv, hlen, rfl, rfl, hsl.mono fun w' h => by have := h.perm List.perm_append_comm; exact this.drop⟩
    · exact hsl.mono fun w' h => by
        have h3 : St w0 w' ((m, .map (es.push { key := ia l, val := .slice av (loads p l).length cv, born := ck }) (ck + 1)) :: (B ++ BL)) := h.drop.front
        exact h3.tail.front
    · have e : ((m, .map (es.push { key := ia l, val := .slice av (loads p l).length cv, born := ck }) (ck + 1)) :: (B ++ (BL ++ (X ++ F))) : List (Nat × Obj)) = ((m, .map (es.push { key := ia l, val := .slice av (loads p l).length cv, born := ck }) (ck + 1)) :: (B ++ BL)) ++ (X ++ F) := by simp
      rw [e] at g0
      exact g0.perm (zAa _ _ _)
  · obtain ⟨l', a', c', h1, h2, h3, h4⟩ := hes e hmem
    have hll : l' = l := ia_inj (h2.symm.trans hkey)
    subst hll
    rw [h3] at hf
    refine (c37f p a c m pb (hp.app (L' := X)) (ha.app (L' := X)) hok l' hlen hl1 es ck BL j a' _ c' hf g3).mono ?_
    rintro v w' ⟨rfl, g0⟩
    have g4 : St w0 w' (X ++ (((m, .map es ck) :: BL) ++ F)) := g0.perm (zAa X ((m, .map es ck) :: BL) F).symm
    refine ⟨_, a', c', rfl, ⟨es, ck, BL, rfl, hes⟩, ?_, g4⟩
    exact h4.mono fun w' h => by
      have h3 : St w0 w' ((m, .map es ck) :: BL) := h.drop.front
      exact h3.tail

end Go.Proofs.Cb
