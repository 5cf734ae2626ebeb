/- Own texts of this claim, joined. No conditions. -/
import Derived.Test.YtjmfdiaafnnlcaaGreatHTopServeda
import Derived.Test.YtjmfdiaafnnlcaaGreatHTopServedb
import Derived.Test.YtjmfdiaafnnlcaaGreatHTopServedc
import Derived.Test.YtjmfdiaafnnlcaaGreatHTopServedd
import Derived.Test.YtjmfdiaafnnlcaaGreatHTopServede
import Derived.Test.YtjmfdiaafnnlcaaGreatHTopServedf
import Derived.Test.YtjmfdiaafnnlcaaGreatHTopServedg
set_option linter.unusedVariables false
set_option linter.unusedSimpArgs false
set_option maxRecDepth 20000
namespace Go.Proofs.Sb
open Go.Proofs.Tryz
open Go.Rt Go.Rt.Sh
attribute [local irreducible] WL WC Con Yd At Ats Sl Agree DW
theorem Try_SE_fb1 (x0 : Int) (w : World) : (Instr.buildSlice 43 1 [(0, .int .i64 x0)].toArray).run Tryz.prog w = .ok (.slice (some ⟨w.heap.size, 0, none⟩) 1 1) (w.alloc (Go.Rt.blk 3 [.int .i64 x0])) := by kernel_rfl
theorem Try_SE_fb2 (x0 : Option Addr) (l0 c0 : Nat) (x1 : Option Addr) (l1 c1 : Nat) (x2 : Option Addr) (l2 c2 : Nat) (x3 : Option Nat) (w : World) : (Instr.build 147 [(0, .agg #[.slice x0 l0 c0, .slice x1 l1 c1, .slice x2 l2 c2]),(1, .map x3)].toArray).run Tryz.prog w = .ok (.agg #[.slice x0 l0 c0, .slice x1 l1 c1, .slice x2 l2 c2, .map x3]) w := by kernel_rfl
theorem zDb : Tryz.prog.info? 3 = some Tryz.t3 := by kernel_rfl
def Memo (m : Market) (mm : Nat) (M : List (Nat × Obj)) : Prop := ∃ es ck, M = [(mm, .map es ck)] ∧ ∀ e ∈ es.toList, ∃ x, x.length = 8 ∧ e.key = ia x ∧ e.val = ia (lacksV m x)
theorem zHa (m : Market) (mm : Nat) : Memo m mm [(mm, .map #[] 0)] := ⟨#[], 0, rfl, fun e he => by simp at he⟩
structure MK (w0 : World) (F : List (Nat × Obj)) (m : Market) (p : At3) (mb mm : Nat) : Prop where
  i : MIn w0 F m p
  b : Ats w0 F mb 0 [.slice p.ar m.rooms.length p.cr, .slice p.az m.shops.length p.cs, .slice p.at_ m.trains.length p.ct, .map (some mm)]
  ok : m.Ok
theorem MK.mono {w0 : World} {F F' : List (Nat × Obj)} {m : Market} {p : At3} {mb mm : Nat} (h : MK w0 F m p mb mm) (hs : ∀ w, St w0 w F' → St w0 w F) : MK w0 F' m p mb mm := ⟨h.i.mono hs, h.b.mono hs, h.ok⟩
theorem MK.cons {w0 : World} {F : List (Nat × Obj)} {x : Nat × Obj} {m : Market} {p : At3} {mb mm : Nat} (h : MK w0 F m p mb mm) : MK w0 (x :: F) m p mb mm := h.mono fun _ h => h.tail
theorem MK.app {w0 : World} {F B : List (Nat × Obj)} {m : Market} {p : At3} {mb mm : Nat} (h : MK w0 F m p mb mm) : MK w0 (B ++ F) m p mb mm := h.mono fun _ h => h.drop
theorem two_of_four {w0 w : World} {F : List (Nat × Obj)} {a b c : Nat × Obj} (h : St w0 w (a :: b :: c :: F)) : St w0 w (a :: b :: F) := (h.perm (zBc [a, b] [c] F)).tail
-- _root_.Go.Rt.Sl.top
theorem zHh {w0 w : World} {M F : List (Nat × Obj)} {b c : Nat × Obj} (h : St w0 w (M ++ (b :: c :: F))) : St w0 w (M ++ (b :: F)) := by
  have e : M ++ (b :: c :: F) = (M ++ [b]) ++ ([c] ++ F) := by simp
  rw [e] at h
  have h2 := (h.perm (zBc (M ++ [b]) [c] F)).tail
  have e2 : (M ++ [b]) ++ F = M ++ (b :: F) := by simp
  exact e2 ▸ h2
theorem two_front {w0 w : World} {F : List (Nat × Obj)} {a b x : Nat × Obj} (h : St w0 w (a :: b :: x :: F)) : St w0 w (a :: b :: F) := two_of_four h
theorem c67 {w0 w : World} {F : List (Nat × Obj)} (m : Market) (p : At3) (mb mm : Nat) (hk : MK w0 F m p mb mm) (i : Nat) (hi : i < m.trains.length) (hs : St w0 w F) :
  Con Tryz.prog 67 [.pointer (some ⟨mb, 0, none⟩), .int .i64 i] w fun v w' => v = .bool (leaves m m.trains[i]) ∧ St w0 w' F := by
  refine zAt (n := 44) func67 rfl rfl (zNl rfl) ?_
  obtain ⟨ar, cr, as_, cs, at_, ct⟩ := p
  have hb := hk.b
  have ht := hk.ok.train _ (List.getElem_mem hi)
  have hlr := hk.ok.lr
  have hls := hk.ok.ls
  have hlt := hk.ok.lt
  obtain ⟨bt, ot, rfl, hxt⟩ := sl_trows hk.i.t hi
  have hir : m.trains[i].room.toNat < m.rooms.length := by omega
  have his : m.trains[i].shop.toNat < m.shops.length := by omega
  obtain ⟨br, or_, rfl, hxr⟩ := sl_rrows hk.i.r hir
  obtain ⟨bs, os, rfl, hxs⟩ := zKg hk.i.s his
  have hrr := hk.ok.room _ (List.getElem_mem hir)
  have hss := hk.ok.shop _ (List.getElem_mem his)
  refine zAe (fun K2 g7 => (zAa (zA5 rfl rfl (zAd (zAb (g7 _ _ (zAe (fun K4 g8 => (zAa (w_p (zAi (v := .pointer _) rfl rfl) rfl ?_))))))))))
  refine w_p (zBy rfl rfl) rfl (w_p (zAf (o := 0) (i := 0) underlying147 rfl sizeOf31 rfl rfl rfl) rfl (w_p (zAf (o := 2) (i := 2) underlying31 rfl sizeOf29 rfl rfl rfl) rfl (w_p (zAj isAgg29 hs rfl rfl (show Ats _ _ _ _ [_] from Ats.part hb 2 1)) rfl ?_)))
  refine zAz rfl rfl (w_p (zA3 underlying29 sizeOf55 rfl rfl rfl rfl (i := _) rfl (by omega)) rfl (w_p (zA4 (vs := [_,_,_,_]) isAgg55 sizeOf55 hs rfl rfl hxt) rfl (zBf (cs := [_,_,_,_]) zAc zeroValue55 rfl hs (fun b5 w6 g9 => ?_))))
  refine zA6 (i := 0) (v := .agg #[.int _ _, .int _ _, .int _ _, .int _ _]) (vs := [_,_,_,_]) zAc sizeOf55 rfl rfl rfl rfl rfl (by simp [Value.oneCell']) g9 rfl (zNl rfl) (fun w8 ga => ?_)
  refine zAd (zAb (g8 _ _ (zAe (fun gf gb => (zCn [10] [(0,0),(1,0),(2,0),(3,0),(4,1),(5,0),(6,1),(7,0),(8,1),(9,2),(10,3)] zCb (by kernel_rfl) ga (fun gg g3 => ?_))))))
  refine d_w rfl (fun _ => zAi (v := .pointer _) rfl rfl) rfl ?_
  refine d_w rfl (fun _ => zBy rfl rfl) rfl ?_
  refine d_w rfl (fun _ => zAf (o := 0) (i := 0) underlying147 rfl sizeOf31 rfl rfl rfl) rfl ?_
  refine d_w rfl (fun _ => zAf (o := 0) (i := 0) underlying31 rfl sizeOf27 rfl rfl rfl) rfl ?_
  refine zBd rfl zAc rfl g3 (fun _ hq => (zAj isAgg27 hq.tail rfl rfl (show Ats _ _ _ _ [_] from Ats.part hb 0 1))) ?_
  refine d_w rfl (fun _ => zAf (o := 0) (i := 0) underlying55 rfl sizeOf3 rfl rfl rfl) rfl ?_
  refine zBd rfl zAc rfl g3 (fun _ hq => (zAj isAgg3 hq rfl rfl (zAk (i := 0) (vs := [_]) rfl rfl))) ?_
  refine d_w rfl (fun _ => zA3 underlying27 sizeOf50 rfl rfl rfl rfl (i := (m.trains[i]'hi).room.toNat) (by omega) (by omega)) rfl ?_
  refine zBd rfl zAc rfl g3 (fun _ hq => (zA4 (vs := [_,_,_,_,_]) isAgg50 sizeOf50 hq.tail rfl rfl hxr)) ?_
  refine zCq rfl ?_
  refine zBf (cs := [_,_,_,_,_]) zAc zeroValue50 rfl g3 (fun gh gi g4 => ?_)
  refine zAd (qn ⟨g4.tail, ?_⟩)
  refine zDc rfl ?_
  refine zA6 (i := 0) (v := .agg #[.string _, .int _ _, .int _ _, .int _ _, .int _ _]) (vs := [_,_,_,_,_]) zAc sizeOf50 rfl rfl rfl rfl rfl (by simp [Value.oneCell']) g4 rfl (zNl rfl) (fun gj gc => ?_)
  refine zAd (qn ?_)
  refine zCf ?_
  refine zAb (gb _ _ (zAe (fun gk gd => (zCn [] [(0,0),(1,1),(2,0),(3,1),(4,0),(5,0),(6,0),(7,0),(8,1),(9,0),(10,1),(11,0),(12,0),(13,1),(14,0),(15,1),(16,0),(17,2),(18,2),(19,0),(20,0)] zCb (by kernel_rfl) gc (fun gm g0 => ?_)))))
  refine d_w rfl (fun _ => zAf (o := 3) (i := 2) underlying50 rfl sizeOf3 rfl rfl rfl) rfl ?_
  refine zBd rfl zAc rfl g0 (fun _ hq => (zAj isAgg3 hq rfl rfl (zAk (i := 0) (vs := [_]) rfl rfl))) ?_
  refine d_w rfl (fun _ => zAf (o := 4) (i := 3) underlying50 rfl sizeOf3 rfl rfl rfl) rfl ?_
  refine zBd rfl zAc rfl g0 (fun _ hq => (zAj isAgg3 hq rfl rfl (zAk (i := 0) (vs := [_]) rfl rfl))) ?_
  refine d_w rfl (fun _ => zAi (v := .pointer _) rfl rfl) rfl ?_
  refine d_w rfl (fun _ => zBy rfl rfl) rfl ?_
  refine d_w rfl (fun _ => zAf (o := 0) (i := 0) underlying147 rfl sizeOf31 rfl rfl rfl) rfl ?_
  refine d_w rfl (fun _ => zAf (o := 1) (i := 1) underlying31 rfl sizeOf28 rfl rfl rfl) rfl ?_
  refine zBd rfl zAc rfl g0 (fun _ hq => (zAj isAgg28 hq.tail.tail rfl rfl (show Ats _ _ _ _ [_] from Ats.part hb 1 1))) ?_
  refine d_w rfl (fun _ => zAf (o := 1) (i := 1) underlying55 rfl sizeOf3 rfl rfl rfl) rfl ?_
  refine zBd rfl zAc rfl g0 (fun _ hq => (zAj isAgg3 hq rfl rfl (zAk (i := 1) (vs := [_]) rfl rfl))) ?_
  refine d_w rfl (fun _ => zA3 underlying28 sizeOf71 rfl rfl rfl rfl (i := (m.trains[i]'hi).shop.toNat) (by omega) (by omega)) rfl ?_
  refine d_w rfl (fun _ => zAf (o := 1) (i := 1) underlying71 rfl sizeOf3 rfl rfl rfl) rfl ?_
  refine zBd rfl zAc rfl g0 (fun _ hq => (zAj isAgg3 hq.tail.tail rfl rfl (show Ats _ _ _ _ [_] from Ats.part hxs 1 1))) ?_
  refine d_w rfl (fun _ => zAf (o := 2) (i := 2) underlying55 rfl sizeOf3 rfl rfl rfl) rfl ?_
  refine zBd rfl zAc rfl g0 (fun _ hq => (zAj isAgg3 hq rfl rfl (zAk (i := 1) (vs := [_]) rfl rfl))) ?_
  refine d_w rfl (fun _ => zE0 rfl rfl rfl rfl (by omega) (by omega)) rfl ?_
  refine zCq rfl ?_
  refine zBb (ps := [(0, _)]) (pv := [(0, .int _ _)]) (cs := [_]) zAc rfl rfl (fun w => Try_SE_fb1 _ w) g0 (fun gn gq g5 => ?_)
  refine zAd (qn ⟨g5.tail, ?_⟩)
  refine zCq rfl ?_
  refine zAr zAc call81 rfl rfl rfl rfl (c81 _ _ _ [_] _ (by simp) (zBt (i := 0) (rows := [[_]]) rfl (by simp) rfl) g5) ?_
  rintro _ gr ⟨rfl, g6⟩
  refine zAd (qn ⟨g6.tail, ?_⟩)
  refine d_w rfl (fun _ => zDz rfl rfl) rfl ?_
  refine d_w rfl (fun _ => zAo (v := .bool _) rfl rfl) rfl ?_
  refine zCf ?_
  refine zAb (gd _ _ (zAy (zA1 (l := [.tmp 4]) (vs := [_]) rfl ⟨⟨rfl, (rfl : _ = Value.bool _)⟩, trivial⟩ ?_)))
  exact ⟨congrArg Value.bool (by rw [leaves_at hir his]; simp), g6.tail.tail.tail⟩

theorem c72 {w0 w : World} {F : List (Nat × Obj)} (m : Market) (p : At3) (hs : St w0 w F) :
  Con Tryz.prog 72 [.agg (m.cells p).toArray] w fun v w' => ∃ mb mm M, v = .pointer (some ⟨mb, 0, none⟩) ∧ Memo m mm M ∧ St w0 w' (M ++ ((mb, blk 147 [.slice p.ar m.rooms.length p.cr, .slice p.az m.shops.length p.cs, .slice p.at_ m.trains.length p.ct, .map (some mm)]) :: F)) := by
  refine zAt (n := 7) func72 rfl rfl (zNl rfl) ?_
  refine zAe (fun K2 g3 => (zAa (zCa (v := .agg #[.slice _ _ _, .slice _ _ _, .slice _ _ _]) (cs := [_,_,_]) zAc rfl rfl rfl hs (fun b3 w4 g0 => ?_))))
  refine zA5 rfl rfl (zAd (zAb (g3 _ _ (zAe (fun K7 g4 => (zAa (w_p (zA4 (vs := [_,_,_]) isAgg31 sizeOf31 g0 rfl rfl (zAk (i := 0) (vs := [_,_,_]) rfl rfl)) rfl ?_)))))))
  refine w_makeMap zAc g0 (fun b8 w9 g5 => ?_)
  refine w_p (zBv (ps := [(0, _),(1, _)]) (pv := [(0, .agg #[.slice _ _ _, .slice _ _ _, .slice _ _ _]),(1, .map _)]) rfl rfl (fun w => Try_SE_fb2 _ _ _ _ _ _ _ _ _ _ w)) rfl (zCa (v := .agg #[.slice _ _ _, .slice _ _ _, .slice _ _ _, .map _]) (cs := [_,_,_,_]) zAc rfl rfl rfl g5 (fun g7 g8 g6 => ?_))
  refine w_p (zAo (v := .pointer _) rfl rfl) rfl (zAd (zAb (g4 _ _ (zAy (zA1 (l := [.tmp 2]) (vs := [_]) rfl ⟨⟨rfl, show _ = (.pointer _ : Value) from rfl⟩, trivial⟩ ?_)))))
  exact ⟨_, _,_, rfl, zHa m _, (two_front g6).perm (List.Perm.swap _ _ _)⟩

theorem c45 {w0 w : World} {F : List (Nat × Obj)} (m : Market) (p : At3) (hm : MIn w0 F m p) (n : Int) (hn0 : 0 ≤ n) (hn1 : n ≤ 9223372036854775807) (al : Option Addr) (cl : Nat) (l : List Int) (hll : l.length ≤ 9223372036854775807) (hl : Sl w0 F al 1 (l.map fun x => [Value.int .i64 x]))  (hs : St w0 w F) :
  Con Tryz.prog 45 [.agg (m.cells p).toArray, .int .i64 n, .slice al l.length cl] w fun v w' => (enterE m n l ≠ 0 ∧ v = .tuple #[.pointer none, .int .i64 (enterE m n l)] ∧ St w0 w' F) ∨ (enterE m n l = 0 ∧ ∃ mb mm M, v = .tuple #[.pointer (some ⟨mb, 0, none⟩), .int .i64 0] ∧ Memo m mm M ∧ St w0 w' (M ++ ((mb, blk 147 [.slice p.ar m.rooms.length p.cr, .slice p.az m.shops.length p.cs, .slice p.at_ m.trains.length p.ct, .map (some mm)]) :: F))) := by
  refine zAt (n := 28) func45 rfl rfl (zNl rfl) ?_
  refine zAe (fun K2 g8 => (zAa (zCa (v := .agg #[.slice _ _ _, .slice _ _ _, .slice _ _ _]) (cs := [_,_,_]) zAc rfl rfl rfl hs (fun b3 w4 g7 => ?_))))
  refine zA5 rfl rfl (zA5 rfl rfl (zAd (zAb (g8 _ _ (zAe (fun K7 g9 => (zAa (w_p (zA4 (vs := [_,_,_]) isAgg31 sizeOf31 g7 rfl rfl (zAk (i := 0) (vs := [_,_,_]) rfl rfl)) rfl ?_))))))))
  refine zAr zAc call80 rfl rfl rfl rfl (c80 m _ hm.cons g7) ?_
  rintro _ w9 ⟨rfl, g4⟩
  refine w_p (zAi (v := .tuple _) rfl rfl) rfl (w_p (zAp (v := .int _ _) rfl rfl rfl) rfl (w_p (zAp (v := .int _ _) rfl rfl rfl) rfl (w_p (zAp (v := .int _ _) rfl rfl rfl) rfl (zBe rfl rfl (zBe rfl rfl (zBe rfl rfl ?_))))))
  refine zAd (zAb (g9 _ _ (zAe (fun gh ga => (zAw ?_)))))
  refine zAe (fun gi gb => (zAa (zAz rfl rfl (w_p (zB2 rfl rfl rfl rfl) rfl (w_p (zAo (v := .bool _) rfl rfl) rfl (zAd (zAb (gb _ _ (zAu rfl rfl (fun g5 => ?_) (fun g5 => ?_))))))))))
  ·
   try simp only [zS] at g5
   refine zAe (fun gj gc => (zAa (zAz rfl rfl (zA5 rfl rfl (zBe rfl rfl (zAd (zAb (gc _ _ (zAy (zAv (zAg (zA1 (l := [.tmp 6, .tmp 7]) (vs := [_,_]) rfl ⟨⟨rfl, show _ = (.pointer _ : Value) from rfl⟩, ⟨rfl, (rfl : _ = Value.int _ _)⟩, trivial⟩ ?_))))))))))))
   first
     | exact .inl ⟨by rw [zDx (by assumption)]; assumption, by rw [zDx (by assumption)]; rfl, g4.tail⟩
     | exact .inl ⟨by rw [zDw (by assumption) (by assumption)]; decide, by rw [zDw (by assumption) (by assumption)]; rfl, g4.tail⟩
     | exact .inr ⟨zFs (by assumption) (by assumption), mb, mm, M, rfl, hM, zHh g4⟩
  try simp only [zS] at g5
  refine zAe (fun gk gd => (zAa (zAz rfl rfl (w_p (zE0 rfl rfl rfl rfl (by omega) (by omega)) rfl (w_p (zAi (v := .slice _ _ _) rfl rfl) rfl (zAr zAc call81 rfl rfl rfl rfl (c81 _ _ _ _ _ (by omega) hl.cons g4) ?_))))))
  rintro _ gm ⟨rfl, g0⟩
  refine w_p (zAo (v := .bool _) rfl rfl) rfl (zAd (zAb (gd _ _ (zAu rfl rfl (fun g6 => ?_) (fun g6 => ?_)))))
  ·
   try simp only [zS] at g6
   refine zAe (fun gn gf => (zAa (zA5 rfl rfl (zA5 rfl rfl (zAd (zAb (gf _ _ (zAy (zAv (zAg (zA1 (l := [.tmp 6, .tmp 7]) (vs := [_,_]) rfl ⟨⟨rfl, show _ = (.pointer _ : Value) from rfl⟩, ⟨rfl, (rfl : _ = Value.int _ _)⟩, trivial⟩ ?_)))))))))))
   first
     | exact .inl ⟨by rw [zDx (by assumption)]; assumption, by rw [zDx (by assumption)]; rfl, g0.tail⟩
     | exact .inl ⟨by rw [zDw (by assumption) (by assumption)]; decide, by rw [zDw (by assumption) (by assumption)]; rfl, g0.tail⟩
     | exact .inr ⟨zFs (by assumption) (by assumption), mb, mm, M, rfl, hM, zHh g0⟩
  try simp only [zS] at g6
  refine zAs (zAl (zAb (ga _ _ (zAe (fun gq gg => (zAa (w_p (zA4 (vs := [_,_,_]) isAgg31 sizeOf31 g0 rfl rfl (zAk (i := 0) (vs := [_,_,_]) rfl rfl)) rfl ?_)))))))
  refine zAr zAc call72 rfl rfl rfl rfl (c72 m p g0) ?_
  rintro _ gr ⟨mb, mm, M, rfl, hM, g3⟩
  replace g3 := (show St _ _ (M ++ (_ :: _ :: F)) from g3)
  refine w_p (zAo (v := .pointer _) rfl rfl) rfl (zA5 rfl rfl (zAd (zAb (gg _ _ (zAy (zA1 (l := [.tmp 6, .tmp 7]) (vs := [_,_]) rfl ⟨⟨rfl, show _ = (.pointer _ : Value) from rfl⟩, ⟨rfl, (rfl : _ = Value.int _ _)⟩, trivial⟩ ?_))))))
  first
    | exact .inl ⟨by rw [zDx (by assumption)]; assumption, by rw [zDx (by assumption)]; rfl, g3.drop.tail.tail⟩
    | exact .inl ⟨by rw [zDw (by assumption) (by assumption)]; decide, by rw [zDw (by assumption) (by assumption)]; rfl, g3.drop.tail.tail⟩
    | exact .inr ⟨zFs (by assumption) (by assumption), mb, mm, M, rfl, hM, zHh g3⟩

theorem c116 {w0 w : World} {F : List (Nat × Obj)} (x : Int) (hs : St w0 w F) :
  Con Tryz.prog 116 [.int .i64 x] w fun v w' => v = .bool false ∧ St w0 w' F := by
  refine zAt (n := 6) func116 rfl rfl (zNl rfl) ?_
  refine zAe (fun K2 g0 => (zAa (zA5 rfl rfl (zAd (zAb (g0 _ _ (zAe (fun K4 g3 => (zAa (zAz rfl rfl (zAz rfl rfl (w_p (zB2 rfl rfl rfl rfl) rfl ?_))))))))))))
  refine w_p (zAo (v := .bool _) rfl rfl) rfl (zAd (zAb (g3 _ _ (zAy (zA1 (l := [.tmp 2]) (vs := [_]) rfl ⟨⟨rfl, (rfl : _ = Value.bool _)⟩, trivial⟩ ?_)))))
  exact ⟨by simp [retV], hs⟩

def cmpI (a b : Int) : Int := if a < b then -1 else if b < a then 1 else 0
theorem c106 {w0 w : World} {F : List (Nat × Obj)} (a b : Int) (hs : St w0 w F) :
  Con Tryz.prog 106 [.int .i64 a, .int .i64 b] w fun v w' => v = .int .i64 (cmpI a b) ∧ St w0 w' F := by
  refine zAt (n := 20) func106 rfl rfl (zNl rfl) ?_
  refine zAe (fun K2 g5 => (zAa (zA5 rfl rfl (zAd (zAb (g5 _ _ (zAe (fun K4 g6 => (zAa (zAz rfl rfl (zAr zAc call116 rfl rfl rfl rfl (c116 _ hs) ?_)))))))))))
  rintro _ w6 ⟨rfl, g7⟩
  refine w_p (zAo (v := .bool _) rfl rfl) rfl (zAd (zAb (g6 _ _ (zAe (fun K9 g8 => (zAa (zAz rfl rfl (zAr zAc call116 rfl rfl rfl rfl (c116 _ g7) ?_))))))))
  rintro _ gm ⟨rfl, g0⟩
  refine w_p (zAo (v := .bool _) rfl rfl) rfl (zAd (zAb (g8 _ _ (zAe (fun gn g9 => (zAe (fun gq ga => (zAa (w_p (zAi (v := .bool _) rfl rfl) rfl ?_)))))))))
  refine zAd (zAb (ga _ _ (zBx rfl rfl ?_)))
  refine zAs (zAb (g9 _ _ (zAe (fun gr gb => (zAe (fun gt gc => (zAa (w_p (zAi (v := .bool _) rfl rfl) rfl (zAd (zAb (gc _ _ (zBx rfl rfl ?_))))))))))))
  refine zAs (zAb (gb _ _ (zAe (fun gu gd => (zAe (fun gv gf => (zAa (zAz rfl rfl (zAz rfl rfl (w_p (zBw rfl rfl rfl rfl) rfl (zAd (zAb (gf _ _ (zAu rfl rfl (fun g3 => ?_) (fun g3 => ?_)))))))))))))))
  ·
   try simp only [zS] at g3
   refine zAe (fun gw gg => (zAa (zA5 rfl rfl (zAd (zAb (gg _ _ (zAy (zAg (zA1 (l := [.tmp 4]) (vs := [_]) rfl ⟨⟨rfl, (rfl : _ = Value.int _ _)⟩, trivial⟩ ?_)))))))))
   exact ⟨congrArg (Value.int .i64) (by unfold cmpI; (repeat' split) <;> first | rfl | omega), g0⟩
  try simp only [zS] at g3
  refine zAs (zAb (gd _ _ (zAe (fun gx gh => (zAe (fun gy gi => (zAa (zAz rfl rfl (zAz rfl rfl (w_p (zD5 rfl rfl rfl rfl) rfl (zAd (zAb (gi _ _ (zAu rfl rfl (fun g4 => ?_) (fun g4 => ?_)))))))))))))))
  ·
   try simp only [zS] at g4
   refine zAe (fun gz gj => (zAa (zA5 rfl rfl (zAd (zAb (gj _ _ (zAy (zAg (zA1 (l := [.tmp 4]) (vs := [_]) rfl ⟨⟨rfl, (rfl : _ = Value.int _ _)⟩, trivial⟩ ?_)))))))))
   exact ⟨congrArg (Value.int .i64) (by unfold cmpI; (repeat' split) <;> first | rfl | omega), g0⟩
  try simp only [zS] at g4
  refine zAs (zAb (gh _ _ (zAe (fun gA gk => (zAa (zA5 rfl rfl (zAd (zAb (gk _ _ (zAy (zA1 (l := [.tmp 4]) (vs := [_]) rfl ⟨⟨rfl, (rfl : _ = Value.int _ _)⟩, trivial⟩ ?_)))))))))))
  exact ⟨congrArg (Value.int .i64) (by unfold cmpI; (repeat' split) <;> first | rfl | omega), g0⟩

theorem zE4 {a b : List Int} {i : Nat} (h : a.take i = b.take i) (ha : i < a.length) (hb : i < b.length) (hne : ¬ cmpI a[i] b[i] = 0) : decide (cmpI a[i] b[i] < 0) = less a b := by
  have hn : a[i] ≠ b[i] := fun e => hne (by unfold cmpI; rw [e]; simp)
  rw [zD1 h ha hb hn]
  unfold cmpI
  rw [Bool.eq_iff_iff]
  simp only [decide_eq_true_eq]
  split
  · simp [*]
  · split <;> simp <;> omega
theorem cmp_zero {a b : Int} (h : cmpI a b = 0) : a = b := by
  unfold cmpI at h
  split at h
  · omega
  · split at h <;> omega
theorem c88 {w0 w : World} {F : List (Nat × Obj)} (aa ab : Option Addr) (a b : List Int) (ca cb : Nat) (hla : a.length ≤ 9223372036854775807) (hlb : b.length ≤ 9223372036854775807) (ha : Sl w0 F aa 1 (a.map fun x => [Value.int .i64 x])) (hb : Sl w0 F ab 1 (b.map fun x => [Value.int .i64 x])) (hs : St w0 w F) :
  Con Tryz.prog 88 [.slice aa a.length ca, .slice ab b.length cb] w fun v w' => (∃ z, v = .int .i64 z ∧ decide (z < 0) = less a b) ∧ St w0 w' F := by
  refine zAt (n := 36) func88 rfl rfl (zNl rfl) ?_
  refine zAe (fun K2 g7 => (zAa (zA5 rfl rfl (zAd (zAb (g7 _ _ (zAe (fun K4 g8 => (zAe (fun K6 g9 => (zAa (w_p (zAi (v := .slice _ _ _) rfl rfl) rfl ?_))))))))))))
  refine w_p (zA8 underlying43 rfl rfl) rfl (w_p (zAi (v := _) rfl rfl) rfl (zAd (zAb (g9 _ _ (zAw ?_)))))
  refine zBs [4,5,6,7,8,11,12,13,14,15,16,17,18,19,20,21,22,23,24,25,26,27,28,29,30] [11] (fun k vs w => ∃ i : Nat, vs = [.int .i64 i] ∧ i ≤ a.length ∧ i ≤ b.length ∧ k = a.length - i ∧ a.take i = b.take i ∧ St w0 w F) (a.length) ?_ ?_
  ·
   exact ⟨0, rfl, by omega, by omega, by omega, rfl, hs⟩
  intro k vs μ w9 hI K8 ga
  obtain ⟨i, rfl, hia, hib, rfl, hpre, hs⟩ := hI
  refine zAe (fun gv gb => (zAa (w_p (zBw rfl rfl rfl rfl) rfl (zAd (zAb (gb _ _ (zAe (fun gw gc => (zAu rfl rfl (fun g3 => ?_) (fun g3 => ?_))))))))))
  ·
   try simp only [zS] at g3
   refine zAs (zAb (gc _ _ (zAe (fun gx gd => (zAw ?_)))))
   refine zAe (fun gy gf => ?_)
   have hia2 : i < a.length := by omega
   obtain ⟨ba, oa, rfl, hxa⟩ := zC9 ha hia2
   refine zAa (zAz rfl rfl (w_p (zA3 underlying43 sizeOf3 rfl rfl rfl rfl (i := _) rfl (by omega)) rfl (w_p (zAj isAgg3 hs rfl rfl hxa) rfl (zBe rfl rfl (zBe rfl rfl (zAd (zAb (gf _ _ (zAe (fun gz gg => (zAe (fun gA gh => (zAa (zAz rfl rfl ?_))))))))))))))
   refine w_p (zAi (v := .slice _ _ _) rfl rfl) rfl (w_p (zA8 underlying43 rfl rfl) rfl (w_p (zKa rfl rfl rfl rfl) rfl (zAd (zAb (gh _ _ (zAu rfl rfl (fun g4 => ?_) (fun g4 => ?_)))))))
   ·
    try simp only [zS] at g4
    refine zAe (fun gB gi => (zAa (zA5 rfl rfl (zAd (zAb (gi _ _ (zAy (zAg (zAv (zAg (zAg (zAv (zAg (zA1 (l := [.tmp 4]) (vs := [_]) rfl ⟨⟨rfl, (rfl : _ = Value.int _ _)⟩, trivial⟩ ?_))))))))))))))
    first
      | exact ⟨⟨_, rfl, zE4 hpre hia2 hib2 (by assumption)⟩, hs⟩
      | exact ⟨⟨_, rfl, by rw [zDi hpre hia (by omega)]; rfl⟩, hs⟩
      | exact ⟨⟨_, rfl, by rw [zCj hpre (by omega) (by omega)]; rfl⟩, hs⟩
   try simp only [zS] at g4
   refine zAs (zAb (gg _ _ (zAe (fun gC gj => ?_))))
   have hib2 : i < b.length := by omega
   obtain ⟨bb, ob, rfl, hxb⟩ := zC9 hb hib2
   refine zAa (w_p (zAi (v := .slice _ _ _) rfl rfl) rfl (zAz rfl rfl (w_p (zA3 underlying43 sizeOf3 rfl rfl rfl rfl (i := _) rfl (by omega)) rfl (w_p (zAj isAgg3 hs rfl rfl hxb) rfl (zBe rfl rfl (zAd (zAb (gj _ _ (zAe (fun gE gk => (zAa (zAz rfl rfl ?_))))))))))))
   refine zAz rfl rfl (zAr zAc call106 rfl rfl rfl rfl (c106 _ _ hs) ?_)
   rintro _ gF ⟨rfl, g0⟩
   refine zBe rfl rfl (zAd (zAb (gk _ _ (zAe (fun gG gm => (zAa (zAz rfl rfl (w_p (zB2 rfl rfl rfl rfl) rfl (zAd (zAb (gm _ _ (zAu rfl rfl (fun g5 => ?_) (fun g5 => ?_)))))))))))))
   ·
    try simp only [zS] at g5
    refine zAe (fun gH gn => (zAa (zAz rfl rfl (zBe rfl rfl (zAd (zAb (gn _ _ (zAy (zAv (zAg (zAg (zAv (zAg (zA1 (l := [.tmp 4]) (vs := [_]) rfl ⟨⟨rfl, (rfl : _ = Value.int _ _)⟩, trivial⟩ ?_))))))))))))))
    first
      | exact ⟨⟨_, rfl, zE4 hpre hia2 hib2 (by assumption)⟩, g0⟩
      | exact ⟨⟨_, rfl, by rw [zDi hpre hia (by omega)]; rfl⟩, g0⟩
      | exact ⟨⟨_, rfl, by rw [zCj hpre (by omega) (by omega)]; rfl⟩, g0⟩
   try simp only [zS] at g5
   refine zAs (zAl (zAb (gd _ _ (zAa (w_p (zBg rfl rfl rfl rfl (by omega) (by omega)) rfl (zAz rfl rfl (zAd (zAb (ga _ _ (nxI (a.length - (i + 1)) (by omega) ?_))))))))))
   exact ⟨i + 1, rfl, by omega, by omega, rfl, zGu hpre (by omega) (by omega) (cmp_zero (by assumption)), g0⟩
  try simp only [zS] at g3
  refine zBl (zAm (zAm (zA0 (zAb (g8 _ _ (zAe (fun gI gq => (zAe (fun gJ gr => (zAa (w_p (zAi (v := .slice _ _ _) rfl rfl) rfl ?_)))))))))))
  refine w_p (zA8 underlying43 rfl rfl) rfl (w_p (zAi (v := .slice _ _ _) rfl rfl) rfl (w_p (zA8 underlying43 rfl rfl) rfl (w_p (zBw rfl rfl rfl rfl) rfl (zAd (zAb (gr _ _ (zAu rfl rfl (fun g6 => ?_) (fun g6 => ?_))))))))
  ·
   try simp only [zS] at g6
   refine zAe (fun gK gt => (zAa (zA5 rfl rfl (zAd (zAb (gt _ _ (zAy (zAg (zA1 (l := [.tmp 4]) (vs := [_]) rfl ⟨⟨rfl, (rfl : _ = Value.int _ _)⟩, trivial⟩ ?_)))))))))
   first
     | exact ⟨⟨_, rfl, zE4 hpre hia2 hib2 (by assumption)⟩, hs⟩
     | exact ⟨⟨_, rfl, by rw [zDi hpre hia (by omega)]; rfl⟩, hs⟩
     | exact ⟨⟨_, rfl, by rw [zCj hpre (by omega) (by omega)]; rfl⟩, hs⟩
  try simp only [zS] at g6
  refine zAs (zAb (gq _ _ (zAe (fun gL gu => (zAa (zA5 rfl rfl (zAd (zAb (gu _ _ (zAy (zA1 (l := [.tmp 4]) (vs := [_]) rfl ⟨⟨rfl, (rfl : _ = Value.int _ _)⟩, trivial⟩ ?_)))))))))))
  first
    | exact ⟨⟨_, rfl, zE4 hpre hia2 hib2 (by assumption)⟩, hs⟩
    | exact ⟨⟨_, rfl, by rw [zDi hpre hia (by omega)]; rfl⟩, hs⟩
    | exact ⟨⟨_, rfl, by rw [zCj hpre (by omega) (by omega)]; rfl⟩, hs⟩

theorem c83 {w0 w : World} {F : List (Nat × Obj)} (aa ab : Option Addr) (a b : List Int) (ca cb : Nat) (hla : a.length ≤ 9223372036854775807) (hlb : b.length ≤ 9223372036854775807) (ha : Sl w0 F aa 1 (a.map fun x => [Value.int .i64 x])) (hb : Sl w0 F ab 1 (b.map fun x => [Value.int .i64 x])) (hs : St w0 w F) :
  Con Tryz.prog 83 [.slice aa a.length ca, .slice ab b.length cb] w fun v w' => v = .bool (before a b) ∧ St w0 w' F := by
  refine zAt (n := 23) func83 rfl rfl (zNl rfl) ?_
  refine zAe (fun K2 g3 => (zAa (zA5 rfl rfl (zAd (zAb (g3 _ _ (zAe (fun K4 g0 => (zAa (w_p (zAi (v := .slice _ _ _) rfl rfl) rfl ?_))))))))))
  refine w_p (zA8 underlying43 rfl rfl) rfl (w_p (zAi (v := .slice _ _ _) rfl rfl) rfl (w_p (zA8 underlying43 rfl rfl) rfl (w_p (zBw rfl rfl rfl rfl) rfl (w_p (zAi (v := .bool _) rfl rfl) rfl (zBi (fun h5 => ?_) (fun h5 => ?_))))))
  ·
   try simp only [zS] at h5
   refine zAh rfl rfl rfl ?_
   refine zAh rfl rfl rfl ?_
   refine zAh rfl rfl rfl ?_
   refine zAh rfl rfl rfl ?_
   refine zAh rfl rfl rfl ?_
   refine zAh rfl rfl rfl ?_
   refine zBa rfl rfl rfl ?_
   refine zBa rfl rfl rfl ?_
   refine zBa rfl rfl rfl ?_
   refine zBa rfl rfl rfl ?_
   refine zAh rfl rfl rfl ?_
   refine w_p (zAx (v := _) rfl rfl rfl rfl) rfl (w_p (zAo (v := .bool _) rfl rfl) rfl (zAd (zAb (g0 _ _ (zAy (zA1 (l := [.tmp 4]) (vs := [_]) rfl ⟨⟨rfl, (rfl : _ = Value.bool _)⟩, trivial⟩ ?_))))))
   exact ⟨congrArg Value.bool (by unfold before; (try rw [← hz]); (try clear hz); rw [Bool.eq_iff_iff]; simp [*] <;> omega), hs⟩
  try simp only [zS] at h5
  refine w_y rfl rfl rfl (zAi (v := .slice _ _ _) rfl rfl) rfl ?_
  refine w_y rfl rfl rfl (zA8 underlying43 rfl rfl) rfl ?_
  refine w_y rfl rfl rfl (zAi (v := .slice _ _ _) rfl rfl) rfl ?_
  refine w_y rfl rfl rfl (zA8 underlying43 rfl rfl) rfl ?_
  refine w_y rfl rfl rfl (zB6 rfl rfl rfl rfl) rfl ?_
  refine w_y rfl rfl rfl (zAi (v := .bool _) rfl rfl) rfl ?_
  refine zBi (fun h6 => ?_) (fun h6 => ?_)
  ·
   try simp only [zS] at h6
   refine w_y rfl rfl rfl (zAi (v := .slice _ _ _) rfl rfl) rfl ?_
   refine w_y rfl rfl rfl (zAi (v := .slice _ _ _) rfl rfl) rfl ?_
   refine zAr (zAq rfl rfl rfl) call88 rfl rfl rfl rfl (c88 _ _ _ _ _ _ (by omega) (by omega) (by assumption) (by assumption) hs) ?_
   rintro _ w8 ⟨⟨z, rfl, hz⟩, g4⟩
   refine w_y rfl rfl rfl (zBw rfl rfl rfl rfl) rfl ?_
   refine w_y rfl rfl rfl (zAx (v := .bool _) rfl rfl rfl rfl) rfl ?_
   refine w_p (zA9 (v := .bool _) rfl rfl rfl rfl) rfl (w_p (zAo (v := .bool _) rfl rfl) rfl (zAd (zAb (g0 _ _ (zAy (zA1 (l := [.tmp 4]) (vs := [_]) rfl ⟨⟨rfl, (rfl : _ = Value.bool _)⟩, trivial⟩ ?_))))))
   exact ⟨congrArg Value.bool (by unfold before; (try rw [← hz]); (try clear hz); rw [Bool.eq_iff_iff]; simp [*] <;> omega), g4⟩
  try simp only [zS] at h6
  refine zAh rfl rfl rfl ?_
  refine zAh rfl rfl rfl ?_
  refine zAh rfl rfl rfl ?_
  refine zAh rfl rfl rfl ?_
  refine w_y rfl rfl rfl (zA9 (v := _) rfl rfl rfl rfl) rfl ?_
  refine w_p (zA9 (v := .bool _) rfl rfl rfl rfl) rfl (w_p (zAo (v := .bool _) rfl rfl) rfl (zAd (zAb (g0 _ _ (zAy (zA1 (l := [.tmp 4]) (vs := [_]) rfl ⟨⟨rfl, (rfl : _ = Value.bool _)⟩, trivial⟩ ?_))))))
  exact ⟨congrArg Value.bool (by unfold before; (try rw [← hz]); (try clear hz); rw [Bool.eq_iff_iff]; simp [*] <;> omega), hs⟩

theorem zGp {b k : Nat} (h : ¬ ((bit b k : Nat) : Int) = 1) : ¬ bit b k = 1 := fun e => h (by rw [e]; rfl)
theorem bit_one {b k : Nat} (h : ((bit b k : Nat) : Int) = 1) : bit b k = 1 := by omega
theorem listL_sl {w0 : World} {L : List (Nat × Obj)} {i b : Nat} {t : TypeId} {x n : Nat} (hi : L[i]? = some (b, blk t (iv (listTo x n n)))) (hc : listL x n ≠ []) : Sl w0 L (some ⟨b, 0, none⟩) 1 ((listL x n).map fun x => [Value.int .i64 x]) := by
  have h := Sl.cut (w0 := w0) (l' := 0) (h' := (listL x n).length) (c := n) (zEa hi) (Nat.zero_le _) (by have := zDh x n; simp [zJh x n n (Nat.le_refl _)]; omega) (by simp [zJh x n n (Nat.le_refl _)])
  rw [← List.map_drop, List.drop_zero, Nat.sub_zero, ← List.map_take, listTo_take] at h
  have hn : n ≠ 0 := by rintro rfl; exact hc rfl
  rw [if_neg hn] at h
  have e : (some (⟨b, 0, none⟩ : Addr)).map (·.add (0 * 1)) = some ⟨b, 0, none⟩ := rfl
  rwa [e] at h
theorem iv2 {a b c d : Int} (h : a = b) (h2 : c = d) : [Value.int .i64 a, Value.int .i64 c] = [Value.int .i64 b, Value.int .i64 d] := by rw [h, h2]
theorem listL_slc {w0 : World} {L : List (Nat × Obj)} {b : Nat} {t : TypeId} {x n : Nat} (hi : L[0]? = some (b, blk t (iv (listTo x n n)))) : Sl w0 L (if n = 0 then some ⟨b, 0, none⟩ else (some (⟨b, 0, none⟩ : Addr)).map (·.add (0 * 1))) 1 ((listL x n).map fun x => [Value.int .i64 x]) := by
  by_cases hc : listL x n = []
  · rw [hc]; exact Sl.nil _ _
  · have hn : n ≠ 0 := by rintro rfl; exact hc rfl
    rw [if_neg hn]
    exact listL_sl hi hc
theorem c82 {w0 w : World} {F : List (Nat × Obj)} (x n : Nat) (hx : x < 1000) (hn : n ≤ 40) (hs : St w0 w F) :
  Con Tryz.prog 82 [.int .i64 x, .int .i64 n] w fun v w' => ∃ B a c, v = .slice a (listL x n).length c ∧ Sl w0 B a 1 ((listL x n).map fun x => [Value.int .i64 x]) ∧ St w0 w' (B ++ F) := by
  refine zAt (n := 31) func82 rfl rfl (zNl rfl) ?_
  refine zAe (fun K2 g7 => (zAa (zA5 rfl rfl (zAd (zAb (g7 _ _ (zAe (fun K4 g8 => (zAa (zAz rfl rfl (zG6 (k := n) zAc underlying43 zDb rfl rfl (by omega) rfl rfl rfl rfl rfl hs (fun b5 w6 g9 => ?_))))))))))))
  refine w_p (zAo (v := .slice _ _ _) rfl rfl) rfl (zAd (zAb (g8 _ _ (zAe (fun K9 ga => (zAa (zA5 rfl rfl (zAd (zAb (ga _ _ (zAe (fun gk gb => (zAe (fun gm gc => (zAa (zAz rfl rfl ?_))))))))))))))))
  refine w_p (zAi (v := _) rfl rfl) rfl (zAd (zAb (gc _ _ (zAw ?_))))
  refine zBs [6,7,11,12,13,14,15,16,17,18,19,20,21,22,23,24,25,26,27] [6,11] (fun k vs w => ∃ i : Nat, vs = [.int .i64 (listL x i).length, .int .i64 i] ∧ i ≤ n ∧ k = n - i ∧ St w0 w ((b5, blk 3 (iv (listTo x n i))) :: F)) (n) ?_ ?_
  ·
   exact ⟨0, rfl, by omega, by omega, by rw [listTo_zero]; exact g9⟩
  intro k vs μ gn hI gq g4
  obtain ⟨i, rfl, hia, rfl, hs⟩ := hI
  have hll := zDh x i
  refine zAe (fun gr gd => (zAa (w_p (zBw rfl rfl rfl rfl) rfl (zAd (zAb (gd _ _ (zAe (fun gt gf => (zAu rfl rfl (fun g0 => ?_) (fun g0 => ?_))))))))))
  ·
   try simp only [zS] at g0
   refine zAs (zAb (gf _ _ (zAe (fun gu g5 => (zAw ?_)))))
   refine zAe (fun gv gg => (zAa (zAz rfl rfl (zBe rfl rfl (zAd (zAb (gg _ _ (zAe (fun gw gh => (zAa (zAz rfl rfl (zAz rfl rfl (w_p (zJ9 (x := _) (y := _) rfl rfl rfl rfl rfl rfl (by first | omega | exact zBo (by omega))) rfl ?_)))))))))))))
   refine w_p (show Yd _ _ _ _ (.int .i64 ((bit x i : Nat) : Int)) from (zI2 (x := _) (y := 1) rfl rfl rfl rfl rfl rfl (by first | omega | exact zBo (by omega)) (by first | omega | exact zBo (by omega)))) rfl ?_
   refine w_p (zB6 rfl rfl rfl rfl) rfl (zAd (zAb (gh _ _ (zAu rfl rfl (fun g3 => ?_) (fun g3 => ?_)))))
   ·
    try simp only [zS] at g3
    refine zAa (zAz rfl rfl (w_p (zAi (v := .slice _ _ _) rfl rfl) rfl (zAz rfl rfl (w_p (y_sliceS (l' := (listL x i).length) (h' := _) underlying43 sizeOf3 rfl rfl ⟨rfl, _,_, rfl, rfl⟩ rfl (by omega) (by omega)) rfl ?_))))
    refine zAz rfl rfl (zBb (ps := [(0, _)]) (pv := [(0, .int _ _)]) (cs := [_]) zAc rfl rfl (fun w => Try_SE_fb1 _ w) hs (fun gx gy gi => ?_))
    refine w_copy1 (i := 1) (i2 := 0) zAc underlying43 sizeOf3 rfl rfl rfl rfl gi rfl rfl (by omega) (by first | omega | rfl | (simp only [zJh x n i (by omega), zL] <;> omega)) (fun gz g6 => ?_)
    refine w_p (zBg rfl rfl rfl rfl (by omega) (by omega)) rfl (zBe rfl rfl (zAd (zAl (zAb (g5 _ _ (zAa (w_p (zBg rfl rfl rfl rfl (by omega) (by omega)) rfl ?_)))))))
    refine zAz rfl rfl (zAd (zAb (g4 _ _ (nxI (n - (i + 1)) (by omega) ?_))))
    first
      | exact ⟨i + 1, iv2 (by rw [zF2 (bit_one (by assumption)), List.length_append]; rfl) rfl, by omega, rfl, by have hq := g6.tail; rw [listTo_yes (by omega) (bit_one (by assumption))] at hq; exact hq⟩
      | exact ⟨i + 1, iv2 (by rw [zHb (zGp (by assumption))]) rfl, by omega, rfl, by rw [← listTo_no (zGp (by assumption))]; exact g6⟩
   try simp only [zS] at g3
   refine zAs (zAl (zAb (g5 _ _ (zAa (w_p (zBg rfl rfl rfl rfl (by omega) (by omega)) rfl (zAz rfl rfl (zAd (zAb (g4 _ _ (nxI (n - (i + 1)) (by omega) ?_))))))))))
   first
     | exact ⟨i + 1, iv2 (by rw [zF2 (bit_one (by assumption)), List.length_append]; rfl) rfl, by omega, rfl, by have hq := hs.tail; rw [listTo_yes (by omega) (bit_one (by assumption))] at hq; exact hq⟩
     | exact ⟨i + 1, iv2 (by rw [zHb (zGp (by assumption))]) rfl, by omega, rfl, by rw [← listTo_no (zGp (by assumption))]; exact hs⟩
  try simp only [zS] at g0
  refine zBl (zAm (zAm (zA0 (zAb (gb _ _ (zAe (fun gA gj => (zAa (w_p (zAi (v := .slice _ _ _) rfl rfl) rfl (zAz rfl rfl (w_p (y_sliceS (l' := 0) (h' := (listL x i).length) underlying43 sizeOf3 rfl rfl rfl ⟨rfl, _,_, rfl, rfl⟩ (by omega) (by omega)) rfl ?_)))))))))))
  refine w_p (zAo (v := .slice _ _ _) rfl rfl) rfl (zAd (zAb (gj _ _ (zAy (zA1 (l := [.tmp 4]) (vs := [_]) rfl ⟨⟨rfl, show _ = (.slice _ _ _ : Value) from rfl⟩, trivial⟩ ?_)))))
  have hin : i = n := by omega
  subst hin
  exact ⟨[_], _,_, rfl, listL_slc (L := [_]) rfl, hs⟩

theorem c48 {w0 w : World} {F : List (Nat × Obj)} (m : Market) (p : At3) (mb mm : Nat) (hk : MK w0 F m p mb mm) (most : Bool) (hs : St w0 w F) :
  Con Tryz.prog 48 [.pointer (some ⟨mb, 0, none⟩), .bool most] w fun v w' => v = ia (allX m most) ∧ St w0 w' F := by
  refine zAt (n := 52) func48 rfl rfl (zNl rfl) ?_
  obtain ⟨ar, cr, as_, cs, at_, ct⟩ := p
  have hb := hk.b
  have hlr := hk.ok.lr
  have hls := hk.ok.ls
  have hlt := hk.ok.lt
  refine zAe (fun K2 gd => (zAa (zBf (cs := iv [0,0,0,0,0,0,0,0]) zAc zeroValue115 rfl hs (fun b3 w4 g6 => ?_))))
  refine zAd (zAb (gd _ _ (zAe (fun K7 gf => (zAe (fun K9 gg => (zAa (w_p (zAi (v := .pointer _) rfl rfl) rfl (w_p (zBy rfl rfl) rfl ?_)))))))))
  refine w_p (zAf (o := 0) (i := 0) underlying147 rfl sizeOf31 rfl rfl rfl) rfl (w_p (zAf (o := 0) (i := 0) underlying31 rfl sizeOf27 rfl rfl rfl) rfl (w_p (zAj isAgg27 g6.tail rfl rfl (show Ats _ _ _ _ [_] from Ats.part hb 0 1)) rfl (w_p (zA8 underlying27 rfl rfl) rfl ?_)))
  refine w_p (zAi (v := _) rfl rfl) rfl (zAd (zAb (gg _ _ (zAw ?_))))
  refine zBs [5,6,15,16,17,18,19,20,21,22,23,24,25,26,27,28,29,30,31,32,33] [15] (fun k vs w => ∃ i : Nat, vs = [.int .i64 i] ∧ i ≤ m.rooms.length ∧ k = m.rooms.length - i ∧ St w0 w ((b3, blk 115 (iv (handsTo m most i))) :: F)) (m.rooms.length) ?_ ?_
  ·
   exact ⟨0, rfl, by omega, by omega, g6⟩
  intro k vs μ gB hI gC g7
  obtain ⟨i, rfl, hia, rfl, hs⟩ := hI
  refine zAe (fun gE gh => (zAa (w_p (zBw rfl rfl rfl rfl) rfl (zAd (zAb (gh _ _ (zAe (fun gF gi => (zAu rfl rfl (fun g3 => ?_) (fun g3 => ?_))))))))))
  ·
   try simp only [zS] at g3
   refine zAs (zAb (gi _ _ (zAe (fun gG g8 => (zAw ?_)))))
   refine zAe (fun gH gj => ?_)
   have hi2 : i < m.rooms.length := by omega
   obtain ⟨br, or_, hbr, hxr⟩ := sl_rrows hk.i.r hi2
   subst hbr
   refine zAa (zAz rfl rfl (w_p (zA3 underlying27 sizeOf50 rfl rfl rfl rfl (i := _) rfl (by omega)) rfl (w_p (zA4 (vs := [_,_,_,_,_]) isAgg50 sizeOf50 hs.tail rfl rfl hxr) rfl (zBf (cs := [_,_,_,_,_]) zAc zeroValue50 rfl hs (fun gI gJ gk => ?_)))))
   refine zBe rfl rfl (zA6 (i := 0) (v := .agg #[.string _, .int _ _, .int _ _, .int _ _, .int _ _]) (vs := [_,_,_,_,_]) zAc sizeOf50 rfl rfl rfl rfl rfl (by simp [Value.oneCell']) gk rfl (zNl rfl) (fun gK g9 => ?_))
   refine zAd (zAb (gj _ _ (zAe (fun gL gm => (zAa (zAz rfl rfl (w_p (zAf (o := 1) (i := 1) underlying50 rfl sizeOf46 rfl rfl rfl) rfl (w_p (zAf (o := 0) (i := 0) underlying46 rfl sizeOf3 rfl rfl rfl) rfl ?_))))))))
   refine w_p (zAj isAgg3 g9 rfl rfl (zAk (i := 0) (vs := [_]) rfl rfl)) rfl (w_p (zAf (o := 0) (i := 0) underlying115 rfl sizeOf112 rfl rfl rfl) rfl (w_p (zBr underlying112 sizeOf3 rfl rfl rfl rfl (i := i) (by first | rfl | omega) (by omega)) rfl ?_))
   refine zC0 (i := 1) (j := i) zAc sizeOf3 rfl rfl rfl rfl g9 rfl (by first | omega | rfl | (simp only [zDl, zDk, zL] <;> omega)) (fun gM g0 => ?_)
   refine zAd (zAb (gm _ _ (zAe (fun gN gn => (zAa (w_p (zAi (v := .bool _) rfl rfl) rfl (zAd (zAb (gn _ _ (zAu rfl rfl (fun g4 => ?_) (fun g4 => ?_)))))))))))
   ·
    try simp only [zS] at g4
    refine zAa (zAz rfl rfl (w_p (zAf (o := 1) (i := 1) underlying50 rfl sizeOf46 rfl rfl rfl) rfl (w_p (zAf (o := 1) (i := 1) underlying46 rfl sizeOf3 rfl rfl rfl) rfl (w_p (zAj isAgg3 g0 rfl rfl (zAk (i := 0) (vs := [_]) rfl rfl)) rfl ?_))))
    refine w_p (zAf (o := 0) (i := 0) underlying115 rfl sizeOf112 rfl rfl rfl) rfl (w_p (zBr underlying112 sizeOf3 rfl rfl rfl rfl (i := i) (by first | rfl | omega) (by omega)) rfl ?_)
    refine zC0 (i := 1) (j := i) zAc sizeOf3 rfl rfl rfl rfl g0 rfl (by first | omega | rfl | (simp only [zDl, zDk, zL] <;> omega)) (fun gP ga => ?_)
    refine zAd (zAl (zAb (g8 _ _ (zAa (w_p (zBg rfl rfl rfl rfl (by omega) (by omega)) rfl (zAz rfl rfl (zAd (zAb (g7 _ _ (nxI (m.rooms.length - (i + 1)) (by omega) ?_))))))))))
    first
      | exact ⟨i + 1, rfl, by omega, rfl, by have hq := ga.tail; have hmo : most = true := (by assumption); subst hmo; rw [handsTo_yes hi2] at hq; exact hq⟩
      | exact ⟨i + 1, rfl, by omega, rfl, by have hq := ga.tail; have hmo : most = false := (by assumption); subst hmo; rw [handsTo_no hi2] at hq; exact hq⟩
   try simp only [zS] at g4
   refine zAs (zAl (zAb (g8 _ _ (zAa (w_p (zBg rfl rfl rfl rfl (by omega) (by omega)) rfl (zAz rfl rfl (zAd (zAb (g7 _ _ (nxI (m.rooms.length - (i + 1)) (by omega) ?_))))))))))
   first
     | exact ⟨i + 1, rfl, by omega, rfl, by have hq := g0.tail; have hmo : most = true := (by assumption); subst hmo; rw [handsTo_yes hi2] at hq; exact hq⟩
     | exact ⟨i + 1, rfl, by omega, rfl, by have hq := g0.tail; have hmo : most = false := (by assumption); subst hmo; rw [handsTo_no hi2] at hq; exact hq⟩
  try simp only [zS] at g3
  refine zBl (zAm (zAm (zA0 (zAb (gf _ _ (zAe (fun gQ gq => (zAe (fun gR gr => (zAa (w_p (zAi (v := .pointer _) rfl rfl) rfl ?_)))))))))))
  refine w_p (zBy rfl rfl) rfl (w_p (zAf (o := 0) (i := 0) underlying147 rfl sizeOf31 rfl rfl rfl) rfl (w_p (zAf (o := 1) (i := 1) underlying31 rfl sizeOf28 rfl rfl rfl) rfl (w_p (zAj isAgg28 hs.tail rfl rfl (show Ats _ _ _ _ [_] from Ats.part hb 1 1)) rfl ?_)))
  refine w_p (zA8 underlying28 rfl rfl) rfl (w_p (zAi (v := _) rfl rfl) rfl (zAd (zAb (gr _ _ (zAw ?_)))))
  refine zBs [7,8,40,41,42,43,44,45,46,47,48,49,50] [40] (fun k vs w => ∃ i : Nat, vs = [.int .i64 i] ∧ i ≤ m.shops.length ∧ k = m.shops.length - i ∧ St w0 w ((b3, blk 115 (iv (wantsTo m most i))) :: F)) (m.shops.length) ?_ ?_
  ·
   exact ⟨0, rfl, by omega, by omega, by have hil : i = m.rooms.length := (by omega); subst hil; exact hs⟩
  intro k vs μ gS hI gU gt
  obtain ⟨j, rfl, hja, rfl, hs⟩ := hI
  refine zAe (fun gV gu => (zAa (w_p (zBw rfl rfl rfl rfl) rfl (zAd (zAb (gu _ _ (zAe (fun gW gv => (zAu rfl rfl (fun g5 => ?_) (fun g5 => ?_))))))))))
  ·
   try simp only [zS] at g5
   refine zAs (zAb (gv _ _ (zAe (fun gX gw => (zAw ?_)))))
   refine zAe (fun gY gx => ?_)
   have hj2 : j < m.shops.length := by omega
   obtain ⟨bs, os, hbs, hxs⟩ := zKg hk.i.s hj2
   subst hbs
   refine zAa (zAz rfl rfl (w_p (zA3 underlying28 sizeOf71 rfl rfl rfl rfl (i := _) rfl (by omega)) rfl (w_p (zA4 (vs := [_,_,_]) isAgg71 sizeOf71 hs.tail rfl rfl hxs) rfl (zBf (cs := [_,_,_]) zAc zeroValue71 rfl hs (fun gZ hD gy => ?_)))))
   refine zBe rfl rfl (zA6 (i := 0) (v := .agg #[.string _, .int _ _, .int _ _]) (vs := [_,_,_]) zAc sizeOf71 rfl rfl rfl rfl rfl (by simp [Value.oneCell']) gy rfl (zNl rfl) (fun hG gb => ?_))
   refine zAd (zAb (gx _ _ (zAa (zAz rfl rfl (w_p (zAf (o := 2) (i := 2) underlying71 rfl sizeOf3 rfl rfl rfl) rfl (w_p (zAj isAgg3 gb rfl rfl (zAk (i := 0) (vs := [_]) rfl rfl)) rfl ?_))))))
   refine w_p (zAf (o := 3) (i := 1) underlying115 rfl sizeOf113 rfl rfl rfl) rfl (w_p (zBr underlying113 sizeOf3 rfl rfl rfl rfl (i := j) (by first | rfl | omega) (by omega)) rfl ?_)
   refine w_storeAtIO (i := 1) (o := 3) (j := j) zAc sizeOf3 rfl rfl rfl rfl gb rfl (by first | omega | rfl | (simp only [zDl, zDk, zL] <;> omega)) (fun hH gz => ?_)
   refine zAd (zAl (zAb (gw _ _ (zAa (w_p (zBg rfl rfl rfl rfl (by omega) (by omega)) rfl (zAz rfl rfl (zAd (zAb (gt _ _ (nxI (m.shops.length - (j + 1)) (by omega) ?_))))))))))
   exact ⟨j + 1, rfl, by omega, rfl, by have hq := gz.tail; rw [wantsTo_succ hj2] at hq; exact hq⟩
  try simp only [zS] at g5
  refine zBl (zAm (zAm (zA0 (zAb (gq _ _ (zAe (fun hO gA => (zAa (w_p (zCz (i := 0) isAgg115 sizeOf115 (by first | omega | rfl | (simp only [zDl, zDk, zL] <;> omega)) hs rfl rfl rfl) rfl ?_)))))))))
  refine zDf (i := 0) (l := _) zAc sizeOf115 (by first | omega | rfl | (simp only [zDl, zDk, zL] <;> omega)) rfl rfl rfl rfl rfl hs rfl (by first | omega | rfl | (simp only [zDl, zDk, zL] <;> omega)) (fun hX gc => ?_)
  refine zAd (zAb (gA _ _ (zAy (zA1 (l := [.cell 4 115]) (vs := [_]) rfl ⟨⟨rfl, _, rfl, run_loadI (i := 0) isAgg115 sizeOf115 (by first | omega | rfl | (simp only [zDl, zDk, zL] <;> omega)) gc rfl⟩, trivial⟩ ?_))))
  exact ⟨by have hjl : j = m.shops.length := (by omega); subst hjl; rfl, gc.tail⟩

end Go.Proofs.Sb
/- Plain words of the shop layer: steps of the sum of what sets lack. No conditions. -/
namespace Go.Rt.Sh
theorem zDv {l : List Int} {b : Nat} {v : Int} (hb : b < l.length) : (l.set b v).getD b 0 = v := by simp [List.getD, hb]
theorem set_zero {m : Market} {x : List Int} {b : Nat} : (lacksTo m x b).set b 0 = lacksTo m x b := by
  apply List.ext_getElem (by simp)
  intro i h1 h2
  rw [List.getElem_set]
  split
  · rename_i h; subst h; simp [lacksTo]
  · rfl
theorem zKp {x : List Int} {j : Nat} (hj : j < 4) : ((x.drop 3).take 4).getD j 0 = x.getD (3 + j) 0 := by
  simp [List.getD, List.getElem?_take, hj]
theorem set_want {m : Market} {x : List Int} {b j : Nat} (hb : b < 16) (hj : j < 4) :
    (((lacksTo m x b).set b (wantU x b j)).set b (((lacksTo m x b).set b (wantU x b j)).getD b 0 + ((x.drop 3).take 4).getD j 0 * (bit b j : Int))) = (lacksTo m x b).set b (wantU x b (j + 1)) := by
  rw [zDv (by rw [zBq]; exact hb), List.set_set, zKp hj]; rfl
theorem set_hand {m : Market} {x c : List Int} {b q : Nat} {W : Int} (hb : b < 16) :
    (((lacksTo m x b).set b (W - handU c x q)).set b (((lacksTo m x b).set b (W - handU c x q)).getD b 0 - min (c.getD q 0) (x.getD q 0))) = (lacksTo m x b).set b (W - handU c x (q + 1)) := by
  rw [zDv (by rw [zBq]; exact hb), List.set_set]
  congr 1
  rw [show handU c x (q + 1) = handU c x q + min (c.getD q 0) (x.getD q 0) from rfl]
  omega
theorem set_done {m : Market} {x : List Int} {b : Nat} (hb : b < 16) : (lacksTo m x b).set b (wantU x b 4 - handU (capsU m (x.getD 7 0) b m.trains.length) x 3) = lacksTo m x (b + 1) := lacksTo_succ hb
theorem caps_get_bound {m : Market} (hok : m.Ok) (fro : Int) (b i q : Nat) (hi : i ≤ m.trains.length) : 0 ≤ (capsU m fro b i).getD q 0 ∧ (capsU m fro b i).getD q 0 ≤ 360 := by
  have h := zHw hok fro b i hi
  have := zFv (a := 0) (b := 60 * (i : Int)) (by omega) (by omega) h q
  have := hok.lt
  omega
theorem caps_in {m : Market} (hok : m.Ok) (fro : Int) (b i : Nat) (hi : i ≤ m.trains.length) : ∀ z ∈ capsU m fro b i, -10000 ≤ z ∧ z ≤ 10000 := by
  intro z hz
  have := zHw hok fro b i hi z hz
  have := hok.lt
  omega
def Small (x : List Int) : Prop := x.length = 8 ∧ ∀ z ∈ x, -10000 ≤ z ∧ z ≤ 10000
theorem lackB_bound {m : Market} (hok : m.Ok) {x : List Int} (hx : Small x) (b : Nat) : -100000 ≤ lackB m x b ∧ lackB m x b ≤ 100000 := by
  have h1 := zGa hx.2 b 4
  have h2 := zHs (caps_in hok (x.getD 7 0) b m.trains.length (Nat.le_refl _)) hx.2 3
  unfold lackB
  omega
theorem zHc {m : Market} {x : List Int} {b : Nat} (hb : b < 16) : (lacksV m x).getD b 0 = lackB m x b := by simp [lacksV, List.getD, hb]
theorem handsTo_in {m : Market} (hok : m.Ok) (t : Bool) : ∀ i, i ≤ m.rooms.length → ∀ z ∈ handsTo m t i, 0 ≤ z ∧ z ≤ 200
  | 0, _, z, hz => by simp [handsTo] at hz; omega
  | i + 1, hi, z, hz => by
    have ih := handsTo_in hok t i (by omega)
    have hr := hok.room _ (List.getElem_mem (show i < m.rooms.length by omega))
    simp only [handsTo, List.getElem?_eq_getElem (show i < m.rooms.length by omega)] at hz
    rcases List.mem_or_eq_of_mem_set hz with h1 | h1
    · exact ih z h1
    · rw [h1]; split <;> omega
theorem zI4 {m : Market} (hok : m.Ok) (t : Bool) : ∀ i, i ≤ m.shops.length → ∀ z ∈ wantsTo m t i, 0 ≤ z ∧ z ≤ 200
  | 0, _, z, hz => handsTo_in hok t _ (Nat.le_refl _) z hz
  | i + 1, hi, z, hz => by
    have ih := zI4 hok t i (by omega)
    have hr := hok.shop _ (List.getElem_mem (show i < m.shops.length by omega))
    simp only [wantsTo, List.getElem?_eq_getElem (show i < m.shops.length by omega)] at hz
    rcases List.mem_or_eq_of_mem_set hz with h1 | h1
    · exact ih z h1
    · rw [h1]; omega
theorem zEi {m : Market} (hok : m.Ok) (t : Bool) : Small (allX m t) := ⟨zDt m t, fun z hz => by have := zI4 hok t _ (Nat.le_refl _) z hz; omega⟩
def goesTo (m : Market) : Nat → List Int
  | 0 => []
  | i + 1 => match m.trains[i]? with
    | some t => if leaves m t then goesTo m i ++ [(i : Int)] else goesTo m i
    | none => goesTo m i
theorem goesTo_yes {m : Market} {i : Nat} (hi : i < m.trains.length) (h : leaves m m.trains[i] = true) : goesTo m (i + 1) = goesTo m i ++ [(i : Int)] := by simp [goesTo, List.getElem?_eq_getElem hi, h]
theorem goesTo_no {m : Market} {i : Nat} (hi : i < m.trains.length) (h : leaves m m.trains[i] = false) : goesTo m (i + 1) = goesTo m i := by simp [goesTo, List.getElem?_eq_getElem hi, h]
theorem goesTo_len (m : Market) : ∀ i, (goesTo m i).length ≤ i
  | 0 => Nat.le_refl _
  | i + 1 => by
    have := goesTo_len m i
    unfold goesTo
    cases m.trains[i]? with
    | none => dsimp only; omega
    | some t => dsimp only; split
                · simp; omega
                · omega
def goesP (m : Market) : List Int × Int := if (check m).2.2 ≠ 0 then ([], (check m).2.2) else (goesTo m m.trains.length, 0)
def canP (m : Market) (l : List Int) : Int × Int := if someE m l ≠ 0 then (0, someE m l) else if servedS m (allX m false) (someS l) then (1,0) else if servedS m (allX m true) (someS l) then (0,0) else (2,0)
def proofP (m : Market) (l : List Int) : List Int × Int × Int := if someE m l ≠ 0 then ([], 0, someE m l) else if (worst m (allX m false) (someS l)).2 = 0 then ([], 0,9) else ((worst m (allX m false) (someS l)).1, (worst m (allX m false) (someS l)).2,0)
def withoutP (m : Market) : List Int × Int := if (check m).2.2 ≠ 0 then ([], (check m).2.2) else (withoutL m, 0)
def moreX (m : Market) (r i : Nat) : List Int := (allX m false).set r ((allX m false).getD r 0 + i)
def moreTo (m : Market) (r i : Nat) : Nat → Option Nat
  | 0 => none
  | k + 1 => if servedS m (moreX m r i) (1 <<< m.shops.length - 1) then some i else moreTo m r (i + 1) k
def moreP (m : Market) (r : Int) : Int × Int := if enterE m m.rooms.length [r] ≠ 0 then (0, enterE m m.rooms.length [r]) else match moreTo m r.toNat 0 61 with | some n => ((n : Int), 0) | none => (0,9)
theorem zF0 (m : Market) (r i : Nat) : (moreX m r i).length = 8 := by simp [moreX, zDt]
theorem moreX_zero (m : Market) (r : Nat) : moreX m r 0 = allX m false := by
  unfold moreX
  apply List.ext_getElem (by simp)
  intro j h1 h2
  rw [List.getElem_set]
  split
  · rename_i h; subst h; simp [List.getD, h2]
  · rfl
theorem moreX_get {m : Market} {r i : Nat} (hr : r < 8) : (moreX m r i).getD r 0 = (allX m false).getD r 0 + i := by unfold moreX; exact zDv (by rw [zDt]; exact hr)
theorem moreX_succ {m : Market} {r i : Nat} (hr : r < 8) : (moreX m r i).set r ((moreX m r i).getD r 0 + 1) = moreX m r (i + 1) := by
  rw [moreX_get hr]; unfold moreX; rw [List.set_set]; congr 1; push_cast; omega
theorem allX_in {m : Market} (hok : m.Ok) (t : Bool) : ∀ z ∈ allX m t, 0 ≤ z ∧ z ≤ 200 := zI4 hok t _ (Nat.le_refl _)
theorem moreX_small {m : Market} (hok : m.Ok) (r i : Nat) (hi : i ≤ 61) : Small (moreX m r i) := by
  refine ⟨zF0 m r i, fun z hz => ?_⟩
  unfold moreX at hz
  rcases List.mem_or_eq_of_mem_set hz with h | h
  · have := allX_in hok false z h; omega
  · have := zFv (a := 0) (b := 200) (by omega) (by omega) (allX_in hok false) r
    omega
theorem moreTo_yes {m : Market} {r i k : Nat} (h : servedS m (moreX m r i) (1 <<< m.shops.length - 1) = true) : moreTo m r i (k + 1) = some i := by unfold moreTo; rw [if_pos h]
theorem moreTo_no {m : Market} {r i k : Nat} (h : servedS m (moreX m r i) (1 <<< m.shops.length - 1) = false) : moreTo m r i (k + 1) = moreTo m r (i + 1) k := by rw [moreTo, if_neg (by simp [h])]
end Go.Rt.Sh
set_option maxRecDepth 20000
namespace Go.Proofs.Sb
open Go.Proofs.Tryz
open Go.Rt Go.Rt.Sh
attribute [local irreducible] WL WC Con Yd At Ats Sl Agree DW

theorem key93_cov : ∀ l m : List Int, l.length = 8 → m.length = 8 → (decide ((l.drop 0).take 3 = (m.drop 0).take 3) && (decide ((l.drop 3).take 4 = (m.drop 3).take 4) && (decide ((l.drop 7).take 1 = (m.drop 7).take 1) && true))) = decide (l = m) := by
  intro l m hl hm
  match l, hl with
  | [a, b, c, d, e, f, g, h], _ =>
    match m, hm with
    | [a', b', c', d', e', f', g', h'], _ =>
      rw [Bool.eq_iff_iff]
      simp
      constructor
      · rintro ⟨⟨_, _, _⟩, ⟨_, _,_, _⟩, _⟩; simp [*]
      · rintro ⟨_, _,_,_,_,_,_, _⟩; simp [*]
theorem key_zip {P : Program} {t k : Nat} {fs : Array Field} (ks : List Nat) (hu : P.underlying t = some (.struct fs)) (hp : P.stoodInHeld t = false) (h1 : fs.toList = (fs.toList.zip ks).map Prod.fst) (h2 : ∀ q ∈ fs.toList.zip ks, FF P q.1 q.2 ∧ q.1.offset + q.2 ≤ k)
    (h3 : ∀ q ∈ fs.toList.zip ks, P.underlying q.1.type = some (.int .i64) ∨ ∃ el, P.underlying q.1.type = some (.array q.2 el) ∧ P.underlying el = some (.int .i64) ∧ ∀ w, (sizeOf el).run P w = .ok 1 w)
    (h4 : ∀ l m : List Int, l.length = k → m.length = k → ((fs.toList.zip ks).all fun q => decide ((l.drop q.1.offset).take q.2 = (m.drop q.1.offset).take q.2)) = decide (l = m)) : KeyTy P t k := zJ3 _ hu hp h1 h2 h3 h4
theorem key115 : KeyTy Tryz.prog 115 8 := by
  refine key_zip [3,4,1] underlying115 (by kernel_rfl) rfl ?_ ?_ ?_
  · intro q hq
    simp only [List.zip_cons_cons, List.zip_nil_right, List.mem_cons, List.not_mem_nil, or_false] at hq
    rcases hq with rfl | rfl | rfl
    · exact ⟨⟨by decide, .inr ⟨by kernel_rfl, isAgg112, sizeOf112⟩⟩, by decide⟩
    · exact ⟨⟨by decide, .inr ⟨by kernel_rfl, isAgg113, sizeOf113⟩⟩, by decide⟩
    · exact ⟨⟨by decide, .inl ⟨underlying3, rfl⟩⟩, by decide⟩
  · intro q hq
    simp only [List.zip_cons_cons, List.zip_nil_right, List.mem_cons, List.not_mem_nil, or_false] at hq
    rcases hq with rfl | rfl | rfl
    · exact .inr ⟨3, underlying112, underlying3, sizeOf3⟩
    · exact .inr ⟨3, underlying113, underlying3, sizeOf3⟩
    · exact .inl underlying3
  · exact key93_cov

theorem zGo {b j : Nat} (h : ((bit b j : Nat) : Int) = 0) : bit b j = 0 := by omega
theorem c96f {w0 w : World} {F : List (Nat × Obj)} (m : Market) (p : At3) (mb mm : Nat) (hk : MK w0 F m p mb mm)  (x : List Int) (hx : Small x) (es : Array MapEntry) (ck : Nat) (j : Nat) (y : List Int) (hy : y.length = 16) (hf : ∀ w, (Instr.findKey 115 (ia x) es.toList).run Tryz.prog w = .ok (some (j, ia y)) w) (hs : St w0 w ((mm, .map es ck) :: F)) :
  Con Tryz.prog 96 [.pointer (some ⟨mb, 0, none⟩), ia x] w fun v w' => v = ia y ∧ St w0 w' ((mm, .map es ck) :: F) := by
  refine zAt (n := 113) func96 rfl rfl (zNl rfl) ?_
  have hb := hk.b
  refine zAe (fun K2 g6 => (zAa (w_boxI (l := _) zAc rfl rfl rfl hs (fun b3 w4 g7 => ?_))))
  refine zBf (cs := iv [0,0,0,0,0,0,0,0,0,0,0,0,0,0,0,0]) zAc zeroValue163 rfl g7 (fun b6 w7 g8 => ?_)
  refine zAd (zAb (g6 _ _ (zAe (fun gc gd => (zAe (fun gf g9 => (zCn [10] [(0,0),(1,0),(2,0),(3,1),(4,1),(5,1),(6,0),(7,0),(8,0),(9,2),(10,3),(11,0)] zCb (by kernel_rfl) g8 (fun gg g0 => ?_))))))))
  refine d_w rfl (fun _ => zAi (v := .pointer _) rfl rfl) rfl ?_
  refine d_w rfl (fun _ => zBy rfl rfl) rfl ?_
  refine d_w rfl (fun _ => zAf (o := 3) (i := 1) underlying147 rfl sizeOf145 rfl rfl rfl) rfl ?_
  refine zBd rfl zAc rfl g0 (fun _ hq => (zAj isAgg145 hq.tail.tail.tail rfl rfl (show Ats _ _ _ _ [_] from Ats.part hb 3 1))) ?_
  refine zBd rfl zAc rfl g0 (fun _ hq => (zCz (i := 1) isAgg115 sizeOf115 (by first | omega | rfl | (simp only [hx.1, hy, zL] <;> omega)) hq rfl rfl rfl)) ?_
  refine zBd rfl zAc rfl g0 (fun _ hq => (K_lookupS (i := 2) (l := x) underlying145 key115 hx.1 hq rfl rfl rfl rfl rfl rfl hf)) ?_
  refine d_w rfl (fun _ => zAi (v := .tuple _) rfl rfl) rfl ?_
  refine d_w rfl (fun _ => zAp (v := (ia _)) rfl rfl rfl) rfl ?_
  refine d_w rfl (fun _ => zAp (v := .bool _) rfl rfl rfl) rfl ?_
  refine zCq rfl ?_
  refine zBf (cs := iv [0,0,0,0,0,0,0,0,0,0,0,0,0,0,0,0]) zAc zeroValue163 rfl g0 (fun gh gi g3 => ?_)
  refine zAd (qn ⟨g3.tail, ?_⟩)
  refine zDc rfl ?_
  refine zDf (i := 0) (l := _) zAc sizeOf163 (by first | omega | rfl | (simp only [hx.1, hy, zL] <;> omega)) rfl rfl rfl rfl rfl g3 rfl (by first | omega | rfl | (simp only [hx.1, hy, zL] <;> omega)) (fun gj g4 => ?_)
  refine zAd (qn ?_)
  refine d_w rfl (fun _ => zAo (v := .bool _) rfl rfl) rfl ?_
  refine zCf ?_
  refine zAb (g9 _ _ (zAe (fun gk ga => (zAa (w_p (zAi (v := .bool _) rfl rfl) rfl (zAd (zAb (ga _ _ (zB1 rfl rfl ?_)))))))))
  refine zAe (fun gm gb => (zAa (w_p (zCz (i := 0) isAgg163 sizeOf163 (by first | omega | rfl | (simp only [hx.1, hy, zL] <;> omega)) g4 rfl rfl rfl) rfl ?_)))
  refine zDf (i := 1) (l := _) zAc sizeOf163 (by first | omega | rfl | (simp only [hx.1, hy, zL] <;> omega)) rfl rfl rfl rfl rfl g4 rfl (by first | omega | rfl | (simp only [hx.1, hy, zL] <;> omega)) (fun gn g5 => ?_)
  refine zAd (zAb (gb _ _ (zAy (zAg (zA1 (l := [.cell 4 163]) (vs := [_]) rfl ⟨⟨rfl, _, rfl, run_loadI (i := 1) isAgg163 sizeOf163 (by first | omega | rfl | (simp only [hx.1, hy, zL] <;> omega)) g5 rfl⟩, trivial⟩ ?_)))))
  exact ⟨rfl, g5.tail.tail.tail⟩

theorem c96n {w0 w : World} {F : List (Nat × Obj)} (m : Market) (p : At3) (mb mm : Nat) (hk : MK w0 F m p mb mm)  (x : List Int) (hx : Small x) (es : Array MapEntry) (ck : Nat) (hf : ∀ w, (Instr.findKey 115 (ia x) es.toList).run Tryz.prog w = .ok none w) (hs : St w0 w ((mm, .map es ck) :: F)) :
  Con Tryz.prog 96 [.pointer (some ⟨mb, 0, none⟩), ia x] w fun v w' => v = ia (lacksV m x) ∧ St w0 w' ((mm, .map (es.push { key := ia x, val := ia (lacksV m x), born := ck }) (ck + 1)) :: F) := by
  refine zAt (n := 113) func96 rfl rfl (zNl rfl) ?_
  obtain ⟨ar, cr, as_, cs, at_, ct⟩ := p
  have hb := hk.b
  have hlr := hk.ok.lr
  have hls := hk.ok.ls
  have hlt := hk.ok.lt
  refine zAe (fun K2 gv => (zAa (w_boxI (l := _) zAc rfl rfl rfl hs (fun b3 w4 gw => ?_))))
  refine zBf (cs := iv [0,0,0,0,0,0,0,0,0,0,0,0,0,0,0,0]) zAc zeroValue163 rfl gw (fun b6 w7 gx => ?_)
  refine zAd (zAb (gv _ _ (zAe (fun j7 gy => (zAe (fun j8 gz => (zCn [10] [(0,0),(1,0),(2,0),(3,1),(4,1),(5,1),(6,0),(7,0),(8,0),(9,2),(10,3),(11,0)] zCb (by kernel_rfl) gx (fun j9 g3 => ?_))))))))
  refine d_w rfl (fun _ => zAi (v := .pointer _) rfl rfl) rfl ?_
  refine d_w rfl (fun _ => zBy rfl rfl) rfl ?_
  refine d_w rfl (fun _ => zAf (o := 3) (i := 1) underlying147 rfl sizeOf145 rfl rfl rfl) rfl ?_
  refine zBd rfl zAc rfl g3 (fun _ hq => (zAj isAgg145 hq.tail.tail.tail rfl rfl (show Ats _ _ _ _ [_] from Ats.part hb 3 1))) ?_
  refine zBd rfl zAc rfl g3 (fun _ hq => (zCz (i := 1) isAgg115 sizeOf115 (by first | omega | rfl | (simp only [hx.1, zBq, zBz, zB5, zL] <;> omega)) hq rfl rfl rfl)) ?_
  refine zBd rfl zAc rfl g3 (fun _ hq => (K_lookupN (i := 2) (l := x) underlying145 key115 hx.1 (show ∀ w, (zeroValue 163).run Tryz.prog w = .ok (ia (List.replicate 16 0)) w from zeroValue163) hq rfl rfl rfl rfl rfl rfl hf)) ?_
  refine d_w rfl (fun _ => zAi (v := .tuple _) rfl rfl) rfl ?_
  refine d_w rfl (fun _ => zAp (v := (ia _)) rfl rfl rfl) rfl ?_
  refine d_w rfl (fun _ => zAp (v := .bool _) rfl rfl rfl) rfl ?_
  refine zCq rfl ?_
  refine zBf (cs := iv [0,0,0,0,0,0,0,0,0,0,0,0,0,0,0,0]) zAc zeroValue163 rfl g3 (fun g4 ja gm => ?_)
  refine zAd (qn ⟨gm.tail, ?_⟩)
  refine zDc rfl ?_
  refine zDf (i := 0) (l := _) zAc sizeOf163 (by first | omega | rfl | (simp only [hx.1, zBq, zBz, zB5, zL] <;> omega)) rfl rfl rfl rfl rfl gm rfl (by first | omega | rfl | (simp only [hx.1, zBq, zBz, zB5, zL] <;> omega)) (fun jb gA => ?_)
  refine zAd (qn ?_)
  refine d_w rfl (fun _ => zAo (v := .bool _) rfl rfl) rfl ?_
  refine zCf ?_
  refine zAb (gz _ _ (zAe (fun jc gB => (zAa (w_p (zAi (v := .bool _) rfl rfl) rfl (zAd (zAb (gB _ _ (zBx rfl rfl ?_)))))))))
  refine zAs (zAb (gy _ _ (zAe (fun jd gC => (zAa (w_p (zAi (v := .pointer _) rfl rfl) rfl (w_p (zCc (fv := [_]) (cv := []) rfl rfl rfl rfl) rfl ?_)))))))
  refine w_p (zAo (v := .func _ _ _) rfl rfl) rfl (zAd (zAb (gC _ _ (zAe (fun je gE => (zAe (fun jf gF => (zAa (w_p (zAi (v := _) rfl rfl) rfl ?_)))))))))
  refine zAd (zAb (gF _ _ (zAw ?_)))
  refine zBs [8,9,10,11,12,13,14,15,29,30,31,32,33,34,35,36,37,38,39,40,41,42,43,44,45,46,47,48,49,50,51,52,53,54,55,56,57,58,59,60,61,62,63,64,65,66,67,68,69,70,71,72,73,74,75,76,77,78,79,80,81,82,83,84,85,86,87,88,89,90,91,92,93,94,95,96,97,98,99,100,101,102,103,104,105] [29] (fun k vs w => ∃ b : Nat, vs = [.int .i64 b] ∧ b ≤ 16 ∧ k = 16 - b ∧ St w0 w ((g4, blk 163 (iv (List.replicate 16 0))) :: (b6, blk 163 (iv (lacksTo m x b))) :: (b3, blk 115 (iv x)) :: (mm, .map es ck) :: F)) (16) ?_ ?_
  ·
   exact ⟨0, rfl, by omega, by omega, by rw [lacksTo_zero]; exact gA⟩
  intro k vs μ jg hI jh gG
  obtain ⟨b, rfl, hba, rfl, hs⟩ := hI
  refine zAe (fun ji gH => (zAa (w_p (zBw rfl rfl rfl rfl) rfl (zAd (zAb (gH _ _ (zAe (fun jj gI => (zAu rfl rfl (fun g9 => ?_) (fun g9 => ?_))))))))))
  ·
   try simp only [zS] at g9
   refine zAs (zAb (gI _ _ (zAe (fun jk gJ => (zAw ?_)))))
   refine zAe (fun jl gK => ?_)
   have hb16 : b < 16 := by omega
   refine zAa (zAz rfl rfl (zBe rfl rfl (zAd (zAb (gK _ _ (w_scope ?_))))))
   refine zAe (fun jm gL => (zAa (zBf (cs := iv [0,0,0]) zAc zeroValue112 rfl hs (fun ga jn gn => ?_))))
   refine zAd (zAb (gL _ _ (zAe (fun jo gM => (w_label ?_)))))
   refine zAb (gM _ _ (zAe (fun jp gN => (zAe (fun jq gP => (zAa (w_p (zAi (v := .pointer _) rfl rfl) rfl (w_p (zBy rfl rfl) rfl (w_p (zAf (o := 0) (i := 0) underlying147 rfl sizeOf31 rfl rfl rfl) rfl ?_)))))))))
   refine w_p (zAf (o := 2) (i := 2) underlying31 rfl sizeOf29 rfl rfl rfl) rfl (w_p (zAj isAgg29 gn.tail.tail.tail.tail.tail rfl rfl (show Ats _ _ _ _ [_] from Ats.part hb 2 1)) rfl (w_p (zA8 underlying29 rfl rfl) rfl (w_p (zAi (v := _) rfl rfl) rfl (zAd (zAb (gP _ _ (zAw ?_)))))))
   refine zBs [10,11,38,39,40,41,42,43,44,45,46,47,48,49,50,51,52,53,54,55,56,57,58,59,60,61,62,63,64,65,66,67,68,69] [38] (fun k vs w => ∃ i : Nat, vs = [.int .i64 i] ∧ i ≤ m.trains.length ∧ k = m.trains.length - i ∧ St w0 w ((ga, blk 112 (iv (capsU m (x.getD 7 0) b i))) :: (g4, blk 163 (iv (List.replicate 16 0))) :: (b6, blk 163 (iv (lacksTo m x b))) :: (b3, blk 115 (iv x)) :: (mm, .map es ck) :: F)) (m.trains.length) ?_ ?_
   ·
    exact ⟨0, rfl, by omega, by omega, gn⟩
   intro k vs μ jr hI js g5
   obtain ⟨i, rfl, hia, rfl, hs⟩ := hI
   refine zAe (fun jt gQ => (zAa (w_p (zBw rfl rfl rfl rfl) rfl (zAd (zAb (gQ _ _ (zAe (fun ju gR => (zAu rfl rfl (fun gb => ?_) (fun gb => ?_))))))))))
   ·
    try simp only [zS] at gb
    refine zAs (zAb (gR _ _ (zAe (fun jv g6 => (zAw ?_)))))
    refine zAe (fun jw gS => ?_)
    have hi2 : i < m.trains.length := by omega
    obtain ⟨bt, ot, hbt, hxt⟩ := sl_trows hk.i.t hi2
    subst hbt
    have ht := hk.ok.train _ (List.getElem_mem hi2)
    have hcb := caps_get_bound hk.ok (x.getD 7 0) b i (m.trains[i]'hi2).room.toNat (by omega)
    refine zAa (zAz rfl rfl (w_p (zA3 underlying29 sizeOf55 rfl rfl rfl rfl (i := _) rfl (by omega)) rfl (w_p (zA4 (vs := [_,_,_,_]) isAgg55 sizeOf55 hs.tail.tail.tail.tail.tail rfl rfl hxt) rfl (zBf (cs := [_,_,_,_]) zAc zeroValue55 rfl hs (fun jx jy gU => ?_)))))
    refine zBe rfl rfl (zA6 (i := 0) (v := .agg #[.int _ _, .int _ _, .int _ _, .int _ _]) (vs := [_,_,_,_]) zAc sizeOf55 rfl rfl rfl rfl rfl (by simp [Value.oneCell']) gU rfl (zNl rfl) (fun jz g0 => ?_))
    refine zAd (zAb (gS _ _ (zAe (fun jA gV => (zAe (fun jB gc => (zAa (zAz rfl rfl (w_p (zAf (o := 7) (i := 2) underlying115 rfl sizeOf3 rfl rfl rfl) rfl ?_)))))))))
    refine w_p (zAj isAgg3 g0 rfl rfl (zIz (i := 4) (o := 7) rfl (by first | omega | rfl | (simp only [hx.1, zBq, zBz, zB5, zL] <;> omega)))) rfl ?_
    refine w_p (zBw rfl rfl rfl rfl) rfl (w_p (zAi (v := .bool _) rfl rfl) rfl (zBi (fun gd => ?_) (fun gd => ?_)))
    ·
     try simp only [zS] at gd
     refine zAh rfl rfl rfl ?_
     refine zAh rfl rfl rfl ?_
     refine zAh rfl rfl rfl ?_
     refine zAh rfl rfl rfl ?_
     refine zAh rfl rfl rfl ?_
     refine zAh rfl rfl rfl ?_
     refine w_p (zAx (v := _) rfl rfl rfl rfl) rfl (w_p (zAi (v := .bool _) rfl rfl) rfl (zAh rfl rfl rfl ?_))
     refine zAh rfl rfl rfl ?_
     refine zAh rfl rfl rfl ?_
     refine zAh rfl rfl rfl ?_
     refine w_p (zAx (v := _) rfl rfl rfl rfl) rfl (zAd (zAb (gc _ _ (zB1 rfl rfl ?_))))
     refine zBl (zAm (zA0 (zAb (g6 _ _ (zAa (w_p (zBg rfl rfl rfl rfl (by omega) (by omega)) rfl (zAz rfl rfl (zAd (zAb (g5 _ _ (nxI (m.trains.length - (i + 1)) (by omega) ?_)))))))))))
     first
       | exact ⟨i + 1, rfl, by omega, rfl, by rw [zFc hi2 (by first | exact .inl (by omega) | exact .inr (.inl (zGo (by assumption))) | exact .inr (.inr (by assumption)))]; exact g0.tail⟩
       | exact ⟨i + 1, rfl, by omega, rfl, by rw [zF5 hi2 (fun h => by rcases h with h | h | h; omega; omega; simp_all)]; exact g0.tail⟩
    try simp only [zS] at gd
    refine w_y rfl rfl rfl (zA2 rfl rfl) rfl ?_
    refine w_y rfl rfl rfl (zAf (o := 1) (i := 1) underlying55 rfl sizeOf3 rfl rfl rfl) rfl ?_
    refine w_y rfl rfl rfl (zAj isAgg3 g0 rfl rfl (zAk (i := 0) (vs := [_]) rfl rfl)) rfl ?_
    refine w_y rfl rfl rfl (zJ9 (x := _) (y := (m.trains[i]'hi2).shop.toNat) rfl rfl rfl rfl rfl (by first | rfl | omega) (by first | omega | exact zBo (by omega))) rfl ?_
    refine w_y rfl rfl rfl (show Yd _ _ _ _ (.int .i64 ((bit b (m.trains[i]'hi2).shop.toNat : Nat) : Int)) from (zI2 (x := _) (y := 1) rfl rfl rfl rfl rfl rfl (by first | omega | exact zBo (by omega)) (by first | omega | exact zBo (by omega)))) rfl ?_
    refine w_y rfl rfl rfl (zB6 rfl rfl rfl rfl) rfl ?_
    refine w_p (zA9 (v := .bool _) rfl rfl rfl rfl) rfl (w_p (zAi (v := .bool _) rfl rfl) rfl (zBi (fun gf => ?_) (fun gf => ?_)))
    ·
     try simp only [zS] at gf
     refine zAh rfl rfl rfl ?_
     refine zAh rfl rfl rfl ?_
     refine zAh rfl rfl rfl ?_
     refine zAh rfl rfl rfl ?_
     refine w_p (zAx (v := _) rfl rfl rfl rfl) rfl (zAd (zAb (gc _ _ (zB1 rfl rfl ?_))))
     refine zBl (zAm (zA0 (zAb (g6 _ _ (zAa (w_p (zBg rfl rfl rfl rfl (by omega) (by omega)) rfl (zAz rfl rfl (zAd (zAb (g5 _ _ (nxI (m.trains.length - (i + 1)) (by omega) ?_)))))))))))
     first
       | exact ⟨i + 1, rfl, by omega, rfl, by rw [zFc hi2 (by first | exact .inl (by omega) | exact .inr (.inl (zGo (by assumption))) | exact .inr (.inr (by assumption)))]; exact g0.tail⟩
       | exact ⟨i + 1, rfl, by omega, rfl, by rw [zF5 hi2 (fun h => by rcases h with h | h | h; omega; omega; simp_all)]; exact g0.tail⟩
    try simp only [zS] at gf
    refine w_y rfl rfl rfl (zAi (v := .func _ _ _) rfl rfl) rfl ?_
    refine w_y rfl rfl rfl (zA2 rfl rfl) rfl ?_
    refine zAr (zAq rfl rfl rfl) call67 rfl rfl rfl rfl (c67 m _ mb mm hk.cons.cons.cons.cons.cons.cons i hi2 g0) ?_
    rintro _ jC ⟨rfl, gg⟩
    refine w_y rfl rfl rfl (zDz rfl rfl) rfl ?_
    refine w_p (zA9 (v := .bool _) rfl rfl rfl rfl) rfl (zAd (zAb (gc _ _ (zAu rfl rfl (fun gh => ?_) (fun gh => ?_)))))
    ·
     try simp only [zS] at gh
     refine zBl (zAm (zA0 (zAb (g6 _ _ (zAa (w_p (zBg rfl rfl rfl rfl (by omega) (by omega)) rfl (zAz rfl rfl (zAd (zAb (g5 _ _ (nxI (m.trains.length - (i + 1)) (by omega) ?_)))))))))))
     first
       | exact ⟨i + 1, rfl, by omega, rfl, by rw [zFc hi2 (by first | exact .inl (by omega) | exact .inr (.inl (zGo (by assumption))) | exact .inr (.inr (by assumption)))]; exact gg.tail⟩
       | exact ⟨i + 1, rfl, by omega, rfl, by rw [zF5 hi2 (fun h => by rcases h with h | h | h; omega; omega; simp_all)]; exact gg.tail⟩
    try simp only [zS] at gh
    refine zAs (zAb (gV _ _ (zCn [8] [(0,0),(1,1),(2,0),(3,1),(4,0),(5,1),(6,0),(7,0),(8,3)] zCb (by kernel_rfl) gg (fun jD g7 => ?_))))
    refine d_w rfl (fun _ => zAf (o := 0) (i := 0) underlying55 rfl sizeOf3 rfl rfl rfl) rfl ?_
    refine zBd rfl zAc rfl g7 (fun _ hq => (zAj isAgg3 hq rfl rfl (zAk (i := 0) (vs := [_]) rfl rfl))) ?_
    refine d_w rfl (fun _ => zBr underlying112 sizeOf3 rfl rfl rfl rfl (i := (m.trains[i]'hi2).room.toNat) (by first | rfl | omega) (by omega)) rfl ?_
    refine zBd rfl zAc rfl g7 (fun _ hq => (zAj isAgg3 hq rfl rfl (zB7 (i := 1) (j := (m.trains[i]'hi2).room.toNat) rfl (by first | omega | rfl | (simp only [hx.1, zBq, zBz, zB5, zL] <;> omega))))) ?_
    refine d_w rfl (fun _ => zAf (o := 3) (i := 3) underlying55 rfl sizeOf3 rfl rfl rfl) rfl ?_
    refine zBd rfl zAc rfl g7 (fun _ hq => (zAj isAgg3 hq rfl rfl (zAk (i := 0) (vs := [_]) rfl rfl))) ?_
    refine d_w rfl (fun _ => zBg rfl rfl rfl rfl (by omega) (by omega)) rfl ?_
    refine d_w rfl (fun _ => zBr underlying112 sizeOf3 rfl rfl rfl rfl (i := (m.trains[i]'hi2).room.toNat) (by first | rfl | omega) (by omega)) rfl ?_
    refine zDc rfl ?_
    refine zC0 (i := 1) (j := (m.trains[i]'hi2).room.toNat) zAc sizeOf3 rfl rfl rfl rfl g7 rfl (by first | omega | rfl | (simp only [hx.1, zBq, zBz, zB5, zL] <;> omega)) (fun jE gq => ?_)
    refine zAd (qn ?_)
    refine zCf ?_
    refine zAl (zAb (g6 _ _ (zAa (w_p (zBg rfl rfl rfl rfl (by omega) (by omega)) rfl (zAz rfl rfl (zAd (zAb (g5 _ _ (nxI (m.trains.length - (i + 1)) (by omega) ?_)))))))))
    first
      | exact ⟨i + 1, rfl, by omega, rfl, by rw [zFc hi2 (by first | exact .inl (by omega) | exact .inr (.inl (zGo (by assumption))) | exact .inr (.inr (by assumption)))]; exact gq.tail⟩
      | exact ⟨i + 1, rfl, by omega, rfl, by rw [zF5 hi2 (fun h => by rcases h with h | h | h; omega; omega; simp_all)]; exact gq.tail⟩
   try simp only [zS] at gb
   refine zBl (zAm (zAm (zA0 (zAb (gN _ _ (zAe (fun jF gW => (zAe (fun jG gX => (zAa (w_p (zAf (o := 3) (i := 1) underlying115 rfl sizeOf113 rfl rfl rfl) rfl ?_)))))))))))
   refine w_p (y_loadIP (o := 3) (i := 3) isAgg113 sizeOf113 (by first | omega | rfl | (simp only [hx.1, zBq, zBz, zB5, zL] <;> omega)) hs rfl rfl rfl) rfl ?_
   refine w_p (zAi (v := _) rfl rfl) rfl (zAd (zAb (gX _ _ (zAw ?_))))
   refine zBs [12,13,72,73,74,75,76,77,78,79,80,81,82,83,84,85,86,87] [72] (fun k vs w => ∃ j : Nat, vs = [.int .i64 j] ∧ j ≤ 4 ∧ k = 4 - j ∧ St w0 w ((ga, blk 112 (iv (capsU m (x.getD 7 0) b m.trains.length))) :: (g4, blk 163 (iv (List.replicate 16 0))) :: (b6, blk 163 (iv ((lacksTo m x b).set b (wantU x b j)))) :: (b3, blk 115 (iv x)) :: (mm, .map es ck) :: F)) (4) ?_ ?_
   ·
    exact ⟨0, rfl, by omega, by omega, by have hil : i = m.trains.length := (by omega); subst hil; rw [show wantU x b 0 = 0 from rfl, set_zero]; exact hs⟩
   intro k vs μ jH hI jI gY
   obtain ⟨j, rfl, hja, rfl, hs⟩ := hI
   refine zAe (fun jJ gZ => (zAa (w_p (zBw rfl rfl rfl rfl) rfl (zAd (zAb (gZ _ _ (zAe (fun jK hD => (zAu rfl rfl (fun gi => ?_) (fun gi => ?_))))))))))
   ·
    try simp only [zS] at gi
    refine zAs (zAb (hD _ _ (zAe (fun jL hG => (zAw ?_)))))
    refine zAe (fun jM hH => (zAa (zAz rfl rfl (w_p (zKc (i := j) underlying113 underlying3 sizeOf3 rfl rfl rfl rfl rfl rfl (by omega) (by first | omega | rfl | (simp only [hx.1, zBq, zBz, zB5, zL] <;> omega))) rfl ?_))))
    refine zBe rfl rfl (zBe rfl rfl (zAd (zAb (hH _ _ ?_))))
    have hw1 := zGa hx.2 b j
    have hgw := zKp (x := x) (show j < 4 by omega)
    have hw2 := zFv (by omega) (by omega) hx.2 (3 + j)
    rw [← hgw] at hw2
    have hw3 := mul_bit (b := b) (j := j) (a := 10000) (by omega) hw2
    have hw4 := zDv (l := lacksTo m x b) (b := b) (v := wantU x b j) (by rw [zBq]; omega)
    refine zCn [11] [(0,0),(1,0),(2,1),(3,0),(4,0),(5,0),(6,0),(7,0),(8,0),(9,0),(10,0),(11,3)] zCb (by kernel_rfl) hs (fun jN gr => ?_)
    refine d_w rfl (fun _ => zA2 rfl rfl) rfl ?_
    refine d_w rfl (fun _ => zBr underlying163 sizeOf3 rfl rfl rfl rfl (i := b) (by first | rfl | omega) (by omega)) rfl ?_
    refine zBd rfl zAc rfl gr (fun _ hq => (zAj isAgg3 hq rfl rfl (zB7 (i := 2) (j := b) rfl (by first | omega | rfl | (simp only [hx.1, zBq, zBz, zB5, zL] <;> omega))))) ?_
    refine d_w rfl (fun _ => zA2 rfl rfl) rfl ?_
    refine d_w rfl (fun _ => zA2 rfl rfl) rfl ?_
    refine d_w rfl (fun _ => zA2 rfl rfl) rfl ?_
    refine d_w rfl (fun _ => zJ9 (x := _) (y := _) rfl rfl rfl rfl rfl rfl (by first | omega | exact zBo (by omega))) rfl ?_
    refine d_w rfl (fun _ => show Yd _ _ _ _ (.int .i64 ((bit b j : Nat) : Int)) from (zI2 (x := _) (y := 1) rfl rfl rfl rfl rfl rfl (by first | omega | exact zBo (by omega)) (by first | omega | exact zBo (by omega)))) rfl ?_
    refine d_w rfl (fun _ => y_mul rfl rfl rfl rfl (by omega) (by omega)) rfl ?_
    refine d_w rfl (fun _ => zBg rfl rfl rfl rfl (by omega) (by omega)) rfl ?_
    refine d_w rfl (fun _ => zBr underlying163 sizeOf3 rfl rfl rfl rfl (i := b) (by first | rfl | omega) (by omega)) rfl ?_
    refine zDc rfl ?_
    refine zC0 (i := 2) (j := b) zAc sizeOf3 rfl rfl rfl rfl gr rfl (by first | omega | rfl | (simp only [hx.1, zBq, zBz, zB5, zL] <;> omega)) (fun jO hO => ?_)
    refine zAd (qn ?_)
    refine zCf ?_
    refine zAl (zAb (hG _ _ (zAa (w_p (zBg rfl rfl rfl rfl (by omega) (by omega)) rfl (zAz rfl rfl (zAd (zAb (gY _ _ (nxI (4 - (j + 1)) (by omega) ?_)))))))))
    exact ⟨j + 1, rfl, by omega, rfl, by rw [← set_want hb16 (by omega)]; exact hO⟩
   try simp only [zS] at gi
   refine zBl (zAm (zAm (zA0 (zAb (gW _ _ (zAe (fun jP hX => (zAa (w_p (zCz (i := 0) isAgg112 sizeOf112 (by first | omega | rfl | (simp only [hx.1, zBq, zBz, zB5, zL] <;> omega)) hs rfl rfl rfl) rfl ?_)))))))))
   refine w_p (zAi (v := _) rfl rfl) rfl (zAd (zAb (hX _ _ (zAw ?_))))
   refine zBs [14,15,89,90,91,92,93,94,95,96,97,98,99,100,101,102,103,104] [89] (fun k vs w => ∃ q : Nat, vs = [.int .i64 q] ∧ q ≤ 3 ∧ k = 3 - q ∧ St w0 w ((ga, blk 112 (iv (capsU m (x.getD 7 0) b m.trains.length))) :: (g4, blk 163 (iv (List.replicate 16 0))) :: (b6, blk 163 (iv ((lacksTo m x b).set b (wantU x b 4 - handU (capsU m (x.getD 7 0) b m.trains.length) x q)))) :: (b3, blk 115 (iv x)) :: (mm, .map es ck) :: F)) (3) ?_ ?_
   ·
    exact ⟨0, rfl, by omega, by omega, by have hj4 : j = 4 := (by omega); subst hj4; rw [show handU (capsU m (x.getD 7 0) b m.trains.length) x 0 = 0 from rfl, Int.sub_zero]; exact hs⟩
   intro k vs μ jQ hI jR hY
   obtain ⟨q, rfl, hqa, rfl, hs⟩ := hI
   refine zAe (fun jS j0 => (zAa (w_p (zBw rfl rfl rfl rfl) rfl (zAd (zAb (j0 _ _ (zAe (fun jT j1 => (zAu rfl rfl (fun gj => ?_) (fun gj => ?_))))))))))
   ·
    try simp only [zS] at gj
    refine zAs (zAb (j1 _ _ (zAe (fun jU j2 => (zAw ?_)))))
    refine zAe (fun jV j3 => (zAa (zAz rfl rfl (w_p (zKc (i := q) underlying112 underlying3 sizeOf3 rfl rfl rfl rfl rfl rfl (by omega) (by first | omega | rfl | (simp only [hx.1, zBq, zBz, zB5, zL] <;> omega))) rfl ?_))))
    refine zBe rfl rfl (zBe rfl rfl (zAd (zAb (j3 _ _ ?_))))
    have hw1 := zGa hx.2 b 4
    have hcc := caps_in hk.ok (x.getD 7 0) b m.trains.length (Nat.le_refl _)
    have hh1 := zHs hcc hx.2 q
    have hh2 := zFv (by omega) (by omega) hx.2 q
    have hh3 := zFv (by omega) (by omega) hcc q
    have hw4 := zDv (l := lacksTo m x b) (b := b) (v := wantU x b 4 - handU (capsU m (x.getD 7 0) b m.trains.length) x q) (by rw [zBq]; omega)
    refine zCn [11] [(0,0),(1,0),(2,1),(3,0),(4,0),(5,0),(6,0),(7,1),(8,0),(9,0),(10,0),(11,3)] zCb (by kernel_rfl) hs (fun jW gk => ?_)
    refine d_w rfl (fun _ => zA2 rfl rfl) rfl ?_
    refine d_w rfl (fun _ => zBr underlying163 sizeOf3 rfl rfl rfl rfl (i := b) (by first | rfl | omega) (by omega)) rfl ?_
    refine zBd rfl zAc rfl gk (fun _ hq => (zAj isAgg3 hq rfl rfl (zB7 (i := 2) (j := b) rfl (by first | omega | rfl | (simp only [hx.1, zBq, zBz, zB5, zL] <;> omega))))) ?_
    refine d_w rfl (fun _ => zA2 rfl rfl) rfl ?_
    refine d_w rfl (fun _ => zA2 rfl rfl) rfl ?_
    refine d_w rfl (fun _ => zAf (o := 0) (i := 0) underlying115 rfl sizeOf112 rfl rfl rfl) rfl ?_
    refine d_w rfl (fun _ => zBr underlying112 sizeOf3 rfl rfl rfl rfl (i := q) (by first | rfl | omega) (by omega)) rfl ?_
    refine zBd rfl zAc rfl gk (fun _ hq => (zAj isAgg3 hq rfl rfl (zB7 (i := 3) (j := q) rfl (by first | omega | rfl | (simp only [hx.1, zBq, zBz, zB5, zL] <;> omega))))) ?_
    refine d_w rfl (fun _ => y_min2 rfl rfl rfl rfl) rfl ?_
    refine d_w rfl (fun _ => zE0 rfl rfl rfl rfl (by omega) (by omega)) rfl ?_
    refine d_w rfl (fun _ => zBr underlying163 sizeOf3 rfl rfl rfl rfl (i := b) (by first | rfl | omega) (by omega)) rfl ?_
    refine zDc rfl ?_
    refine zC0 (i := 2) (j := b) zAc sizeOf3 rfl rfl rfl rfl gk rfl (by first | omega | rfl | (simp only [hx.1, zBq, zBz, zB5, zL] <;> omega)) (fun jX j4 => ?_)
    refine zAd (qn ?_)
    refine zCf ?_
    refine zAl (zAb (j2 _ _ (zAa (w_p (zBg rfl rfl rfl rfl (by omega) (by omega)) rfl (zAz rfl rfl (zAd (zAb (hY _ _ (nxI (3 - (q + 1)) (by omega) ?_)))))))))
    exact ⟨q + 1, rfl, by omega, rfl, by rw [← set_hand hb16]; exact j4⟩
   try simp only [zS] at gj
   refine zBl (zAm (zAm (zA0 (q_ng_normal ?_))))
   refine zAl (zAb (gJ _ _ (zAa (w_p (zBg rfl rfl rfl rfl (by omega) (by omega)) rfl (zAz rfl rfl (zAd (zAb (gG _ _ (nxI (16 - (b + 1)) (by omega) ?_)))))))))
   exact ⟨b + 1, rfl, by omega, rfl, by have hq3 : q = 3 := (by omega); subst hq3; rw [← set_done hb16]; exact hs.tail⟩
  try simp only [zS] at g9
  refine zBl (zAm (zAm (zA0 (zAb (gE _ _ (zAe (fun jY j5 => ?_)))))))
  have hb16 : b = 16 := by omega
  subst hb16
  rw [lacksTo_all] at hs
  refine zCn [6] [(0,0),(1,0),(2,0),(3,1),(4,1),(5,1),(6,3)] zCb (by kernel_rfl) hs (fun jZ g8 => ?_)
  refine d_w rfl (fun _ => zAi (v := .pointer _) rfl rfl) rfl ?_
  refine d_w rfl (fun _ => zBy rfl rfl) rfl ?_
  refine d_w rfl (fun _ => zAf (o := 3) (i := 1) underlying147 rfl sizeOf145 rfl rfl rfl) rfl ?_
  refine zBd rfl zAc rfl g8 (fun _ hq => (zAj isAgg145 hq.tail.tail.tail.tail rfl rfl (show Ats _ _ _ _ [_] from Ats.part hb 3 1))) ?_
  refine zBd rfl zAc rfl g8 (fun _ hq => (zCz (i := 2) isAgg115 sizeOf115 (by first | omega | rfl | (simp only [hx.1, zBq, zBz, zB5, zL] <;> omega)) hq rfl rfl rfl)) ?_
  refine zBd rfl zAc rfl g8 (fun _ hq => (zCz (i := 1) isAgg163 sizeOf163 (by first | omega | rfl | (simp only [hx.1, zBq, zBz, zB5, zL] <;> omega)) hq rfl rfl rfl)) ?_
  refine zDc rfl ?_
  refine K_mapAdd (i := 3) (l := x) zAc underlying145 key115 hx.1 rfl rfl rfl rfl rfl rfl rfl g8 rfl hf (fun k4 gt => ?_)
  refine zAd (qn ?_)
  refine zCf ?_
  refine zAb (j5 _ _ (zAe (fun k5 j6 => (zAa (w_p (zCz (i := 1) isAgg163 sizeOf163 (by first | omega | rfl | (simp only [hx.1, zBq, zBz, zB5, zL] <;> omega)) gt rfl rfl rfl) rfl ?_)))))
  refine zDf (i := 1) (l := _) zAc sizeOf163 (by first | omega | rfl | (simp only [hx.1, zBq, zBz, zB5, zL] <;> omega)) rfl rfl rfl rfl rfl gt rfl (by first | omega | rfl | (simp only [hx.1, zBq, zBz, zB5, zL] <;> omega)) (fun k6 gu => ?_)
  refine zAd (zAb (j6 _ _ (zAy (zA1 (l := [.cell 4 163]) (vs := [_]) rfl ⟨⟨rfl, _, rfl, run_loadI (i := 1) isAgg163 sizeOf163 (by first | omega | rfl | (simp only [hx.1, zBq, zBz, zB5, zL] <;> omega)) gu rfl⟩, trivial⟩ ?_))))
  exact ⟨rfl, gu.tail.tail.tail⟩

theorem lacks_con {w0 w : World} {X M F : List (Nat × Obj)} (m : Market) (p : At3) (mb mm : Nat) (hk : MK w0 F m p mb mm)  (x : List Int) (hx : Small x) (hM : Memo m mm M) (hs : St w0 w (X ++ (M ++ F))) :
    Con Tryz.prog 96 [.pointer (some ⟨mb, 0, none⟩), ia x] w fun v w' => v = ia (lacksV m x) ∧ ∃ M', Memo m mm M' ∧ St w0 w' (X ++ (M' ++ F)) := by
  obtain ⟨es, ck, rfl, hes⟩ := hM
  have g3 : St w0 w ((mm, .map es ck) :: (X ++ F)) := hs.perm (zBc X [(mm, .map es ck)] F)
  rcases K_findKey key115 hx.1 es.toList (fun e he => by obtain ⟨y, h1, h2, _⟩ := hes e he; exact ⟨y, h1, h2⟩) with ⟨hf, hne⟩ | ⟨j, e, hf, hmem, hkey⟩
  · refine (c96n m p mb mm hk.app x hx es ck hf g3).mono ?_
    rintro v w' ⟨rfl, g0⟩
    refine ⟨rfl, [(mm, .map (es.push { key := ia x, val := ia (lacksV m x), born := ck }) (ck + 1))], ⟨_, _, rfl, fun e he => ?_⟩, g0.perm (zBc [_] X F)⟩
    rw [Array.toList_push, List.mem_append] at he
    rcases he with he | he
    · exact hes e he
    · rw [List.mem_singleton] at he
      subst he
      exact ⟨x, hx.1, rfl, rfl⟩
  · obtain ⟨y, h1, h2, h3⟩ := hes e hmem
    have hyx : y = x := ia_inj (h2.symm.trans hkey)
    subst hyx
    rw [h3] at hf
    refine (c96f m p mb mm hk.app y hx es ck j _ (zBz m y) hf g3).mono ?_
    rintro v w' ⟨rfl, g0⟩
    exact ⟨rfl, _, ⟨es, ck, rfl, hes⟩, g0.perm (zBc [_] X F)⟩
end Go.Proofs.Sb
set_option maxRecDepth 20000
namespace Go.Proofs.Sb
open Go.Proofs.Tryz
open Go.Rt Go.Rt.Sh
attribute [local irreducible] WL WC Con Yd At Ats Sl Agree DW

theorem c70 {w0 w : World} {X M F : List (Nat × Obj)} (m : Market) (p : At3) (mb mm : Nat) (hk : MK w0 F m p mb mm) (x : List Int) (hx : Small x) (sub : Nat) (hM : Memo m mm M) (hs : St w0 w (X ++ (M ++ F))) :
  Con Tryz.prog 70 [.pointer (some ⟨mb, 0, none⟩), ia x, .int .i64 sub] w fun v w' => ∃ B a c M', v = .tuple #[.slice a (worst m x sub).1.length c, .int .i64 (worst m x sub).2] ∧ Sl w0 B a 1 ((worst m x sub).1.map fun x => [Value.int .i64 x]) ∧ Memo m mm M' ∧ St w0 w' (B ++ (X ++ (M' ++ F))) := by
  refine zAt (n := 52) func70 rfl rfl (zNl rfl) ?_
  have hb := hk.b
  have hlr := hk.ok.lr
  have hls := hk.ok.ls
  have hlt := hk.ok.lt
  refine zAe (fun K2 gh => (zAa (w_boxI (l := _) zAc rfl rfl rfl hs (fun b3 w4 gf => ?_))))
  refine zA5 rfl rfl (zA5 rfl rfl (zAd (zAb (gh _ _ (zAe (fun K7 gi => (zAe (fun K9 gj => (zAa (w_p (zAi (v := .pointer _) rfl rfl) rfl ?_))))))))))
  refine w_p (zCz (i := 0) isAgg115 sizeOf115 (by first | omega | rfl | (simp only [hx.1, zBz, zL] <;> omega)) gf rfl rfl rfl) rfl ?_
  refine zAr zAc call96 rfl rfl rfl rfl (lacks_con (X := (_ :: X)) m p mb mm hk x hx hM gf) ?_
  rintro _ gv ⟨rfl, M13, gk, g6⟩
  replace g6 := (show St _ _ (_ :: X ++ (M13 ++ (F))) from g6)
  refine w_p (zAi (v := _) rfl rfl) rfl (zAd (zAb (gj _ _ (zAw ?_))))
  refine zBs [6,7,8,9,10,14,15,16,17,18,19,20,21,22,23,24,25,26,27,28,29,30,31,32,33,34,35,36,37,38,39,40,41,42,43,44,45,46,47,48,49] [6,7,14] (fun k vs w => ∃ (b : Nat) (av : Option Addr) (cv : Nat) (B : List (Nat × Obj)), vs = [.slice av (worstTo m.shops.length sub (lacksV m x) b).1.length cv, .int .i64 (worstTo m.shops.length sub (lacksV m x) b).2, .int .i64 b] ∧ b ≤ 16 ∧ k = 16 - b ∧ Sl w0 B av 1 ((worstTo m.shops.length sub (lacksV m x) b).1.map fun x => [Value.int .i64 x]) ∧ St w0 w (B ++ ((b3, blk 115 (iv x)) :: (X ++ (M13 ++ F))))) (16) ?_ ?_
  ·
   exact ⟨0, _,_, [], rfl, by omega, by omega, Sl.nil _ _, g6⟩
  intro k vs μ gw hI gx g0
  obtain ⟨b, av, cv, B, rfl, hba, rfl, hsl, hs⟩ := hI
  refine zAe (fun gy gm => (zAa (w_p (zBw rfl rfl rfl rfl) rfl (zAd (zAb (gm _ _ (zAe (fun gz gn => (zAu rfl rfl (fun g7 => ?_) (fun g7 => ?_))))))))))
  ·
   try simp only [zS] at g7
   refine zAs (zAb (gn _ _ (zAe (fun gA g3 => (zAw ?_)))))
   refine zAe (fun gB gq => ?_)
   have hb16 : b < 16 := by omega
   have hlb := lackB_bound hk.ok hx b
   rw [← zHc hb16] at hlb
   refine zAa (zAz rfl rfl (w_p (zKc (i := b) underlying163 underlying3 sizeOf3 rfl rfl rfl rfl rfl rfl (by omega) (by first | omega | rfl | (simp only [hx.1, zBz, zL] <;> omega))) rfl ?_))
   refine zBe rfl rfl (zBe rfl rfl (zAd (zAb (gq _ _ (zAe (fun gC gr => (zAe (fun gE g8 => (zAa (zAz rfl rfl (zAz rfl rfl (w_p (zKe (x := b) (y := sub) rfl rfl rfl rfl (by first | rfl | omega) (by first | rfl | omega) (by first | omega | exact zBo (by omega))) rfl ?_))))))))))))
   refine w_p (zB2 rfl rfl rfl rfl) rfl (w_p (zAi (v := .bool _) rfl rfl) rfl (zBi (fun g9 => ?_) (fun g9 => ?_)))
   ·
    try simp only [zS] at g9
    refine zAh rfl rfl rfl ?_
    refine zAh rfl rfl rfl ?_
    refine w_p (zAx (v := _) rfl rfl rfl rfl) rfl (w_p (zAi (v := .bool _) rfl rfl) rfl (zAh rfl rfl rfl ?_))
    refine zAh rfl rfl rfl ?_
    refine zAh rfl rfl rfl ?_
    refine w_p (zAx (v := _) rfl rfl rfl rfl) rfl (zAd (zAb (g8 _ _ (zB1 rfl rfl ?_))))
    refine zBl (zAm (zA0 (zAb (g3 _ _ (zAa (w_p (zBg rfl rfl rfl rfl (by omega) (by omega)) rfl (zAz rfl rfl (zAd (zAb (g0 _ _ (nxI (16 - (b + 1)) (by omega) ?_)))))))))))
    first
      | exact ⟨b + 1, av, cv, B, by rw [← zCr (by first | exact .inl (by omega) | exact .inr (.inl (by omega)) | exact .inr (.inr (by omega)))]; rfl, by omega, rfl, by rw [← zCr (by first | exact .inl (by omega) | exact .inr (.inl (by omega)) | exact .inr (.inr (by omega)))]; exact hsl, hs⟩
      | (have hq := zEd (n := m.shops.length) (sub := sub) (lk := lacksV m x) (k := b) (by omega) (by omega) (by omega) (by first | exact .inl (by omega) | exact .inr (by assumption))
         exact ⟨b + 1, al1, cl1, B1 ++ B, by rw [← hq]; rfl, by omega, rfl, by rw [← hq]; exact hsl1.top, by rw [List.append_assoc]; exact hs⟩)
      | (have hq := zD3 (n := m.shops.length) (sub := sub) (lk := lacksV m x) (k := b) (by omega) (by omega) (by omega) (by omega) (by assumption)
         exact ⟨b + 1, av, cv, B1 ++ B, by rw [← hq]; rfl, by omega, rfl, by rw [← hq]; exact hsl.app, by rw [List.append_assoc]; exact hs⟩)
   try simp only [zS] at g9
   refine w_y rfl rfl rfl (zA2 rfl rfl) rfl ?_
   refine w_y rfl rfl rfl (zBw rfl rfl rfl rfl) rfl ?_
   refine w_p (zA9 (v := .bool _) rfl rfl rfl rfl) rfl (w_p (zAi (v := .bool _) rfl rfl) rfl (zBi (fun ga => ?_) (fun ga => ?_)))
   ·
    try simp only [zS] at ga
    refine zAh rfl rfl rfl ?_
    refine zAh rfl rfl rfl ?_
    refine zAh rfl rfl rfl ?_
    refine w_p (zAx (v := _) rfl rfl rfl rfl) rfl (zAd (zAb (g8 _ _ (zB1 rfl rfl ?_))))
    refine zBl (zAm (zA0 (zAb (g3 _ _ (zAa (w_p (zBg rfl rfl rfl rfl (by omega) (by omega)) rfl (zAz rfl rfl (zAd (zAb (g0 _ _ (nxI (16 - (b + 1)) (by omega) ?_)))))))))))
    first
      | exact ⟨b + 1, av, cv, B, by rw [← zCr (by first | exact .inl (by omega) | exact .inr (.inl (by omega)) | exact .inr (.inr (by omega)))]; rfl, by omega, rfl, by rw [← zCr (by first | exact .inl (by omega) | exact .inr (.inl (by omega)) | exact .inr (.inr (by omega)))]; exact hsl, hs⟩
      | (have hq := zEd (n := m.shops.length) (sub := sub) (lk := lacksV m x) (k := b) (by omega) (by omega) (by omega) (by first | exact .inl (by omega) | exact .inr (by assumption))
         exact ⟨b + 1, al1, cl1, B1 ++ B, by rw [← hq]; rfl, by omega, rfl, by rw [← hq]; exact hsl1.top, by rw [List.append_assoc]; exact hs⟩)
      | (have hq := zD3 (n := m.shops.length) (sub := sub) (lk := lacksV m x) (k := b) (by omega) (by omega) (by omega) (by omega) (by assumption)
         exact ⟨b + 1, av, cv, B1 ++ B, by rw [← hq]; rfl, by omega, rfl, by rw [← hq]; exact hsl.app, by rw [List.append_assoc]; exact hs⟩)
   try simp only [zS] at ga
   refine w_y rfl rfl rfl (zA2 rfl rfl) rfl ?_
   refine w_y rfl rfl rfl (zA2 rfl rfl) rfl ?_
   refine w_y rfl rfl rfl (zBw rfl rfl rfl rfl) rfl ?_
   refine w_p (zA9 (v := .bool _) rfl rfl rfl rfl) rfl (zAd (zAb (g8 _ _ (zAu rfl rfl (fun gb => ?_) (fun gb => ?_)))))
   ·
    try simp only [zS] at gb
    refine zBl (zAm (zA0 (zAb (g3 _ _ (zAa (w_p (zBg rfl rfl rfl rfl (by omega) (by omega)) rfl (zAz rfl rfl (zAd (zAb (g0 _ _ (nxI (16 - (b + 1)) (by omega) ?_)))))))))))
    first
      | exact ⟨b + 1, av, cv, B, by rw [← zCr (by first | exact .inl (by omega) | exact .inr (.inl (by omega)) | exact .inr (.inr (by omega)))]; rfl, by omega, rfl, by rw [← zCr (by first | exact .inl (by omega) | exact .inr (.inl (by omega)) | exact .inr (.inr (by omega)))]; exact hsl, hs⟩
      | (have hq := zEd (n := m.shops.length) (sub := sub) (lk := lacksV m x) (k := b) (by omega) (by omega) (by omega) (by first | exact .inl (by omega) | exact .inr (by assumption))
         exact ⟨b + 1, al1, cl1, B1 ++ B, by rw [← hq]; rfl, by omega, rfl, by rw [← hq]; exact hsl1.top, by rw [List.append_assoc]; exact hs⟩)
      | (have hq := zD3 (n := m.shops.length) (sub := sub) (lk := lacksV m x) (k := b) (by omega) (by omega) (by omega) (by omega) (by assumption)
         exact ⟨b + 1, av, cv, B1 ++ B, by rw [← hq]; rfl, by omega, rfl, by rw [← hq]; exact hsl.app, by rw [List.append_assoc]; exact hs⟩)
   try simp only [zS] at gb
   refine zAs (zAb (gr _ _ (zAe (fun gF gt => ?_))))
   have hle1 := zDh b m.shops.length
   have hle2 := worstTo_len m.shops.length sub (lacksV m x) b
   refine zAa (zAz rfl rfl (w_p (zAi (v := .pointer _) rfl rfl) rfl (w_p (zBy rfl rfl) rfl (w_p (zAf (o := 0) (i := 0) underlying147 rfl sizeOf31 rfl rfl rfl) rfl (w_p (zAf (o := 1) (i := 1) underlying31 rfl sizeOf28 rfl rfl rfl) rfl ?_)))))
   refine w_p (zAj isAgg28 hs.drop.tail.drop.drop rfl rfl (show Ats _ _ _ _ [_] from Ats.part hb 1 1)) rfl (w_p (zA8 underlying28 rfl rfl) rfl (zAr zAc call82 rfl rfl rfl rfl (c82 _ _ (by omega) (by omega) hs) ?_))
   rintro _ gG ⟨B1, al1, cl1, rfl, hsl1, g4⟩
   replace g4 := (show St _ _ (B1 ++ (B ++ (_ :: X ++ (M13 ++ (F))))) from g4)
   refine w_p (zAo (v := .slice _ _ _) rfl rfl) rfl (zAd (zAb (gt _ _ (zAe (fun gH gg => (zAa (zAz rfl rfl (zAz rfl rfl (w_p (zD5 rfl rfl rfl rfl) rfl ?_)))))))))
   refine w_p (zAi (v := .bool _) rfl rfl) rfl (zBi (fun gc => ?_) (fun gc => ?_))
   ·
    try simp only [zS] at gc
    refine zAh rfl rfl rfl ?_
    refine zAh rfl rfl rfl ?_
    refine zAh rfl rfl rfl ?_
    refine w_p (zAx (v := _) rfl rfl rfl rfl) rfl (zAd (zAb (gg _ _ (zB1 rfl rfl ?_))))
    refine zAa (w_p (zAi (v := .slice _ _ _) rfl rfl) rfl (zAz rfl rfl (w_p (zAo (v := .slice _ _ _) rfl rfl) rfl (zBe rfl rfl (zAd (zAl (zAb (g3 _ _ (zAa (w_p (zBg rfl rfl rfl rfl (by omega) (by omega)) rfl ?_))))))))))
    refine zAz rfl rfl (zAd (zAb (g0 _ _ (nxI (16 - (b + 1)) (by omega) ?_))))
    first
      | exact ⟨b + 1, av, cv, B, by rw [← zCr (by first | exact .inl (by omega) | exact .inr (.inl (by omega)) | exact .inr (.inr (by omega)))]; rfl, by omega, rfl, by rw [← zCr (by first | exact .inl (by omega) | exact .inr (.inl (by omega)) | exact .inr (.inr (by omega)))]; exact hsl, g4⟩
      | (have hq := zEd (n := m.shops.length) (sub := sub) (lk := lacksV m x) (k := b) (by omega) (by omega) (by omega) (by first | exact .inl (by omega) | exact .inr (by assumption))
         exact ⟨b + 1, al1, cl1, B1 ++ B, by rw [← hq]; rfl, by omega, rfl, by rw [← hq]; exact hsl1.top, by rw [List.append_assoc]; exact g4⟩)
      | (have hq := zD3 (n := m.shops.length) (sub := sub) (lk := lacksV m x) (k := b) (by omega) (by omega) (by omega) (by omega) (by assumption)
         exact ⟨b + 1, av, cv, B1 ++ B, by rw [← hq]; rfl, by omega, rfl, by rw [← hq]; exact hsl.app, by rw [List.append_assoc]; exact g4⟩)
   try simp only [zS] at gc
   refine w_y rfl rfl rfl (zAi (v := .slice _ _ _) rfl rfl) rfl ?_
   refine w_y rfl rfl rfl (zAi (v := .slice _ _ _) rfl rfl) rfl ?_
   refine zAr (zAq rfl rfl rfl) call83 rfl rfl rfl rfl (c83 _ _ _ _ _ _ (by omega) (by omega) hsl1.top hsl.top.app g4) ?_
   rintro _ gI ⟨rfl, g5⟩
   refine w_p (zA9 (v := .bool _) rfl rfl rfl rfl) rfl (zAd (zAb (gg _ _ (zAu rfl rfl (fun gd => ?_) (fun gd => ?_)))))
   ·
    try simp only [zS] at gd
    refine zAa (w_p (zAi (v := .slice _ _ _) rfl rfl) rfl (zAz rfl rfl (w_p (zAo (v := .slice _ _ _) rfl rfl) rfl (zBe rfl rfl (zAd (zAl (zAb (g3 _ _ (zAa (w_p (zBg rfl rfl rfl rfl (by omega) (by omega)) rfl ?_))))))))))
    refine zAz rfl rfl (zAd (zAb (g0 _ _ (nxI (16 - (b + 1)) (by omega) ?_))))
    first
      | exact ⟨b + 1, av, cv, B, by rw [← zCr (by first | exact .inl (by omega) | exact .inr (.inl (by omega)) | exact .inr (.inr (by omega)))]; rfl, by omega, rfl, by rw [← zCr (by first | exact .inl (by omega) | exact .inr (.inl (by omega)) | exact .inr (.inr (by omega)))]; exact hsl, g5⟩
      | (have hq := zEd (n := m.shops.length) (sub := sub) (lk := lacksV m x) (k := b) (by omega) (by omega) (by omega) (by first | exact .inl (by omega) | exact .inr (by assumption))
         exact ⟨b + 1, al1, cl1, B1 ++ B, by rw [← hq]; rfl, by omega, rfl, by rw [← hq]; exact hsl1.top, by rw [List.append_assoc]; exact g5⟩)
      | (have hq := zD3 (n := m.shops.length) (sub := sub) (lk := lacksV m x) (k := b) (by omega) (by omega) (by omega) (by omega) (by assumption)
         exact ⟨b + 1, av, cv, B1 ++ B, by rw [← hq]; rfl, by omega, rfl, by rw [← hq]; exact hsl.app, by rw [List.append_assoc]; exact g5⟩)
   try simp only [zS] at gd
   refine zAs (zAl (zAb (g3 _ _ (zAa (w_p (zBg rfl rfl rfl rfl (by omega) (by omega)) rfl (zAz rfl rfl (zAd (zAb (g0 _ _ (nxI (16 - (b + 1)) (by omega) ?_))))))))))
   first
     | exact ⟨b + 1, av, cv, B, by rw [← zCr (by first | exact .inl (by omega) | exact .inr (.inl (by omega)) | exact .inr (.inr (by omega)))]; rfl, by omega, rfl, by rw [← zCr (by first | exact .inl (by omega) | exact .inr (.inl (by omega)) | exact .inr (.inr (by omega)))]; exact hsl, g5⟩
     | (have hq := zEd (n := m.shops.length) (sub := sub) (lk := lacksV m x) (k := b) (by omega) (by omega) (by omega) (by first | exact .inl (by omega) | exact .inr (by assumption))
        exact ⟨b + 1, al1, cl1, B1 ++ B, by rw [← hq]; rfl, by omega, rfl, by rw [← hq]; exact hsl1.top, by rw [List.append_assoc]; exact g5⟩)
     | (have hq := zD3 (n := m.shops.length) (sub := sub) (lk := lacksV m x) (k := b) (by omega) (by omega) (by omega) (by omega) (by assumption)
        exact ⟨b + 1, av, cv, B1 ++ B, by rw [← hq]; rfl, by omega, rfl, by rw [← hq]; exact hsl.app, by rw [List.append_assoc]; exact g5⟩)
  try simp only [zS] at g7
  refine zBl (zAm (zAm (zA0 (zAb (gi _ _ (zAe (fun gJ gu => (zAa (w_p (zAi (v := .slice _ _ _) rfl rfl) rfl (zAz rfl rfl (w_p (zAo (v := .slice _ _ _) rfl rfl) rfl ?_)))))))))))
  refine zBe rfl rfl (zAd (zAb (gu _ _ (zAy (zA1 (l := [.tmp 6, .tmp 7]) (vs := [_,_]) rfl ⟨⟨rfl, show _ = (.slice _ _ _ : Value) from rfl⟩, ⟨rfl, (rfl : _ = Value.int _ _)⟩, trivial⟩ ?_)))))
  have hb16 : b = 16 := by omega
  subst hb16
  exact ⟨B ++ [_], av, cv, M13, rfl, hsl.top, gk, by rw [List.append_assoc]; exact hs⟩

theorem c69 {w0 w : World} {X M F : List (Nat × Obj)} (m : Market) (p : At3) (mb mm : Nat) (hk : MK w0 F m p mb mm) (x : List Int) (hx : Small x) (sub : Nat) (hM : Memo m mm M) (hs : St w0 w (X ++ (M ++ F))) :
  Con Tryz.prog 69 [.pointer (some ⟨mb, 0, none⟩), ia x, .int .i64 sub] w fun v w' => v = .bool (servedS m x sub) ∧ ∃ M', Memo m mm M' ∧ St w0 w' (X ++ (M' ++ F)) := by
  refine zAt (n := 18) func69 rfl rfl (zNl rfl) ?_
  refine zAe (fun K2 g4 => (zAa (w_boxI (l := _) zAc rfl rfl rfl hs (fun b3 w4 g3 => ?_))))
  refine zA5 rfl rfl (zAd (zAb (g4 _ _ (zAe (fun K7 g5 => (zAa (w_p (zAi (v := .pointer _) rfl rfl) rfl (w_p (zCz (i := 0) isAgg115 sizeOf115 (by first | omega | rfl | (simp only [hx.1, zL] <;> omega)) g3 rfl rfl rfl) rfl ?_))))))))
  refine zAz rfl rfl (zAr zAc call70 rfl rfl rfl rfl (c70 (X := (_ :: X)) m p mb mm hk x hx sub hM g3) ?_)
  rintro _ w9 ⟨g6, al_B12, cl_B12, M11, rfl, hsl_B12, g7, g0⟩
  replace g0 := (show St _ _ (g6 ++ (_ :: X ++ (M11 ++ (F)))) from g0)
  refine w_p (zAi (v := .tuple _) rfl rfl) rfl (w_p (zAp (v := .slice _ _ _) rfl rfl rfl) rfl (w_p (zAp (v := .int _ _) rfl rfl rfl) rfl (w_p (zAo (v := .slice _ _ _) rfl rfl) rfl (zBe rfl rfl (zAd (zAb (g5 _ _ (zAe (fun g9 g8 => (zAa (zAz rfl rfl ?_)))))))))))
  refine w_p (zB6 rfl rfl rfl rfl) rfl (w_p (zAo (v := .bool _) rfl rfl) rfl (zAd (zAb (g8 _ _ (zAy (zA1 (l := [.tmp 6]) (vs := [_]) rfl ⟨⟨rfl, (rfl : _ = Value.bool _)⟩, trivial⟩ ?_))))))
  exact ⟨rfl, M11, g7, g0.drop.tail⟩

end Go.Proofs.Sb
set_option maxRecDepth 20000
namespace Go.Proofs.Sb
open Go.Proofs.Tryz
open Go.Rt Go.Rt.Sh
attribute [local irreducible] WL WC Con Yd At Ats Sl Agree DW
theorem Try_SH_fb2 (x0 : Int) (w : World) : (Instr.buildSlice 43 1 [(0, .int .i64 x0)].toArray).run Tryz.prog w = .ok (.slice (some ⟨w.heap.size, 0, none⟩) 1 1) (w.alloc (Go.Rt.blk 3 [.int .i64 x0])) := by kernel_rfl
theorem zC8 {m : Market} {n : Int} {l : List Int} (h : enterE m n l = 0) : (check m).2.2 = 0 := (zGz h).1
theorem someE_enter {m : Market} {l : List Int} (h : someE m l = 0) : enterE m m.shops.length l = 0 := by
  unfold someE at h
  by_cases h1 : enterE m m.shops.length l = 0
  · exact h1
  · rw [if_pos h1] at h; exact absurd h h1
theorem zI9 {m : Market} {l : List Int} (h : enterE m m.shops.length l ≠ 0) : someE m l = enterE m m.shops.length l := by unfold someE; rw [if_pos h]
theorem zI8 {m : Market} {l : List Int} (h : enterE m m.shops.length l = 0) (h2 : orBits 0 l = none) : someE m l = 2 := by unfold someE; rw [if_neg (by simp [h]), h2]
theorem someE_0 {m : Market} {l : List Int} {s : Nat} (h : enterE m m.shops.length l = 0) (h2 : orBits 0 l = some s) : someE m l = 0 ∧ someS l = s := by unfold someE someS; rw [if_neg (by simp [h]), h2]; exact ⟨rfl, rfl⟩
theorem zGt {P : Program} {a : Act} {o : Oper} {w : World} {k : IntKind} {z z' : Int} (h : z = z') (hy : Yd P a o w (.int k z)) : Yd P a o w (.int k z') := h ▸ hy
theorem shl_small {x : Nat} (h : x < 4) : 1 <<< x < 16 := by
  match x, h with
  | 0, _ => decide
  | 1, _ => decide
  | 2, _ => decide
  | 3, _ => decide
theorem shl_all {x : Nat} (h : x ≤ 4) : 1 ≤ 1 <<< x ∧ 1 <<< x ≤ 16 := by
  match x, h with
  | 0, _ => decide
  | 1, _ => decide
  | 2, _ => decide
  | 3, _ => decide
  | 4, _ => decide
theorem eq2 {w0 w : World} {B M F : List (Nat × Obj)} {x y : Nat × Obj} (h : St w0 w (B ++ (M ++ (x :: y :: F)))) : St w0 w ((B ++ (M ++ [x, y])) ++ F) := by
  have e : (B ++ (M ++ [x, y])) ++ F = B ++ (M ++ (x :: y :: F)) := by rw [List.append_assoc, List.append_assoc]; rfl
  rw [e]; exact h
theorem zE3 {v : Value} {l : List Int} {z : Int} {B : List (Nat × Obj)} (h : Rt.Own v 3 1 (l.length + 1) (iv l ++ [[Value.int .i64 z]].flatten) B) : Rt.Own v 3 1 (l ++ [z]).length (iv (l ++ [z])) B := by simpa [iv] using h
theorem zJb {s y : Nat} (h : (0:Int) < ((s >>> y : Nat) : Int)) : 0 < s >>> y := by omega
theorem not_pos_shr {s y : Nat} (h : ((s >>> y : Nat) : Int) ≤ 0) : ¬ 0 < s >>> y := by omega
theorem zDy {m : Market} {b : Nat} (h1 : before (listL b m.shops.length) (withoutTo m b) = true) (h2 : servedS m (allX m false) (bitDiff (1 <<< m.shops.length - 1) b) = true) : listL b m.shops.length = withoutTo m (b + 1) := by
  simp only [withoutTo, withoutStep]; rw [h1, h2]; rfl
theorem zEq {m : Market} {b : Nat} (h1 : before (listL b m.shops.length) (withoutTo m b) = false) : withoutTo m b = withoutTo m (b + 1) := by
  simp only [withoutTo, withoutStep]; rw [h1]; rfl
theorem zEp {m : Market} {b : Nat} (h2 : servedS m (allX m false) (bitDiff (1 <<< m.shops.length - 1) b) = false) : withoutTo m b = withoutTo m (b + 1) := by
  simp only [withoutTo, withoutStep]; rw [h2, Bool.and_false]; rfl
theorem c68 {w0 w : World} {F : List (Nat × Obj)} (m : Market) (p : At3) (hm : MIn w0 F m p) (al : Option Addr) (cl : Nat) (l : List Int) (hll : l.length ≤ 9223372036854775807) (hl : Sl w0 F al 1 (l.map fun x => [Value.int .i64 x]))  (hs : St w0 w F) :
  Con Tryz.prog 68 [.agg (m.cells p).toArray, .slice al l.length cl] w fun v w' => (someE m l ≠ 0 ∧ v = .tuple #[.pointer none, .int .i64 0, .int .i64 (someE m l)] ∧ St w0 w' F) ∨ (someE m l = 0 ∧ ∃ mb mm M, v = .tuple #[.pointer (some ⟨mb, 0, none⟩), .int .i64 (someS l : Nat), .int .i64 0] ∧ Memo m mm M ∧ St w0 w' (M ++ ((mb, blk 147 [.slice p.ar m.rooms.length p.cr, .slice p.az m.shops.length p.cs, .slice p.at_ m.trains.length p.ct, .map (some mm)]) :: F))) := by
  refine zAt (n := 38) func68 rfl rfl (zNl rfl) ?_
  have hls := hm.ls
  refine zAe (fun K2 g8 => (zAa (zCa (v := .agg #[.slice _ _ _, .slice _ _ _, .slice _ _ _]) (cs := [_,_,_]) zAc rfl rfl rfl hs (fun b3 w4 g4 => ?_))))
  refine zA5 rfl rfl (zA5 rfl rfl (zA5 rfl rfl (zAd (zAb (g8 _ _ (zAe (fun K7 g7 => (zAa (w_p (zA4 (vs := [_,_,_]) isAgg31 sizeOf31 g4 rfl rfl (zAk (i := 0) (vs := [_,_,_]) rfl rfl)) rfl ?_)))))))))
  refine w_p (zAf (o := 1) (i := 1) underlying31 rfl sizeOf28 rfl rfl rfl) rfl (w_p (zAj isAgg28 g4 rfl rfl (zAk (i := 0) (vs := [_]) rfl rfl)) rfl (w_p (zA8 underlying28 rfl rfl) rfl (w_p (zAi (v := .slice _ _ _) rfl rfl) rfl ?_)))
  refine zAr zAc call45 rfl rfl rfl rfl (c45 m p hm.cons _ (by omega) (by omega) _ _ l hll hl.cons g4) ?_
  rintro _ w9 (⟨hee, rfl, g0⟩ | ⟨hee, mb, mm, M, rfl, hM, g0⟩)
  ·
   refine w_p (zAi (v := .tuple _) rfl rfl) rfl (w_p (zAp (v := .pointer _) rfl rfl rfl) rfl (w_p (zAp (v := .int _ _) rfl rfl rfl) rfl (w_p (zAo (v := .pointer _) rfl rfl) rfl (zBe rfl rfl (zAd (zAb (g7 _ _ (zAe (fun gu gv => (zAe (fun gw g9 => (zAa (zAz rfl rfl ?_)))))))))))))
   refine w_p (zB2 rfl rfl rfl rfl) rfl (zAd (zAb (g9 _ _ (zAu rfl rfl (fun g3 => ?_) (fun g3 => ?_)))))
   ·
    try simp only [zS] at g3
    refine zAe (fun gx ga => (zAa (zAz rfl rfl (zA5 rfl rfl (zA5 rfl rfl (zBe rfl rfl (zAd (zAb (ga _ _ (zAy (zAg (zA1 (l := [.tmp 4, .tmp 5, .tmp 6]) (vs := [_,_,_]) rfl ⟨⟨rfl, show _ = (.pointer _ : Value) from rfl⟩, ⟨rfl, (rfl : _ = Value.int _ _)⟩, ⟨rfl, (rfl : _ = Value.int _ _)⟩, trivial⟩ ?_))))))))))))
    first
      | exact .inl ⟨by rw [zI9 hee]; exact hee, by rw [zI9 hee]; rfl, g0.tail⟩
      | exact .inl ⟨by rw [zI8 hee (by rw [hob]; exact zEu hi2 (zJb (by assumption)))]; decide, by rw [zI8 hee (by rw [hob]; exact zEu hi2 (zJb (by assumption)))]; rfl, g0.tail⟩
      | (have hq := someE_0 hee (hob.trans (zJd (by omega)))
         exact .inr ⟨hq.1, mb, mm, M, by rw [hq.2]; rfl, hM, zHh g0⟩)
   exfalso
   try simp only [zS] at g3
   first | exact hee g3 | exact g3 hee
  replace g0 := (show St _ _ (M ++ (_ :: _ :: F)) from g0)
  have hk : MK w0 ((mb, blk 147 [.slice p.ar m.rooms.length p.cr, .slice p.az m.shops.length p.cs, .slice p.at_ m.trains.length p.ct, .map (some mm)]) :: (b3, blk 31 (m.cells p)) :: F) m p mb mm := ⟨hm.cons.cons, zAk (i := 0) (vs := [_,_,_,_]) rfl rfl, check_ok (zC8 hee)⟩
  have hlr := hk.ok.lr
  have hls := hk.ok.ls
  have hlt := hk.ok.lt
  have hbx : Ats w0 ((b3, blk 31 (m.cells p)) :: F) b3 0 (m.cells p) := zAk (i := 0) rfl rfl
  refine w_p (zAi (v := .tuple _) rfl rfl) rfl (w_p (zAp (v := .pointer _) rfl rfl rfl) rfl (w_p (zAp (v := .int _ _) rfl rfl rfl) rfl (w_p (zAo (v := .pointer _) rfl rfl) rfl (zBe rfl rfl (zAd (zAb (g7 _ _ (zAe (fun gy gb => (zAe (fun gz gc => (zAa (zAz rfl rfl ?_)))))))))))))
  refine w_p (zB2 rfl rfl rfl rfl) rfl (zAd (zAb (gc _ _ (zBx rfl rfl ?_))))
  refine zAs (zAb (gb _ _ (zAe (fun gA gd => (zAe (fun gB gf => (zAa (w_p (zAi (v := .slice _ _ _) rfl rfl) rfl (w_p (zA8 underlying43 rfl rfl) rfl ?_)))))))))
  refine w_p (zAi (v := _) rfl rfl) rfl (zAd (zAb (gf _ _ (zAw ?_))))
  refine zBs [4,5,6,8,23,24,25,26,27,28,29,30,31,32,33,34,35] [4,5,23] (fun k vs w => ∃ i s : Nat, vs = [.pointer (some ⟨mb, 0, none⟩), .int .i64 s, .int .i64 i] ∧ s < 16 ∧ i ≤ l.length ∧ k = l.length - i ∧ orBits 0 l = orBits s (l.drop i) ∧ St w0 w (M ++ ((mb, blk 147 [.slice p.ar m.rooms.length p.cr, .slice p.az m.shops.length p.cs, .slice p.at_ m.trains.length p.ct, .map (some mm)]) :: (b3, blk 31 (m.cells p)) :: F))) (l.length) ?_ ?_
  ·
   exact ⟨0,0, rfl, by omega, by omega, by omega, rfl, g0⟩
  intro k vs μ gC hI gE gg
  obtain ⟨i, s, rfl, gh, hia, rfl, hob, hs⟩ := hI
  refine zAe (fun gF gi => (zAa (w_p (zBw rfl rfl rfl rfl) rfl (zAd (zAb (gi _ _ (zAe (fun gG gj => (zAu rfl rfl (fun g5 => ?_) (fun g5 => ?_))))))))))
  ·
   try simp only [zS] at g5
   refine zAs (zAb (gj _ _ (zAe (fun gH gk => (zAw ?_)))))
   refine zAe (fun gI gm => ?_)
   have hi2 : i < l.length := by omega
   obtain ⟨bl, ol, hbl, hxl⟩ := zC9 hl.cons.cons.app hi2
   subst hbl
   have hin := (zGz hee).2 _ (List.getElem_mem hi2)
   have hsm := shl_small (x := (l[i]'hi2).toNat) (by omega)
   refine zAa (w_p (zA3 underlying43 sizeOf3 rfl rfl rfl rfl (i := _) rfl (by omega)) rfl (w_p (zAj isAgg3 hs rfl rfl hxl) rfl (zBe rfl rfl (zAd (zAb (gm _ _ (zAe (fun gJ gn => (zAe (fun gK gq => (zAa (zAz rfl rfl ?_))))))))))))
   refine zAz rfl rfl (w_p (zJ9 (x := _) (y := (l[i]'hi2).toNat) rfl rfl rfl rfl rfl (by first | rfl | omega) (by first | omega | exact zBo (by omega))) rfl ?_)
   refine w_p (zD5 rfl rfl rfl rfl) rfl (zAd (zAb (gq _ _ (zAu rfl rfl (fun g6 => ?_) (fun g6 => ?_)))))
   ·
    try simp only [zS] at g6
    refine zAe (fun gL gr => (zAa (zA5 rfl rfl (zA5 rfl rfl (zA5 rfl rfl (zAd (zAb (gr _ _ (zAy (zAg (zAv (zAg (zAg (zAv (zAg (zA1 (l := [.tmp 4, .tmp 5, .tmp 6]) (vs := [_,_,_]) rfl ⟨⟨rfl, show _ = (.pointer _ : Value) from rfl⟩, ⟨rfl, (rfl : _ = Value.int _ _)⟩, ⟨rfl, (rfl : _ = Value.int _ _)⟩, trivial⟩ ?_))))))))))))))))
    first
      | exact .inl ⟨by rw [zI9 hee]; exact hee, by rw [zI9 hee]; rfl, hs.drop.tail.tail⟩
      | exact .inl ⟨by rw [zI8 hee (by rw [hob]; exact zEu hi2 (zJb (by assumption)))]; decide, by rw [zI8 hee (by rw [hob]; exact zEu hi2 (zJb (by assumption)))]; rfl, hs.drop.tail.tail⟩
      | (have hq := someE_0 hee (hob.trans (zJd (by omega)))
         exact .inr ⟨hq.1, mb, mm, M, by rw [hq.2]; rfl, hM, zHh hs⟩)
   try simp only [zS] at g6
   refine zAs (zAb (gn _ _ (zAa (zAz rfl rfl (zAz rfl rfl (w_p (zI1 (x := 1) (y := (l[i]'hi2).toNat) rfl rfl rfl rfl rfl (by first | rfl | omega) (by first | omega | exact zBo (by omega)) (by first | omega | exact zBo (by omega))) rfl ?_))))))
   refine w_p (y_or (x := _) (y := _) rfl rfl rfl rfl rfl rfl (by first | omega | exact zBo (by omega)) (by first | omega | exact zBo (by omega))) rfl ?_
   refine zBe rfl rfl (zAd (zAl (zAb (gk _ _ (zAa (w_p (zBg rfl rfl rfl rfl (by omega) (by omega)) rfl (zAz rfl rfl (zAd (zAb (gg _ _ (nxI (l.length - (i + 1)) (by omega) ?_)))))))))))
   exact ⟨i + 1, _, rfl, or_small gh (by omega), by omega, rfl, by rw [hob]; exact orBits_step hi2 (not_pos_shr (by assumption)), hs⟩
  try simp only [zS] at g5
  refine zBl (zAm (zAm (zA0 (zAb (gd _ _ (zAe (fun gM gt => (zAa (w_p (zAi (v := .pointer _) rfl rfl) rfl (zAz rfl rfl (w_p (zAo (v := .pointer _) rfl rfl) rfl ?_)))))))))))
  refine zBe rfl rfl (zA5 rfl rfl (zAd (zAb (gt _ _ (zAy (zA1 (l := [.tmp 4, .tmp 5, .tmp 6]) (vs := [_,_,_]) rfl ⟨⟨rfl, show _ = (.pointer _ : Value) from rfl⟩, ⟨rfl, (rfl : _ = Value.int _ _)⟩, ⟨rfl, (rfl : _ = Value.int _ _)⟩, trivial⟩ ?_))))))
  first
    | exact .inl ⟨by rw [zI9 hee]; exact hee, by rw [zI9 hee]; rfl, hs.drop.tail.tail⟩
    | exact .inl ⟨by rw [zI8 hee (by rw [hob]; exact zEu hi2 (zJb (by assumption)))]; decide, by rw [zI8 hee (by rw [hob]; exact zEu hi2 (zJb (by assumption)))]; rfl, hs.drop.tail.tail⟩
    | (have hq := someE_0 hee (hob.trans (zJd (by omega)))
       exact .inr ⟨hq.1, mb, mm, M, by rw [hq.2]; rfl, hM, zHh hs⟩)

theorem c35 {w0 w : World} {F : List (Nat × Obj)} (m : Market) (p : At3) (hm : MIn w0 F m p) (al : Option Addr) (cl : Nat) (l : List Int) (hll : l.length ≤ 9223372036854775807) (hl : Sl w0 F al 1 (l.map fun x => [Value.int .i64 x]))  (hs : St w0 w F) :
  Con Tryz.prog 35 [.agg (m.cells p).toArray, .slice al l.length cl] w fun v w' => v = .tuple #[.int .i64 (canP m l).1, .int .i64 (canP m l).2] ∧ St w0 w' F := by
  refine zAt (n := 32) func35 rfl rfl (zNl rfl) ?_
  refine zAe (fun K2 ga => (zAa (zCa (v := .agg #[.slice _ _ _, .slice _ _ _, .slice _ _ _]) (cs := [_,_,_]) zAc rfl rfl rfl hs (fun b3 w4 g8 => ?_))))
  refine zA5 rfl rfl (zA5 rfl rfl (zAd (zAb (ga _ _ (zAe (fun K7 g9 => (zAa (w_p (zA4 (vs := [_,_,_]) isAgg31 sizeOf31 g8 rfl rfl (zAk (i := 0) (vs := [_,_,_]) rfl rfl)) rfl ?_))))))))
  refine w_p (zAi (v := .slice _ _ _) rfl rfl) rfl (zAr zAc call68 rfl rfl rfl rfl (c68 m p hm.cons _ _ l hll hl.cons g8) ?_)
  rintro _ w9 (⟨hee, rfl, g4⟩ | ⟨hee, mb, mm, M, rfl, hM, g4⟩)
  ·
   refine w_p (zAi (v := .tuple _) rfl rfl) rfl (w_p (zAp (v := .pointer _) rfl rfl rfl) rfl (w_p (zAp (v := .int _ _) rfl rfl rfl) rfl (w_p (zAp (v := .int _ _) rfl rfl rfl) rfl (w_p (zAo (v := .pointer _) rfl rfl) rfl ?_))))
   refine zBe rfl rfl (zBe rfl rfl (zAd (zAb (g9 _ _ (zAe (fun gr gt => (zAw ?_)))))))
   refine zAe (fun gu gb => (zAa (zAz rfl rfl (w_p (zB2 rfl rfl rfl rfl) rfl (w_p (zAo (v := .bool _) rfl rfl) rfl (zAd (zAb (gb _ _ (zAu rfl rfl (fun g0 => ?_) (fun g0 => ?_))))))))))
   ·
    try simp only [zS] at g0
    refine zAe (fun gv gc => (zAa (zAz rfl rfl (zA5 rfl rfl (zBe rfl rfl (zAd (zAb (gc _ _ (zAy (zAv (zAg (zA1 (l := [.tmp 4, .tmp 5]) (vs := [_,_]) rfl ⟨⟨rfl, (rfl : _ = Value.int _ _)⟩, ⟨rfl, (rfl : _ = Value.int _ _)⟩, trivial⟩ ?_))))))))))))
    exact ⟨by simp [canP, retV, hee, g0], g4.tail⟩
   exfalso
   try simp only [zS] at g0
   first | exact hee g0 | exact g0 hee
  replace g4 := (show St _ _ (M ++ (_ :: _ :: F)) from g4)
  have hk : MK w0 ((mb, blk 147 [.slice p.ar m.rooms.length p.cr, .slice p.az m.shops.length p.cs, .slice p.at_ m.trains.length p.ct, .map (some mm)]) :: (b3, blk 31 (m.cells p)) :: F) m p mb mm := ⟨hm.cons.cons, zAk (i := 0) (vs := [_,_,_,_]) rfl rfl, check_ok (zC8 (someE_enter hee))⟩
  have hlr := hk.ok.lr
  have hls := hk.ok.ls
  have hlt := hk.ok.lt
  have hbx : Ats w0 ((b3, blk 31 (m.cells p)) :: F) b3 0 (m.cells p) := zAk (i := 0) rfl rfl
  refine w_p (zAi (v := .tuple _) rfl rfl) rfl (w_p (zAp (v := .pointer _) rfl rfl rfl) rfl (w_p (zAp (v := .int _ _) rfl rfl rfl) rfl (w_p (zAp (v := .int _ _) rfl rfl rfl) rfl (w_p (zAo (v := .pointer _) rfl rfl) rfl ?_))))
  refine zBe rfl rfl (zBe rfl rfl (zAd (zAb (g9 _ _ (zAe (fun gw gd => (zAw ?_)))))))
  refine zAe (fun gx gf => (zAa (zAz rfl rfl (w_p (zB2 rfl rfl rfl rfl) rfl (w_p (zAo (v := .bool _) rfl rfl) rfl (zAd (zAb (gf _ _ (zBx rfl rfl ?_)))))))))
  refine zAe (fun gy gg => (zAa (w_p (zAi (v := .pointer _) rfl rfl) rfl (w_p (zAi (v := .pointer _) rfl rfl) rfl (zAr zAc call48 rfl rfl rfl rfl (c48 m p mb mm hk.app _ g4) ?_)))))
  rintro _ gz ⟨rfl, gh⟩
  refine zAz rfl rfl (zAr zAc call69 rfl rfl rfl rfl (c69 (X := []) m p mb mm hk _ (zEi hk.ok _) _ hM gh) ?_)
  rintro _ gA ⟨rfl, M30, gi, g6⟩
  replace g6 := (show St _ _ (M30 ++ (_ :: _ :: F)) from g6)
  refine w_p (zAo (v := .bool _) rfl rfl) rfl (zAd (zAb (gg _ _ (zAu rfl rfl (fun g3 => ?_) (fun g3 => ?_)))))
  ·
   try simp only [zS] at g3
   refine zAe (fun gB gj => (zAa (zA5 rfl rfl (zA5 rfl rfl (zAd (zAb (gj _ _ (zAy (zAv (zAg (zA1 (l := [.tmp 4, .tmp 5]) (vs := [_,_]) rfl ⟨⟨rfl, (rfl : _ = Value.int _ _)⟩, ⟨rfl, (rfl : _ = Value.int _ _)⟩, trivial⟩ ?_)))))))))))
   exact ⟨by simp [canP, retV, hee, g3], g6.drop.tail.tail⟩
  try simp only [zS] at g3
  refine zAe (fun gC gk => (zAa (w_p (zAi (v := .pointer _) rfl rfl) rfl (w_p (zAi (v := .pointer _) rfl rfl) rfl (zAr zAc call48 rfl rfl rfl rfl (c48 m p mb mm hk.app _ g6) ?_)))))
  rintro _ gE ⟨rfl, gm⟩
  refine zAz rfl rfl (zAr zAc call69 rfl rfl rfl rfl (c69 (X := []) m p mb mm hk _ (zEi hk.ok _) _ gi gm) ?_)
  rintro _ gF ⟨rfl, M43, gG, g7⟩
  replace g7 := (show St _ _ (M43 ++ (_ :: _ :: F)) from g7)
  refine w_p (zAo (v := .bool _) rfl rfl) rfl (zAd (zAb (gk _ _ (zAu rfl rfl (fun g5 => ?_) (fun g5 => ?_)))))
  ·
   try simp only [zS] at g5
   refine zAe (fun gH gn => (zAa (zA5 rfl rfl (zA5 rfl rfl (zAd (zAb (gn _ _ (zAy (zAv (zAg (zA1 (l := [.tmp 4, .tmp 5]) (vs := [_,_]) rfl ⟨⟨rfl, (rfl : _ = Value.int _ _)⟩, ⟨rfl, (rfl : _ = Value.int _ _)⟩, trivial⟩ ?_)))))))))))
   exact ⟨by simp [canP, retV, hee, g3, g5], g7.drop.tail.tail⟩
  try simp only [zS] at g5
  refine zAs (zAl (zAb (gd _ _ (zAe (fun gI gq => (zAa (zA5 rfl rfl (zA5 rfl rfl (zAd (zAb (gq _ _ (zAy (zA1 (l := [.tmp 4, .tmp 5]) (vs := [_,_]) rfl ⟨⟨rfl, (rfl : _ = Value.int _ _)⟩, ⟨rfl, (rfl : _ = Value.int _ _)⟩, trivial⟩ ?_)))))))))))))
  exact ⟨by simp [canP, retV, hee, g3, g5], g7.drop.tail.tail⟩

theorem c36 {w0 w : World} {F : List (Nat × Obj)} (m : Market) (p : At3) (hm : MIn w0 F m p) (al : Option Addr) (cl : Nat) (l : List Int) (hll : l.length ≤ 9223372036854775807) (hl : Sl w0 F al 1 (l.map fun x => [Value.int .i64 x]))  (hs : St w0 w F) :
  Con Tryz.prog 36 [.agg (m.cells p).toArray, .slice al l.length cl] w fun v w' => ∃ B a c, v = .tuple #[.slice a (proofP m l).1.length c, .int .i64 (proofP m l).2.1, .int .i64 (proofP m l).2.2] ∧ Sl w0 B a 1 ((proofP m l).1.map fun x => [Value.int .i64 x]) ∧ St w0 w' (B ++ F) := by
  refine zAt (n := 31) func36 rfl rfl (zNl rfl) ?_
  refine zAe (fun K2 g8 => (zAa (zCa (v := .agg #[.slice _ _ _, .slice _ _ _, .slice _ _ _]) (cs := [_,_,_]) zAc rfl rfl rfl hs (fun b3 w4 g6 => ?_))))
  refine zA5 rfl rfl (zA5 rfl rfl (zA5 rfl rfl (zAd (zAb (g8 _ _ (zAe (fun K7 g7 => (zAa (w_p (zA4 (vs := [_,_,_]) isAgg31 sizeOf31 g6 rfl rfl (zAk (i := 0) (vs := [_,_,_]) rfl rfl)) rfl ?_)))))))))
  refine w_p (zAi (v := .slice _ _ _) rfl rfl) rfl (zAr zAc call68 rfl rfl rfl rfl (c68 m p hm.cons _ _ l hll hl.cons g6) ?_)
  rintro _ w9 (⟨hee, rfl, g3⟩ | ⟨hee, mb, mm, M, rfl, hM, g3⟩)
  ·
   refine w_p (zAi (v := .tuple _) rfl rfl) rfl (w_p (zAp (v := .pointer _) rfl rfl rfl) rfl (w_p (zAp (v := .int _ _) rfl rfl rfl) rfl (w_p (zAp (v := .int _ _) rfl rfl rfl) rfl (w_p (zAo (v := .pointer _) rfl rfl) rfl ?_))))
   refine zBe rfl rfl (zBe rfl rfl (zAd (zAb (g7 _ _ (zAe (fun gm gn => (zAe (fun gq g9 => (zAa (zAz rfl rfl (w_p (zB2 rfl rfl rfl rfl) rfl ?_)))))))))))
   refine zAd (zAb (g9 _ _ (zAu rfl rfl (fun g4 => ?_) (fun g4 => ?_))))
   ·
    try simp only [zS] at g4
    refine zAe (fun gr ga => (zAa (zAz rfl rfl (zA5 rfl rfl (zA5 rfl rfl (zBe rfl rfl (zAd (zAb (ga _ _ (zAy (zAg (zA1 (l := [.tmp 4, .tmp 5, .tmp 6]) (vs := [_,_,_]) rfl ⟨⟨rfl, show _ = (.slice _ _ _ : Value) from rfl⟩, ⟨rfl, (rfl : _ = Value.int _ _)⟩, ⟨rfl, (rfl : _ = Value.int _ _)⟩, trivial⟩ ?_))))))))))))
    exact ⟨[], none, 0, by unfold proofP; rw [if_pos hee]; rfl, by unfold proofP; rw [if_pos hee]; exact Sl.nil _ _, g3.tail⟩
   exfalso
   try simp only [zS] at g4
   first | exact hee g4 | exact g4 hee
  replace g3 := (show St _ _ (M ++ (_ :: _ :: F)) from g3)
  have hk : MK w0 ((mb, blk 147 [.slice p.ar m.rooms.length p.cr, .slice p.az m.shops.length p.cs, .slice p.at_ m.trains.length p.ct, .map (some mm)]) :: (b3, blk 31 (m.cells p)) :: F) m p mb mm := ⟨hm.cons.cons, zAk (i := 0) (vs := [_,_,_,_]) rfl rfl, check_ok (zC8 (someE_enter hee))⟩
  have hlr := hk.ok.lr
  have hls := hk.ok.ls
  have hlt := hk.ok.lt
  have hbx : Ats w0 ((b3, blk 31 (m.cells p)) :: F) b3 0 (m.cells p) := zAk (i := 0) rfl rfl
  refine w_p (zAi (v := .tuple _) rfl rfl) rfl (w_p (zAp (v := .pointer _) rfl rfl rfl) rfl (w_p (zAp (v := .int _ _) rfl rfl rfl) rfl (w_p (zAp (v := .int _ _) rfl rfl rfl) rfl (w_p (zAo (v := .pointer _) rfl rfl) rfl ?_))))
  refine zBe rfl rfl (zBe rfl rfl (zAd (zAb (g7 _ _ (zAe (fun gt gb => (zAe (fun gu gc => (zAa (zAz rfl rfl (w_p (zB2 rfl rfl rfl rfl) rfl ?_)))))))))))
  refine zAd (zAb (gc _ _ (zBx rfl rfl ?_)))
  refine zAs (zAb (gb _ _ (zAe (fun gv gd => (zAe (fun gw gf => (zAa (w_p (zAi (v := .pointer _) rfl rfl) rfl (w_p (zAi (v := .pointer _) rfl rfl) rfl ?_)))))))))
  refine zAr zAc call48 rfl rfl rfl rfl (c48 m p mb mm hk.app _ g3) ?_
  rintro _ gx ⟨rfl, gg⟩
  refine zAz rfl rfl (zAr zAc call70 rfl rfl rfl rfl (c70 (X := []) m p mb mm hk _ (zEi hk.ok _) _ hM gg) ?_)
  rintro _ gy ⟨gh, al_B33, cl_B33, M32, rfl, hsl_B33, gz, g0⟩
  replace g0 := (show St _ _ (gh ++ (M32 ++ (_ :: _ :: F))) from g0)
  refine w_p (zAi (v := .tuple _) rfl rfl) rfl (w_p (zAp (v := .slice _ _ _) rfl rfl rfl) rfl (w_p (zAp (v := .int _ _) rfl rfl rfl) rfl (w_p (zAo (v := .slice _ _ _) rfl rfl) rfl (zBe rfl rfl (zAd (zAb (gf _ _ (zAe (fun gA gi => (zAa (zAz rfl rfl ?_)))))))))))
  refine w_p (zB6 rfl rfl rfl rfl) rfl (zAd (zAb (gi _ _ (zAu rfl rfl (fun g5 => ?_) (fun g5 => ?_)))))
  ·
   try simp only [zS] at g5
   refine zAe (fun gB gj => (zAa (zA5 rfl rfl (zA5 rfl rfl (zA5 rfl rfl (zAd (zAb (gj _ _ (zAy (zAg (zA1 (l := [.tmp 4, .tmp 5, .tmp 6]) (vs := [_,_,_]) rfl ⟨⟨rfl, show _ = (.slice _ _ _ : Value) from rfl⟩, ⟨rfl, (rfl : _ = Value.int _ _)⟩, ⟨rfl, (rfl : _ = Value.int _ _)⟩, trivial⟩ ?_)))))))))))
   first
     | (have hq : proofP m l = ([], 0,9) := by unfold proofP; rw [if_neg (by simp [hee]), if_pos (by assumption)]
        exact ⟨[], none, 0, by rw [hq]; rfl, by rw [hq]; exact Sl.nil _ _, g0.drop.drop.tail.tail⟩)
     | (have hq : proofP m l = ((worst m (allX m false) (someS l)).1, (worst m (allX m false) (someS l)).2,0) := by unfold proofP; rw [if_neg (by simp [hee]), if_neg (by assumption)]
        exact ⟨_, al_B33, cl_B33, by rw [hq]; rfl, by rw [hq]; exact hsl_B33.top, eq2 g0⟩)
  try simp only [zS] at g5
  refine zAs (zAb (gd _ _ (zAe (fun gC gk => (zAa (w_p (zAi (v := .slice _ _ _) rfl rfl) rfl (zAz rfl rfl (w_p (zAo (v := .slice _ _ _) rfl rfl) rfl ?_))))))))
  refine zBe rfl rfl (zA5 rfl rfl (zAd (zAb (gk _ _ (zAy (zA1 (l := [.tmp 4, .tmp 5, .tmp 6]) (vs := [_,_,_]) rfl ⟨⟨rfl, show _ = (.slice _ _ _ : Value) from rfl⟩, ⟨rfl, (rfl : _ = Value.int _ _)⟩, ⟨rfl, (rfl : _ = Value.int _ _)⟩, trivial⟩ ?_))))))
  first
    | (have hq : proofP m l = ([], 0,9) := by unfold proofP; rw [if_neg (by simp [hee]), if_pos (by assumption)]
       exact ⟨[], none, 0, by rw [hq]; rfl, by rw [hq]; exact Sl.nil _ _, g0.drop.drop.tail.tail⟩)
    | (have hq : proofP m l = ((worst m (allX m false) (someS l)).1, (worst m (allX m false) (someS l)).2,0) := by unfold proofP; rw [if_neg (by simp [hee]), if_neg (by assumption)]
       exact ⟨_, al_B33, cl_B33, by rw [hq]; rfl, by rw [hq]; exact hsl_B33.top, eq2 g0⟩)

theorem c46 {w0 w : World} {X M F : List (Nat × Obj)} (m : Market) (p : At3) (mb mm : Nat) (hk : MK w0 F m p mb mm)  (hM : Memo m mm M) (hs : St w0 w (X ++ (M ++ F))) :
  Con Tryz.prog 46 [.pointer (some ⟨mb, 0, none⟩)] w fun v w' => ∃ B a c M', v = .slice a (withoutL m).length c ∧ Sl w0 B a 1 ((withoutL m).map fun x => [Value.int .i64 x]) ∧ Memo m mm M' ∧ St w0 w' (B ++ (X ++ (M' ++ F))) := by
  refine zAt (n := 50) func46 rfl rfl (zNl rfl) ?_
  have hb := hk.b
  have hlr := hk.ok.lr
  have hls := hk.ok.ls
  have hlt := hk.ok.lt
  have hsa := shl_all hls
  refine zAe (fun K2 gd => (zAa (zA5 rfl rfl (zAd (zAb (gd _ _ (zAe (fun K4 gf => (zAa (w_p (zAi (v := .pointer _) rfl rfl) rfl ?_))))))))))
  refine w_p (zBy rfl rfl) rfl (w_p (zAf (o := 0) (i := 0) underlying147 rfl sizeOf31 rfl rfl rfl) rfl (w_p (zAf (o := 1) (i := 1) underlying31 rfl sizeOf28 rfl rfl rfl) rfl (w_p (zAj isAgg28 hs.drop.drop rfl rfl (show Ats _ _ _ _ [_] from Ats.part hb 1 1)) rfl ?_)))
  refine w_p (zA8 underlying28 rfl rfl) rfl (w_p (zI1 (x := 1) (y := _) rfl rfl rfl rfl rfl rfl (by first | omega | exact zBo (by omega)) (by first | omega | exact zBo (by omega))) rfl ?_)
  refine w_p (zGt (z' := ((1 <<< m.shops.length - 1 : Nat) : Int)) (by omega) (zE0 rfl rfl rfl rfl (by omega) (by omega))) rfl (zBe rfl rfl (zAd (zAb (gf _ _ (zAe (fun K6 gg => (zAa (zAz rfl rfl ?_))))))))
  refine w_p (zAi (v := .pointer _) rfl rfl) rfl (w_p (zBy rfl rfl) rfl (w_p (zAf (o := 0) (i := 0) underlying147 rfl sizeOf31 rfl rfl rfl) rfl (w_p (zAf (o := 1) (i := 1) underlying31 rfl sizeOf28 rfl rfl rfl) rfl ?_)))
  refine w_p (zAj isAgg28 hs.drop.drop rfl rfl (show Ats _ _ _ _ [_] from Ats.part hb 1 1)) rfl (w_p (zA8 underlying28 rfl rfl) rfl (zAr zAc call82 rfl rfl rfl rfl (c82 _ _ (by omega) (by omega) hs) ?_))
  rintro _ w8 ⟨B, al, cl, rfl, hsl, g5⟩
  replace g5 := (show St _ _ (B ++ (X ++ (M ++ (F)))) from g5)
  refine w_p (zAo (v := .slice _ _ _) rfl rfl) rfl (zAd (zAb (gg _ _ (zAe (fun gt gh => (zAe (fun gu gi => (zAa (zAz rfl rfl (w_p (zAi (v := _) rfl rfl) rfl ?_))))))))))
  refine zAd (zAb (gi _ _ (zAw ?_)))
  refine zBs [4,5,6,24,25,26,27,28,29,30,31,32,33,34,35,36,37,38,39,40,41,42,43,44,45,46,47,48] [4,24] (fun k vs w => ∃ (b : Nat) (av : Option Addr) (cv : Nat) (B Mq : List (Nat × Obj)), vs = [.slice av (withoutTo m b).length cv, .int .i64 b] ∧ b ≤ 1 <<< m.shops.length - 1 ∧ k = (1 <<< m.shops.length - 1) - b ∧ Sl w0 B av 1 ((withoutTo m b).map fun x => [Value.int .i64 x]) ∧ Memo m mm Mq ∧ St w0 w (B ++ (X ++ (Mq ++ F)))) (1 <<< m.shops.length - 1) ?_ ?_
  ·
   exact ⟨0, _,_, B, M, rfl, by omega, by omega, hsl, hM, g5⟩
  intro k vs μ gv hI gw g6
  obtain ⟨b, av, cv, B, Mq, rfl, hba, rfl, hsl, hMq, hs⟩ := hI
  refine zAe (fun gx gj => (zAa (w_p (zBw rfl rfl rfl rfl) rfl (zAd (zAb (gj _ _ (zAe (fun gy gk => (zAu rfl rfl (fun g7 => ?_) (fun g7 => ?_))))))))))
  ·
   try simp only [zS] at g7
   refine zAs (zAb (gk _ _ (zAe (fun gz g8 => (zAw ?_)))))
   refine zAe (fun gA gm => (zAa (zAz rfl rfl (zBe rfl rfl (zAd (zAb (gm _ _ (zAe (fun gB gn => (zAa (zAz rfl rfl (w_p (zAi (v := .pointer _) rfl rfl) rfl ?_))))))))))))
   refine w_p (zBy rfl rfl) rfl (w_p (zAf (o := 0) (i := 0) underlying147 rfl sizeOf31 rfl rfl rfl) rfl (w_p (zAf (o := 1) (i := 1) underlying31 rfl sizeOf28 rfl rfl rfl) rfl (w_p (zAj isAgg28 hs.drop.drop.drop rfl rfl (show Ats _ _ _ _ [_] from Ats.part hb 1 1)) rfl ?_)))
   refine w_p (zA8 underlying28 rfl rfl) rfl (zAr zAc call82 rfl rfl rfl rfl (c82 _ _ (by omega) (by omega) hs) ?_)
   rintro _ gC ⟨B1, al1, cl1, rfl, hsl1, g9⟩
   replace g9 := (show St _ _ (B1 ++ (B ++ (X ++ (Mq ++ (F))))) from g9)
   refine w_p (zAo (v := .slice _ _ _) rfl rfl) rfl (zAd (zAb (gn _ _ (zAe (fun gE gc => ?_)))))
   have hle1 := zDh b m.shops.length
   have hle2 := zF9 m b
   refine zAa (w_p (zAi (v := .slice _ _ _) rfl rfl) rfl (w_p (zAi (v := .slice _ _ _) rfl rfl) rfl (zAr zAc call83 rfl rfl rfl rfl (c83 _ _ _ _ _ _ (by omega) (by omega) hsl1.top hsl.top.app g9) ?_)))
   rintro _ gF ⟨rfl, g4⟩
   refine w_p (zAi (v := .bool _) rfl rfl) rfl (zBi (fun ga => ?_) (fun ga => ?_))
   ·
    try simp only [zS] at ga
    refine w_y rfl rfl rfl (zAi (v := .pointer _) rfl rfl) rfl ?_
    refine w_y rfl rfl rfl (zAi (v := .pointer _) rfl rfl) rfl ?_
    refine zAr (zAq rfl rfl rfl) call48 rfl rfl rfl rfl (c48 m p mb mm hk.app.app.app.app _ g4) ?_
    rintro _ gG ⟨rfl, gq⟩
    refine w_y rfl rfl rfl (zA2 rfl rfl) rfl ?_
    refine w_y rfl rfl rfl (zA2 rfl rfl) rfl ?_
    refine w_y rfl rfl rfl (zKe (x := 1 <<< m.shops.length - 1) (y := b) rfl rfl rfl rfl (by first | rfl | omega) (by first | rfl | omega) (by first | omega | exact zBo (by omega))) rfl ?_
    refine zAr (zAq rfl rfl rfl) call69 rfl rfl rfl rfl (c69 (X := (B1 ++ (B ++ (X)))) m p mb mm hk _ (zEi hk.ok _) _ hMq (St.cast (by simp only [List.append_assoc, List.cons_append]) gq)) ?_
    rintro _ gH ⟨rfl, M43, g3, g0⟩
    replace g0 : St _ _ (B1 ++ (B ++ (X ++ (M43 ++ (F))))) := St.cast (by simp only [List.append_assoc, List.cons_append]) g0
    refine w_p (zAx (v := .bool _) rfl rfl rfl rfl) rfl (zAd (zAb (gc _ _ (zAu rfl rfl (fun gb => ?_) (fun gb => ?_)))))
    ·
     try simp only [zS] at gb
     refine zAa (w_p (zAi (v := .slice _ _ _) rfl rfl) rfl (w_p (zAo (v := .slice _ _ _) rfl rfl) rfl (zAd (zAl (zAb (g8 _ _ (zAa (w_p (zBg rfl rfl rfl rfl (by omega) (by omega)) rfl ?_))))))))
     refine zAz rfl rfl (zAd (zAb (g6 _ _ (nxI ((1 <<< m.shops.length - 1) - (b + 1)) (by omega) ?_))))
     first
       | exact ⟨b + 1, al1, cl1, B1 ++ B, M43, by rw [← zDy (by assumption) (by assumption)]; rfl, by omega, rfl, by rw [← zDy (by assumption) (by assumption)]; exact hsl1.top, g3, by rw [List.append_assoc]; exact g0⟩
       | exact ⟨b + 1, av, cv, B1 ++ B, M43, by rw [← zEq (by assumption)]; rfl, by omega, rfl, by rw [← zEq (by assumption)]; exact hsl.app, g3, by rw [List.append_assoc]; exact g0⟩
       | exact ⟨b + 1, av, cv, B1 ++ B, M43, by rw [← zEp (by assumption)]; rfl, by omega, rfl, by rw [← zEp (by assumption)]; exact hsl.app, g3, by rw [List.append_assoc]; exact g0⟩
    try simp only [zS] at gb
    refine zAs (zAl (zAb (g8 _ _ (zAa (w_p (zBg rfl rfl rfl rfl (by omega) (by omega)) rfl (zAz rfl rfl (zAd (zAb (g6 _ _ (nxI ((1 <<< m.shops.length - 1) - (b + 1)) (by omega) ?_))))))))))
    first
      | exact ⟨b + 1, al1, cl1, B1 ++ B, M43, by rw [← zDy (by assumption) (by assumption)]; rfl, by omega, rfl, by rw [← zDy (by assumption) (by assumption)]; exact hsl1.top, g3, by rw [List.append_assoc]; exact g0⟩
      | exact ⟨b + 1, av, cv, B1 ++ B, M43, by rw [← zEq (by assumption)]; rfl, by omega, rfl, by rw [← zEq (by assumption)]; exact hsl.app, g3, by rw [List.append_assoc]; exact g0⟩
      | exact ⟨b + 1, av, cv, B1 ++ B, M43, by rw [← zEp (by assumption)]; rfl, by omega, rfl, by rw [← zEp (by assumption)]; exact hsl.app, g3, by rw [List.append_assoc]; exact g0⟩
   try simp only [zS] at ga
   refine zAh rfl rfl rfl ?_
   refine zAh rfl rfl rfl ?_
   refine zAh rfl rfl rfl ?_
   refine zAh rfl rfl rfl ?_
   refine zAh rfl rfl rfl ?_
   refine zAh rfl rfl rfl ?_
   refine zAh rfl rfl rfl ?_
   refine w_p (zA9 (v := _) rfl rfl rfl rfl) rfl (zAd (zAb (gc _ _ (zBx rfl rfl ?_))))
   refine zAs (zAl (zAb (g8 _ _ (zAa (w_p (zBg rfl rfl rfl rfl (by omega) (by omega)) rfl (zAz rfl rfl (zAd (zAb (g6 _ _ (nxI ((1 <<< m.shops.length - 1) - (b + 1)) (by omega) ?_))))))))))
   first
     | exact ⟨b + 1, al1, cl1, B1 ++ B, Mq, by rw [← zDy (by assumption) (by assumption)]; rfl, by omega, rfl, by rw [← zDy (by assumption) (by assumption)]; exact hsl1.top, hMq, by rw [List.append_assoc]; exact g4⟩
     | exact ⟨b + 1, av, cv, B1 ++ B, Mq, by rw [← zEq (by assumption)]; rfl, by omega, rfl, by rw [← zEq (by assumption)]; exact hsl.app, hMq, by rw [List.append_assoc]; exact g4⟩
     | exact ⟨b + 1, av, cv, B1 ++ B, Mq, by rw [← zEp (by assumption)]; rfl, by omega, rfl, by rw [← zEp (by assumption)]; exact hsl.app, hMq, by rw [List.append_assoc]; exact g4⟩
  try simp only [zS] at g7
  refine zBl (zAm (zAm (zA0 (zAb (gh _ _ (zAe (fun gI gr => (zAa (w_p (zAi (v := .slice _ _ _) rfl rfl) rfl (w_p (zAo (v := .slice _ _ _) rfl rfl) rfl ?_))))))))))
  refine zAd (zAb (gr _ _ (zAy (zA1 (l := [.tmp 2]) (vs := [_]) rfl ⟨⟨rfl, show _ = (.slice _ _ _ : Value) from rfl⟩, trivial⟩ ?_))))
  have hbw : b = 1 <<< m.shops.length - 1 := by omega
  subst hbw
  exact ⟨B, av, cv, Mq, rfl, hsl, hMq, hs⟩

theorem c12 {w0 w : World} {F : List (Nat × Obj)} (m : Market) (p : At3) (hm : MIn w0 F m p)  (hs : St w0 w F) :
  Con Tryz.prog 12 [.agg (m.cells p).toArray] w fun v w' => ∃ B a c, v = .tuple #[.slice a (withoutP m).1.length c, .int .i64 (withoutP m).2] ∧ Sl w0 B a 1 ((withoutP m).1.map fun x => [Value.int .i64 x]) ∧ St w0 w' (B ++ F) := by
  refine zAt (n := 16) func12 rfl rfl (zNl rfl) ?_
  refine zAe (fun K2 g7 => (zAa (zCa (v := .agg #[.slice _ _ _, .slice _ _ _, .slice _ _ _]) (cs := [_,_,_]) zAc rfl rfl rfl hs (fun b3 w4 g5 => ?_))))
  refine zA5 rfl rfl (zA5 rfl rfl (zAd (zAb (g7 _ _ (zAe (fun K7 g6 => (zAa (w_p (zA4 (vs := [_,_,_]) isAgg31 sizeOf31 g5 rfl rfl (zAk (i := 0) (vs := [_,_,_]) rfl rfl)) rfl ?_))))))))
  refine zAr zAc call45 rfl rfl rfl rfl (c45 m p hm.cons 0 (by omega) (by omega) none 0 [] (by simp) (Sl.nil _ _) g5) ?_
  rintro _ w9 (⟨hee, rfl, g0⟩ | ⟨hee, mb, mm, M, rfl, hM, g0⟩)
  ·
   refine w_p (zAi (v := .tuple _) rfl rfl) rfl (w_p (zAp (v := .pointer _) rfl rfl rfl) rfl (w_p (zAp (v := .int _ _) rfl rfl rfl) rfl (w_p (zAo (v := .pointer _) rfl rfl) rfl (zBe rfl rfl (zAd (zAb (g6 _ _ (zAe (fun gf gg => (zAe (fun gh g8 => (zAa (zAz rfl rfl ?_)))))))))))))
   refine w_p (zB2 rfl rfl rfl rfl) rfl (zAd (zAb (g8 _ _ (zAu rfl rfl (fun g3 => ?_) (fun g3 => ?_)))))
   ·
    try simp only [zS] at g3
    refine zAe (fun gi g9 => (zAa (zAz rfl rfl (zA5 rfl rfl (zBe rfl rfl (zAd (zAb (g9 _ _ (zAy (zAg (zA1 (l := [.tmp 2, .tmp 3]) (vs := [_,_]) rfl ⟨⟨rfl, show _ = (.slice _ _ _ : Value) from rfl⟩, ⟨rfl, (rfl : _ = Value.int _ _)⟩, trivial⟩ ?_)))))))))))
    have hq : withoutP m = ([], (check m).2.2) := by unfold withoutP; rw [if_pos (by rw [← zEv (n := 0)]; exact hee)]
    exact ⟨[], none, 0, by rw [hq, ← zEv (n := 0)]; rfl, by rw [hq]; exact Sl.nil _ _, g0.tail⟩
   exfalso
   try simp only [zS] at g3
   first | exact hee g3 | exact g3 hee
  replace g0 := (show St _ _ (M ++ (_ :: _ :: F)) from g0)
  have hk : MK w0 ((mb, blk 147 [.slice p.ar m.rooms.length p.cr, .slice p.az m.shops.length p.cs, .slice p.at_ m.trains.length p.ct, .map (some mm)]) :: (b3, blk 31 (m.cells p)) :: F) m p mb mm := ⟨hm.cons.cons, zAk (i := 0) (vs := [_,_,_,_]) rfl rfl, check_ok (zC8 hee)⟩
  have hlr := hk.ok.lr
  have hls := hk.ok.ls
  have hlt := hk.ok.lt
  have hbx : Ats w0 ((b3, blk 31 (m.cells p)) :: F) b3 0 (m.cells p) := zAk (i := 0) rfl rfl
  refine w_p (zAi (v := .tuple _) rfl rfl) rfl (w_p (zAp (v := .pointer _) rfl rfl rfl) rfl (w_p (zAp (v := .int _ _) rfl rfl rfl) rfl (w_p (zAo (v := .pointer _) rfl rfl) rfl (zBe rfl rfl (zAd (zAb (g6 _ _ (zAe (fun gj ga => (zAe (fun gk gb => (zAa (zAz rfl rfl ?_)))))))))))))
  refine w_p (zB2 rfl rfl rfl rfl) rfl (zAd (zAb (gb _ _ (zBx rfl rfl ?_))))
  refine zAs (zAb (ga _ _ (zAe (fun gm gc => (zAa (w_p (zAi (v := .pointer _) rfl rfl) rfl (zAr zAc call46 rfl rfl rfl rfl (c46 (X := []) m p mb mm hk  hM g0) ?_)))))))
  rintro _ gn ⟨gd, al_B28, cl_B28, M27, rfl, hsl_B28, gq, g4⟩
  replace g4 := (show St _ _ (gd ++ (M27 ++ (_ :: _ :: F))) from g4)
  refine w_p (zAo (v := .slice _ _ _) rfl rfl) rfl (zA5 rfl rfl (zAd (zAb (gc _ _ (zAy (zA1 (l := [.tmp 2, .tmp 3]) (vs := [_,_]) rfl ⟨⟨rfl, show _ = (.slice _ _ _ : Value) from rfl⟩, ⟨rfl, (rfl : _ = Value.int _ _)⟩, trivial⟩ ?_))))))
  have hq : withoutP m = (withoutL m, 0) := by unfold withoutP; rw [if_neg (by rw [zC8 hee]; simp)]
  exact ⟨_, al_B28, cl_B28, by rw [hq]; rfl, by rw [hq]; exact hsl_B28.top, eq2 g4⟩

theorem c34 {w0 w : World} {F : List (Nat × Obj)} (m : Market) (p : At3) (hm : MIn w0 F m p)  (hs : St w0 w F) :
  Con Tryz.prog 34 [.agg (m.cells p).toArray] w fun v w' => ∃ B a c, v = .tuple #[.slice a (goesP m).1.length c, .int .i64 (goesP m).2] ∧ Sl w0 B a 1 ((goesP m).1.map fun x => [Value.int .i64 x]) ∧ St w0 w' (B ++ F) := by
  refine zAt (n := 29) func34 rfl rfl (zNl rfl) ?_
  refine zAe (fun K2 gc => (zAa (zCa (v := .agg #[.slice _ _ _, .slice _ _ _, .slice _ _ _]) (cs := [_,_,_]) zAc rfl rfl rfl hs (fun b3 w4 g7 => ?_))))
  refine zA5 rfl rfl (zA5 rfl rfl (zAd (zAb (gc _ _ (zAe (fun K7 g8 => (zAa (w_p (zA4 (vs := [_,_,_]) isAgg31 sizeOf31 g7 rfl rfl (zAk (i := 0) (vs := [_,_,_]) rfl rfl)) rfl ?_))))))))
  refine zAr zAc call45 rfl rfl rfl rfl (c45 m p hm.cons 0 (by omega) (by omega) none 0 [] (by simp) (Sl.nil _ _) g7) ?_
  rintro _ w9 (⟨hee, rfl, g0⟩ | ⟨hee, mb, mm, M, rfl, hM, g0⟩)
  ·
   refine w_p (zAi (v := .tuple _) rfl rfl) rfl (w_p (zAp (v := .pointer _) rfl rfl rfl) rfl (w_p (zAp (v := .int _ _) rfl rfl rfl) rfl (w_p (zAo (v := .pointer _) rfl rfl) rfl (zBe rfl rfl (zAd (zAb (g8 _ _ (zAe (fun gx gy => (zAe (fun gz gd => (zAa (zAz rfl rfl ?_)))))))))))))
   refine w_p (zB2 rfl rfl rfl rfl) rfl (zAd (zAb (gd _ _ (zAu rfl rfl (fun g3 => ?_) (fun g3 => ?_)))))
   ·
    try simp only [zS] at g3
    refine zAe (fun gA gf => (zAa (zAz rfl rfl (zA5 rfl rfl (zBe rfl rfl (zAd (zAb (gf _ _ (zAy (zAg (zA1 (l := [.tmp 2, .tmp 3]) (vs := [_,_]) rfl ⟨⟨rfl, show _ = (.slice _ _ _ : Value) from rfl⟩, ⟨rfl, (rfl : _ = Value.int _ _)⟩, trivial⟩ ?_)))))))))))
    have hq : goesP m = ([], (check m).2.2) := by unfold goesP; rw [if_pos (by rw [← zEv (n := 0)]; exact hee)]
    exact ⟨[], none, 0, by rw [hq, ← zEv (n := 0)]; rfl, by rw [hq]; exact Sl.nil _ _, g0.tail⟩
   exfalso
   try simp only [zS] at g3
   first | exact hee g3 | exact g3 hee
  replace g0 := (show St _ _ (M ++ (_ :: _ :: F)) from g0)
  have hk : MK w0 ((mb, blk 147 [.slice p.ar m.rooms.length p.cr, .slice p.az m.shops.length p.cs, .slice p.at_ m.trains.length p.ct, .map (some mm)]) :: (b3, blk 31 (m.cells p)) :: F) m p mb mm := ⟨hm.cons.cons, zAk (i := 0) (vs := [_,_,_,_]) rfl rfl, check_ok (zC8 hee)⟩
  have hlr := hk.ok.lr
  have hls := hk.ok.ls
  have hlt := hk.ok.lt
  have hbx : Ats w0 ((b3, blk 31 (m.cells p)) :: F) b3 0 (m.cells p) := zAk (i := 0) rfl rfl
  refine w_p (zAi (v := .tuple _) rfl rfl) rfl (w_p (zAp (v := .pointer _) rfl rfl rfl) rfl (w_p (zAp (v := .int _ _) rfl rfl rfl) rfl (w_p (zAo (v := .pointer _) rfl rfl) rfl (zBe rfl rfl (zAd (zAb (g8 _ _ (zAe (fun gB gg => (zAe (fun gC gh => (zAa (zAz rfl rfl ?_)))))))))))))
  refine w_p (zB2 rfl rfl rfl rfl) rfl (zAd (zAb (gh _ _ (zBx rfl rfl ?_))))
  refine zAs (zAb (gg _ _ (zAe (fun gE gi => (zAe (fun gF gj => (zAa (w_p (zAf (o := 2) (i := 2) underlying31 rfl sizeOf29 rfl rfl rfl) rfl (w_p (zAj isAgg29 g0.drop.tail rfl rfl (show Ats _ _ _ _ [_] from Ats.part hbx 2 1)) rfl ?_)))))))))
  refine w_p (zA8 underlying29 rfl rfl) rfl (w_p (zAi (v := _) rfl rfl) rfl (zAd (zAb (gj _ _ (zAw ?_)))))
  refine zBs [2,5,17,18,19,20,21,22,23,24,25,26,27] [2,17] (fun k vs w => ∃ (i : Nat) (v : Value) (B : List (Nat × Obj)), vs = [v, .int .i64 i] ∧ i ≤ m.trains.length ∧ k = m.trains.length - i ∧ Rt.Own v 3 1 (goesTo m i).length (iv (goesTo m i)) B ∧ St w0 w (B ++ (M ++ ((mb, blk 147 [.slice p.ar m.rooms.length p.cr, .slice p.az m.shops.length p.cs, .slice p.at_ m.trains.length p.ct, .map (some mm)]) :: (b3, blk 31 (m.cells p)) :: F)))) (m.trains.length) ?_ ?_
  ·
   exact ⟨0, _, [], rfl, by omega, by omega, zEm 3 1, g0⟩
  intro k vs μ gG hI gH g9
  obtain ⟨i, v, B, rfl, hia, rfl, hown, hs⟩ := hI
  refine zAe (fun gI gk => (zAa (w_p (zBw rfl rfl rfl rfl) rfl (zAd (zAb (gk _ _ (zAe (fun gJ gm => (zAu rfl rfl (fun g4 => ?_) (fun g4 => ?_))))))))))
  ·
   try simp only [zS] at g4
   refine zAs (zAb (gm _ _ (zAe (fun gK ga => (zAw ?_)))))
   refine zAe (fun gL gn => ?_)
   have hi2 : i < m.trains.length := by omega
   have hgl := goesTo_len m i
   refine zAa (zAz rfl rfl (zBe rfl rfl (zAd (zAb (gn _ _ (zAe (fun gM gq => (zAa (w_p (zAi (v := .pointer _) rfl rfl) rfl (zAz rfl rfl (zAr zAc call67 rfl rfl rfl rfl (c67 m p mb mm hk.app.app i hi2 hs) ?_)))))))))))
   rintro _ gN ⟨rfl, gb⟩
   refine zAd (zAb (gq _ _ (zAu rfl rfl (fun g5 => ?_) (fun g5 => ?_))))
   ·
    try simp only [zS] at g5
    refine zAa (w_p (zAi (v := v) rfl rfl) rfl (zAz rfl rfl (zBb (ps := [(0, _)]) (pv := [(0, .int _ _)]) (cs := [_]) zAc rfl rfl (fun w => Try_SH_fb2 _ w) gb (fun gP gQ gr => ?_))))
    refine zCk (X := (_ :: [])) (B := B) (rows := [[_]]) (sz := 1) (bytes := 8) zAc underlying43 zDb rfl rfl rfl rfl rfl rfl rfl rfl rfl gr hown (zBt (i := 0) rfl (by simp) rfl) rfl (by simp) (by simp [Value.oneCell']) (by simp only [maxLen]; omega) (by omega) (fun gt gR gu gv g6 => ?_)
    replace g6 := (show St _ _ (_ :: gu ++ (M ++ (_ :: _ :: F))) from g6)
    refine w_p (zAo (v := gt) rfl rfl) rfl (zAd (zAl (zAb (ga _ _ (zAa (w_p (zBg rfl rfl rfl rfl (by omega) (by omega)) rfl (zAz rfl rfl (zAd (zAb (g9 _ _ (nxI (m.trains.length - (i + 1)) (by omega) ?_)))))))))))
    exact ⟨i + 1, _,_, rfl, by omega, rfl, by rw [goesTo_yes hi2 (by assumption)]; exact zE3 gv, g6.tail⟩
   try simp only [zS] at g5
   refine zAs (zAl (zAb (ga _ _ (zAa (w_p (zBg rfl rfl rfl rfl (by omega) (by omega)) rfl (zAz rfl rfl (zAd (zAb (g9 _ _ (nxI (m.trains.length - (i + 1)) (by omega) ?_))))))))))
   exact ⟨i + 1, v, B, rfl, by omega, rfl, by rw [goesTo_no hi2 (by assumption)]; exact hown, gb⟩
  try simp only [zS] at g4
  refine zBl (zAm (zAm (zA0 (zAb (gi _ _ (zAe (fun gS gw => (zAa (w_p (zAi (v := v) rfl rfl) rfl (w_p (zAo (v := v) rfl rfl) rfl ?_))))))))))
  refine zA5 rfl rfl (zAd (zAb (gw _ _ (zAy (zA1 (l := [.tmp 2, .tmp 3]) (vs := [_,_]) rfl ⟨⟨rfl, show _ = (v : Value) from rfl⟩, ⟨rfl, (rfl : _ = Value.int _ _)⟩, trivial⟩ ?_)))))
  have hil : i = m.trains.length := by omega
  subst hil
  have hq : goesP m = (goesTo m m.trains.length, 0) := by unfold goesP; rw [if_neg (by rw [zC8 hee]; simp)]
  obtain ⟨ag, cg, rfl, hsg⟩ := zEf (w0 := w0) hown rfl []
  rw [List.append_nil] at hsg
  exact ⟨_, ag, cg, by rw [hq]; rfl, by rw [hq]; exact hsg.top, eq2 hs⟩

end Go.Proofs.Sb
