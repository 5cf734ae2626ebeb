/- Own texts of this claim, joined. No conditions. -/
import GoSem.Core.Value
import Derived.Test.YtjmfdiaafnnlcaaGreatHTopServeda
import Derived.Test.YtjmfdiaafnnlcaaGreatHTopServedb
import Derived.Test.YtjmfdiaafnnlcaaGreatHTopServedc
import Derived.Test.YtjmfdiaafnnlcaaGreatHTopServedd
import Derived.Test.YtjmfdiaafnnlcaaGreatHTopServede
set_option linter.unusedVariables false
set_option linter.unusedSimpArgs false
set_option maxRecDepth 20000
namespace Go.Proofs.Hn
open Go.Proofs.Tryz
open Go.Rt Go.Rt.Ha
attribute [local irreducible] WL WC Con Yd At Ats Sl Agree DW
theorem Try_HS_fb3 (x0 : Int) (x1 : Int) (w : World) : (Instr.build 46 [(0, .int .i64 x0),(1, .int .i64 x1)].toArray).run Tryz.prog w = .ok (.agg #[.int .i64 x0, .int .i64 x1]) w := by kernel_rfl
theorem zJu (x0 : ByteArray) (x1 : Int) (x2 : Int) (w : World) : (Instr.build 61 [(0, .string x0),(1, .int .i64 x1),(2, .int .i64 x2)].toArray).run Tryz.prog w = .ok (.agg #[.string x0, .int .i64 x1, .int .i64 x2]) w := by kernel_rfl
theorem Try_HS_fb5 (x0 : ByteArray) (x1 : Int) (x2 : Int) (x3 : ByteArray) (x4 : Int) (x5 : Int) (x6 : ByteArray) (x7 : Int) (x8 : Int) (w : World) : (Instr.buildSlice 22 3 [(0, .agg #[.string x0, .int .i64 x1, .int .i64 x2]),(1, .agg #[.string x3, .int .i64 x4, .int .i64 x5]),(2, .agg #[.string x6, .int .i64 x7, .int .i64 x8])].toArray).run Tryz.prog w = .ok (.slice (some ⟨w.heap.size, 0, none⟩) 3 3) (w.alloc (Go.Rt.blk 61 [.string x0, .int .i64 x1, .int .i64 x2, .string x3, .int .i64 x4, .int .i64 x5, .string x6, .int .i64 x7, .int .i64 x8])) := by kernel_rfl
theorem Try_HS_fb6 (x0 : Int) (x1 : Int) (w : World) : (Instr.build 65 [(0, .agg #[.int .i64 x0, .int .i64 x1])].toArray).run Tryz.prog w = .ok (.agg #[.int .i64 x0, .int .i64 x1, .int .i64 0, .int .i64 0]) w := by kernel_rfl
theorem zJt (x0 : Int) (x1 : Int) (x2 : Int) (x3 : Int) (w : World) : (Instr.build 65 [(0, .agg #[.int .i64 x0, .int .i64 x1]),(1, .agg #[.int .i64 x2, .int .i64 x3])].toArray).run Tryz.prog w = .ok (.agg #[.int .i64 x0, .int .i64 x1, .int .i64 x2, .int .i64 x3]) w := by kernel_rfl
theorem Try_HS_fb8 (x0 : Int) (x1 : Int) (x2 : Int) (x3 : Int) (x4 : Int) (x5 : Int) (x6 : Int) (x7 : Int) (x8 : Int) (x9 : Int) (x10 : Int) (x11 : Int) (x12 : Int) (x13 : Int) (x14 : Int) (x15 : Int) (w : World) : (Instr.buildSlice 23 4 [(0, .agg #[.int .i64 x0, .int .i64 x1, .int .i64 x2, .int .i64 x3]),(1, .agg #[.int .i64 x4, .int .i64 x5, .int .i64 x6, .int .i64 x7]),(2, .agg #[.int .i64 x8, .int .i64 x9, .int .i64 x10, .int .i64 x11]),(3, .agg #[.int .i64 x12, .int .i64 x13, .int .i64 x14, .int .i64 x15])].toArray).run Tryz.prog w = .ok (.slice (some ⟨w.heap.size, 0, none⟩) 4 4) (w.alloc (Go.Rt.blk 65 [.int .i64 x0, .int .i64 x1, .int .i64 x2, .int .i64 x3, .int .i64 x4, .int .i64 x5, .int .i64 x6, .int .i64 x7, .int .i64 x8, .int .i64 x9, .int .i64 x10, .int .i64 x11, .int .i64 x12, .int .i64 x13, .int .i64 x14, .int .i64 x15])) := by kernel_rfl
theorem zJs (x0 : Int) (x1 : Int) (w : World) : (Instr.build 67 [(0, .int .i64 x0),(1, .int .i64 x1)].toArray).run Tryz.prog w = .ok (.agg #[.int .i64 x0, .int .i64 x1]) w := by kernel_rfl
theorem zHz (x0 : Int) (x1 : Int) (w : World) : (Instr.buildSlice 24 1 [(0, .agg #[.int .i64 x0, .int .i64 x1])].toArray).run Tryz.prog w = .ok (.slice (some ⟨w.heap.size, 0, none⟩) 1 1) (w.alloc (Go.Rt.blk 67 [.int .i64 x0, .int .i64 x1])) := by kernel_rfl
theorem Try_info67 : Tryz.prog.info? 67 = some Tryz.t67 := by kernel_rfl
theorem Try_HS_fb12 (x0 : Option Addr) (l0 c0 : Nat) (x1 : Option Addr) (l1 c1 : Nat) (x2 : Option Addr) (l2 c2 : Nat) (w : World) : (Instr.build 26 [(0, .slice x0 l0 c0),(1, .slice x1 l1 c1),(2, .slice x2 l2 c2)].toArray).run Tryz.prog w = .ok (.agg #[.slice x0 l0 c0, .slice x1 l1 c1, .slice x2 l2 c2]) w := by kernel_rfl
theorem Try_flat46 : flatInts Tryz.prog 46 2 = true := by kernel_rfl
theorem Try_HS_fb14 (x0 : Int) (x1 : Int) (x2 : Int) (w : World) : (Instr.buildSlice 43 3 [(0, .int .i64 x0),(1, .int .i64 x1),(2, .int .i64 x2)].toArray).run Tryz.prog w = .ok (.slice (some ⟨w.heap.size, 0, none⟩) 3 3) (w.alloc (Go.Rt.blk 3 [.int .i64 x0, .int .i64 x1, .int .i64 x2])) := by kernel_rfl
theorem Try_HS_fb15 (x0 : Int) (w : World) : (Instr.buildSlice 43 1 [(0, .int .i64 x0)].toArray).run Tryz.prog w = .ok (.slice (some ⟨w.heap.size, 0, none⟩) 1 1) (w.alloc (Go.Rt.blk 3 [.int .i64 x0])) := by kernel_rfl
theorem Try_HS_fb16 (x0 : Int) (x1 : Int) (w : World) : (Instr.buildSlice 43 2 [(0, .int .i64 x0),(1, .int .i64 x1)].toArray).run Tryz.prog w = .ok (.slice (some ⟨w.heap.size, 0, none⟩) 2 2) (w.alloc (Go.Rt.blk 3 [.int .i64 x0, .int .i64 x1])) := by kernel_rfl
theorem ats_of {w0 w : World} {L : List (Nat × Obj)} {i b : Nat} {t : TypeId} {cs vs : List Value} (hs : St w0 w L) (hi : L[i]? = some (b, blk t cs)) (h : (cs.drop 0).take vs.length = vs) : Ats w0 L b 0 vs := zAk hi h
theorem gen_Z {w0 w : World} {L : List (Nat × Obj)} (hs : St w0 w L) : ∃ Z, Z = L ∧ St w0 w Z := ⟨L, rfl, hs⟩
theorem zD8 {k : FuncId} {args : List Value} {w : World} {x : Bool} {S : World → Prop} (h : Con Tryz.prog k args w fun v w' => v = .bool x ∧ S w') (hx : x = true) : Con Tryz.prog k args w fun v w' => v = .bool true ∧ S w' := by subst hx; exact h
theorem con_false {k : FuncId} {args : List Value} {w : World} {x : Bool} {S : World → Prop} (h : Con Tryz.prog k args w fun v w' => v = .bool x ∧ S w') (hx : x = false) : Con Tryz.prog k args w fun v w' => v = .bool false ∧ S w' := by subst hx; exact h
theorem own_rows {w0 : World} {v : Value} {t : TypeId} {sz n : Nat} {xs : List Value} {B : List (Nat × Obj)} {rows : List (List Value)} (h : Rt.Own v t sz n xs B) (hr : ∀ row ∈ rows, row.length = sz) (hn : rows.length = n) (hx : xs = rows.flatten) (h0 : 0 < n) : ∃ a c, v = .slice a n c ∧ Sl w0 B a sz rows ∧ n ≤ c := by
  obtain ⟨a, c, hv, hs⟩ := h.sl (w0 := w0) hr hn hx []
  rw [List.append_nil] at hs
  subst hn
  refine ⟨a, c, hv, hs, ?_⟩
  rcases h.2 with ⟨_, h3, _⟩ | ⟨b, cap, cs, h2, _, h4, _⟩
  · omega
  · rw [h2] at hv; injection hv with _ _ h5; omega
theorem crows_one (m : List Count) : ∀ row ∈ crows m, ∀ u ∈ row, u.oneCell' = true := by
  intro row hr u hu
  obtain ⟨c, _, rfl⟩ := List.mem_map.1 hr
  simp only [Count.cells, List.mem_cons, List.not_mem_nil, or_false] at hu
  rcases hu with rfl | rfl <;> rfl
theorem ex_lin {w0 : World} {B : List (Nat × Obj)} {m : List Count} {bb bg : Nat} {a : Option Addr} {c : Nat} (hm : m.length ≤ 1) (hc : Sl w0 B a 2 (crows (⟨3,18⟩ :: m))) (hcc : 1 + m.length ≤ c) :
    LIn w0 ((bb, blk 65 (brows (exL m).bunches).flatten) :: (bg, blk 61 (grows (exL m).grades).flatten) :: B) (exL m) ⟨some ⟨bg, 0, none⟩, 3, some ⟨bb, 0, none⟩, 4, a, c⟩ where
  g := zBt (i := 1) rfl (by intro row h; obtain ⟨q, _, rfl⟩ := List.mem_map.1 h; rfl) rfl
  b := zBt (i := 0) rfl (by intro row h; obtain ⟨q, _, rfl⟩ := List.mem_map.1 h; rfl) rfl
  c := hc.cons.cons
  lg := by simp [exL]
  lb := by simp [exL]
  lc := by simp [exL]; omega
  cg := by simp [exL]
  cb := by simp [exL]
  cc := by simp [exL]; omega
  ng := by intro q hq; simp only [exL, List.mem_cons, List.not_mem_nil, or_false] at hq; rcases hq with rfl | rfl | rfl <;> (dsimp only; decide)
theorem c30 {w0 w : World} {F : List (Nat × Obj)} (x y : Int) (hs : St w0 w F) :
  Con Tryz.prog 30 [.int .i64 x, .int .i64 y] w fun v w' => v = .agg #[.int .i64 x, .int .i64 y] ∧ St w0 w' F := by
  refine zAt (n := 8) func30 rfl rfl (zNl rfl) ?_
  refine zAe (fun K2 g3 => (zAa (zBf (cs := [_,_]) zAc zeroValue46 rfl hs (fun b3 w4 g4 => ?_))))
  refine zAd (zAb (g3 _ _ (zAe (fun K7 g5 => (zAa (zAz rfl rfl (zAz rfl rfl (w_p (zBv (ps := [(0, _),(1, _)]) (pv := [(0, .int _ _),(1, .int _ _)]) rfl rfl (fun w => Try_HS_fb3 _ _ w)) rfl ?_))))))))
  refine zA6 (i := 0) (v := .agg #[.int _ _, .int _ _]) (vs := [_,_]) zAc sizeOf46 rfl rfl rfl rfl rfl (by simp [Value.oneCell']) g4 rfl (zNl rfl) (fun w8 g0 => ?_)
  refine zAd (zAb (g5 _ _ (zAy (zA1 (l := [.cell 4 46]) (vs := [_]) rfl ⟨⟨rfl, _, rfl, zB9 (vs := [_,_]) isAgg46 sizeOf46 g0 (zAk (i := 0) (vs := [_,_]) rfl rfl)⟩, trivial⟩ ?_))))
  exact ⟨rfl, g0.tail⟩

theorem c23 {w0 w : World} {F : List (Nat × Obj)} (a : Option Addr) (c : Nat) (m : List Count) (hm : m.length ≤ 1) (ha : Sl w0 F a 2 (crows m)) (hn : a = none → c = 0) (hs : St w0 w F) :
  Con Tryz.prog 23 [.slice a m.length c] w fun v w' => ∃ p B, v = .agg ((exL m).cells p).toArray ∧ LIn w0 B (exL m) p ∧ St w0 w' (B ++ F) := by
  refine zAt (n := 24) func23 rfl rfl (zNl rfl) ?_
  refine zAe (fun K2 g6 => (zAa (zBf (cs := [_,_,_]) zAc zeroValue26 rfl hs (fun b3 w4 g7 => ?_))))
  refine zAd (zAb (g6 _ _ (zAe (fun K7 g8 => (zAa (w_p (zBv (ps := [(0, _),(1, _),(2, _)]) (pv := [(0, .string _),(1, .int _ _),(2, .int _ _)]) rfl rfl (fun w => zJu _ _ _ w)) rfl ?_))))))
  refine w_p (zBv (ps := [(0, _),(1, _),(2, _)]) (pv := [(0, .string _),(1, .int _ _),(2, .int _ _)]) rfl rfl (fun w => zJu _ _ _ w)) rfl (w_p (zBv (ps := [(0, _),(1, _),(2, _)]) (pv := [(0, .string _),(1, .int _ _),(2, .int _ _)]) rfl rfl (fun w => zJu _ _ _ w)) rfl ?_)
  refine zBb (ps := [(0, _),(1, _),(2, _)]) (pv := [(0, .agg #[.string _, .int _ _, .int _ _]),(1, .agg #[.string _, .int _ _, .int _ _]),(2, .agg #[.string _, .int _ _, .int _ _])]) (cs := [_,_,_,_,_,_,_,_,_]) zAc rfl rfl (fun w => Try_HS_fb5 _ _ _ _ _ _ _ _ _ w) g7 (fun b8 w9 g9 => ?_)
  refine zAr zAc call30 rfl rfl rfl rfl (c30 _ _ g9) ?_
  rintro _ gm ⟨rfl, ga⟩
  refine w_p (zBv (ps := [(0, _)]) (pv := [(0, .agg #[.int _ _, .int _ _])]) rfl rfl (fun w => Try_HS_fb6 _ _ w)) rfl (zAr zAc call30 rfl rfl rfl rfl (c30 _ _ ga) ?_)
  rintro _ gn ⟨rfl, gb⟩
  refine zAr zAc call30 rfl rfl rfl rfl (c30 _ _ gb) ?_
  rintro _ gq ⟨rfl, gc⟩
  refine w_p (zBv (ps := [(0, _),(1, _)]) (pv := [(0, .agg #[.int _ _, .int _ _]),(1, .agg #[.int _ _, .int _ _])]) rfl rfl (fun w => zJt _ _ _ _ w)) rfl (zAr zAc call30 rfl rfl rfl rfl (c30 _ _ gc) ?_)
  rintro _ gr ⟨rfl, gd⟩
  refine zAr zAc call30 rfl rfl rfl rfl (c30 _ _ gd) ?_
  rintro _ gt ⟨rfl, gf⟩
  refine w_p (zBv (ps := [(0, _),(1, _)]) (pv := [(0, .agg #[.int _ _, .int _ _]),(1, .agg #[.int _ _, .int _ _])]) rfl rfl (fun w => zJt _ _ _ _ w)) rfl (zAr zAc call30 rfl rfl rfl rfl (c30 _ _ gf) ?_)
  rintro _ gu ⟨rfl, gg⟩
  refine zAr zAc call30 rfl rfl rfl rfl (c30 _ _ gg) ?_
  rintro _ gv ⟨rfl, gh⟩
  refine w_p (zBv (ps := [(0, _),(1, _)]) (pv := [(0, .agg #[.int _ _, .int _ _]),(1, .agg #[.int _ _, .int _ _])]) rfl rfl (fun w => zJt _ _ _ _ w)) rfl (zBb (ps := [(0, _),(1, _),(2, _),(3, _)]) (pv := [(0, .agg #[.int _ _, .int _ _, .int _ _, .int _ _]),(1, .agg #[.int _ _, .int _ _, .int _ _, .int _ _]),(2, .agg #[.int _ _, .int _ _, .int _ _, .int _ _]),(3, .agg #[.int _ _, .int _ _, .int _ _, .int _ _])]) (cs := [_,_,_,_,_,_,_,_,_,_,_,_,_,_,_,_]) zAc rfl rfl (fun w => Try_HS_fb8 _ _ _ _ _ _ _ _ _ _ _ _ _ _ _ _ w) gh (fun gw gx gi => ?_))
  refine w_p (zBv (ps := [(0, _),(1, _)]) (pv := [(0, .int _ _),(1, .int _ _)]) rfl rfl (fun w => zJs _ _ w)) rfl (zBb (ps := [(0, _)]) (pv := [(0, .agg #[.int _ _, .int _ _])]) (cs := [_,_]) zAc rfl rfl (fun w => zHz _ _ w) gi (fun gy gz gj => ?_))
  refine w_p (zAi (v := .slice _ _ _) rfl rfl) rfl (zCk (X := ([])) (B := [_]) (rows := crows m) (sz := 2) (bytes := 16) zAc underlying24 Try_info67 rfl rfl rfl rfl rfl rfl rfl rfl rfl gj (own_lit rfl (by simp [maxLen])) ha.cons.cons.cons.cons (by simp [crows]) hn (crows_one m) (by simp only [maxLen]; omega) (by omega) (fun gA gB g0 gk g3 => ?_))
  replace g3 := (show St _ _ (g0 ++ (_ :: _ :: _ :: F)) from g3)
  have g4 := St.perm (L := g0 ++ ([_,_,_] ++ F)) g3 (zBc g0 [_,_,_] F)
  replace g4 := (show St _ _ (_ :: _ :: _ :: (g0 ++ F)) from g4)
  obtain ⟨aC, cC, rfl, hslC, hcC⟩ := own_rows (w0 := w0) (rows := crows (⟨3,18⟩ :: m)) gk (by intro row h; obtain ⟨q, _, rfl⟩ := List.mem_map.1 h; rfl) (by simp [crows]; omega) (by simp [crows, Count.cells]) (by omega)
  refine w_p (zBv (ps := [(0, _),(1, _),(2, _)]) (pv := [(0, .slice _ _ _),(1, .slice _ _ _),(2, .slice _ _ _)]) rfl rfl (fun w => Try_HS_fb12 _ _ _ _ _ _ _ _ _ w)) rfl (zA6 (i := 2) (v := .agg #[.slice _ _ _, .slice _ _ _, .slice _ _ _]) (vs := [_,_,_]) zAc sizeOf26 rfl rfl rfl rfl rfl (by simp [Value.oneCell']) g4 rfl (zNl rfl) (fun gC g5 => ?_))
  refine zAd (zAb (g8 _ _ (zAy (zA1 (l := [.cell 2 26]) (vs := [_]) rfl ⟨⟨rfl, _, rfl, zB9 (vs := [_,_,_]) isAgg26 sizeOf26 g5 (zAk (i := 2) (vs := [_,_,_]) rfl rfl)⟩, trivial⟩ ?_))))
  exact ⟨⟨_, 3, _, 4, aC, cC⟩, _ :: _ :: g0, by show _ = Value.agg #[_,_, .slice aC (exL m).counts.length cC]; rw [show (exL m).counts.length = 1 + m.length by simp [exL]; omega]; rfl, ex_lin hm hslC hcC, (St.perm (L := [_,_] ++ ([_] ++ (g0 ++ F))) g5 (zBc [_,_] [_] _)).tail⟩

theorem c7 {w0 w : World} {F : List (Nat × Obj)}  (hs : St w0 w F) :
  Con Tryz.prog 7 [] w fun v w' => v = .bool true ∧ St w0 w' F := by
  refine zAt (n := 162) func7 rfl rfl (zNl rfl) ?_
  refine zAe (fun K2 gB => (zAa (zA5 rfl rfl (zAd (zAb (gB _ _ (zAe (fun K4 gC => (zAa (zAr zAc call23 rfl rfl rfl rfl (c23 none 0 [] (by decide) (Sl.nil _ _) (fun _ => rfl) hs) ?_))))))))))
  rintro _ w6 ⟨p1, L1, rfl, hq1, g8⟩
  replace g8 := (show St _ _ (L1 ++ (F)) from g8)
  refine w_p (zBv (ps := [(0, _),(1, _)]) (pv := [(0, .int _ _),(1, .int _ _)]) rfl rfl (fun w => zJs _ _ w)) rfl (zBb (ps := [(0, _)]) (pv := [(0, .agg #[.int _ _, .int _ _])]) (cs := [_,_]) zAc rfl rfl (fun w => zHz _ _ w) g8 (fun b8 w9 gE => ?_))
  refine zAr zAc call23 rfl rfl rfl rfl (c23 _ _ [⟨12,13⟩] (by decide) (zBt (i := 0) (rows := [[_,_]]) rfl (by simp) rfl) (by simp) gE) ?_
  rintro _ j3 ⟨p2, L2, rfl, hq2, g9⟩
  replace g9 := (show St _ _ (L2 ++ (_ :: L1 ++ (F))) from g9)
  refine w_p (zBv (ps := [(0, _),(1, _)]) (pv := [(0, .int _ _),(1, .int _ _)]) rfl rfl (fun w => zJs _ _ w)) rfl (zBb (ps := [(0, _)]) (pv := [(0, .agg #[.int _ _, .int _ _])]) (cs := [_,_]) zAc rfl rfl (fun w => zHz _ _ w) g9 (fun j4 j5 gF => ?_))
  refine zAr zAc call23 rfl rfl rfl rfl (c23 _ _ [⟨1,8⟩] (by decide) (zBt (i := 0) (rows := [[_,_]]) rfl (by simp) rfl) (by simp) gF) ?_
  rintro _ j6 ⟨p3, L3, rfl, hq3, ga⟩
  replace ga := (show St _ _ (L3 ++ (_ :: L2 ++ (_ :: L1 ++ (F)))) from ga)
  refine zBf (cs := [_,_,_]) zAc zeroValue26 rfl ga (fun gG j7 gH => ?_)
  refine zBf (cs := [_,_,_]) zAc zeroValue26 rfl gH (fun gI j8 gJ => ?_)
  refine zBf (cs := [_,_,_]) zAc zeroValue26 rfl gJ (fun gK j9 gL => ?_)
  refine zA6 (i := 2) (v := .agg #[.slice _ _ _, .slice _ _ _, .slice _ _ _]) (vs := [_,_,_]) zAc sizeOf26 rfl rfl rfl rfl rfl (by simp [Value.oneCell']) gL rfl (zNl rfl) (fun ja gM => ?_)
  refine zA6 (i := 1) (v := .agg #[.slice _ _ _, .slice _ _ _, .slice _ _ _]) (vs := [_,_,_]) zAc sizeOf26 rfl rfl rfl rfl rfl (by simp [Value.oneCell']) gM rfl (zNl rfl) (fun jb gN => ?_)
  refine zA6 (i := 0) (v := .agg #[.slice _ _ _, .slice _ _ _, .slice _ _ _]) (vs := [_,_,_]) zAc sizeOf26 rfl rfl rfl rfl rfl (by simp [Value.oneCell']) gN rfl (zNl rfl) (fun jc gP => ?_)
  refine zAd (zAb (gC _ _ (zAe (fun jd gQ => ?_))))
  obtain ⟨Z, hZ, hsZ⟩ := gen_Z gP
  have hP1 : Ats w0 Z gG 0 ((exL []).cells p1) := by rw [hZ]; exact zAk (i := 2) (vs := (exL []).cells p1) rfl rfl
  have g0 : LIn w0 Z (exL []) p1 := by rw [hZ]; exact LIn.mono hq1 (fun w h => h.tail.tail.tail.drop.tail.drop.tail.front)
  have hP2 : Ats w0 Z gI 0 ((exL [⟨12,13⟩]).cells p2) := by rw [hZ]; exact zAk (i := 1) (vs := (exL [⟨12,13⟩]).cells p2) rfl rfl
  have gR : LIn w0 Z (exL [⟨12,13⟩]) p2 := by rw [hZ]; exact LIn.mono hq2 (fun w h => h.tail.tail.tail.drop.tail.front)
  have hP3 : Ats w0 Z gK 0 ((exL [⟨1,8⟩]).cells p3) := by rw [hZ]; exact zAk (i := 0) (vs := (exL [⟨1,8⟩]).cells p3) rfl rfl
  have gh : LIn w0 Z (exL [⟨1,8⟩]) p3 := by rw [hZ]; exact LIn.mono hq3 (fun w h => h.tail.tail.tail.front)
  refine zAa (w_p (zA4 (vs := [_,_,_]) isAgg26 sizeOf26 hsZ rfl rfl hP1) rfl (zAr zAc call24 rfl rfl rfl rfl ((c24 (exL []) p1 g0 0 hsZ).mono (fun v w' h => by rw [ex_hands1] at h; exact h)) ?_))
  rintro _ je ⟨rfl, gS⟩
  refine w_p (zAi (v := .tuple _) rfl rfl) rfl (w_p (zAp (v := .agg _) rfl rfl rfl) rfl (w_p (zAp (v := .int _ _) rfl rfl rfl) rfl (zBf (cs := [_,_]) zAc zeroValue46 rfl gS (fun jf jg gU => ?_))))
  refine zA6 (i := 0) (v := .agg #[.int _ _, .int _ _]) (vs := [_,_]) zAc sizeOf46 rfl rfl rfl rfl rfl (by simp [Value.oneCell']) gU rfl (zNl rfl) (fun jh gb => ?_)
  refine zBe rfl rfl (zAd (zAb (gQ _ _ (zAe (fun ji gV => ?_)))))
  have hx4 := ats_of (i := 0) (vs := [_,_]) gb rfl rfl
  refine zAa (w_p (zA4 (vs := [_,_,_]) isAgg26 sizeOf26 gb.tail rfl rfl hP1) rfl (zAr zAc call25 rfl rfl rfl rfl ((c25 (exL []) p1 g0.cons 2 gb).mono (fun v w' h => by rw [ex_grade1] at h; exact h)) ?_))
  rintro _ jj ⟨B1, a1, c1, rfl, hr1, g3⟩
  replace g3 := (show St _ _ (B1 ++ (_ :: Z)) from g3)
  refine w_p (zAi (v := .tuple _) rfl rfl) rfl (w_p (zAp (v := .slice _ _ _) rfl rfl rfl) rfl (w_p (zAp (v := .int _ _) rfl rfl rfl) rfl (w_p (zAo (v := .slice _ _ _) rfl rfl) rfl (zBe rfl rfl (zAd (zAb (gV _ _ (zAe (fun jk gW => (zAa (w_p (zA4 (vs := [_,_,_]) isAgg26 sizeOf26 g3.drop.tail rfl rfl hP1) rfl ?_)))))))))))
  refine zAr zAc call10 rfl rfl rfl rfl ((c10 (exL []) p1 g0.cons.app 0 g3).mono (fun v w' h => by rw [ex_total1] at h; exact h)) ?_
  rintro _ jl ⟨rfl, gX⟩
  refine w_p (zAi (v := .tuple _) rfl rfl) rfl (w_p (zAp (v := .agg _) rfl rfl rfl) rfl (w_p (zAp (v := .int _ _) rfl rfl rfl) rfl (zBf (cs := [_,_]) zAc zeroValue46 rfl gX (fun jm jn gY => ?_))))
  refine zA6 (i := 0) (v := .agg #[.int _ _, .int _ _]) (vs := [_,_]) zAc sizeOf46 rfl rfl rfl rfl rfl (by simp [Value.oneCell']) gY rfl (zNl rfl) (fun jo gc => ?_)
  refine zBe rfl rfl (zAd (zAb (gW _ _ (zAe (fun jp gZ => ?_)))))
  have hx8 := ats_of (i := 0) (vs := [_,_]) gc rfl rfl
  refine zAa (w_p (zA4 (vs := [_,_,_]) isAgg26 sizeOf26 gc.tail.drop.tail rfl rfl hP2) rfl (zAr zAc call26 rfl rfl rfl rfl ((c26 (exL [⟨12,13⟩]) p2 gR.cons.app.cons gc).mono (fun v w' h => by rw [ex_ref1] at h; exact h)) ?_))
  rintro _ jq ⟨B2, a2, c2, a3, c3, rfl, hr2, hr3, g4⟩
  replace g4 := (show St _ _ (B2 ++ (_ :: B1 ++ (_ :: Z))) from g4)
  refine w_p (zAi (v := .tuple _) rfl rfl) rfl (w_p (zAp (v := .slice _ _ _) rfl rfl rfl) rfl (w_p (zAp (v := .slice _ _ _) rfl rfl rfl) rfl (w_p (zAp (v := .int _ _) rfl rfl rfl) rfl (w_p (zAo (v := .slice _ _ _) rfl rfl) rfl ?_))))
  refine w_p (zAo (v := .slice _ _ _) rfl rfl) rfl (zBe rfl rfl (zAd (zAb (gZ _ _ (zAe (fun jr hD => (zAa (w_p (zA4 (vs := [_,_,_]) isAgg26 sizeOf26 g4.drop.tail.drop.tail rfl rfl hP1) rfl ?_))))))))
  refine zAr zAc call27 rfl rfl rfl rfl ((c27 (exL []) p1 g0.cons.app.cons.app 1 18 g4).mono (fun v w' h => by rw [ex_pick1] at h; exact h)) ?_
  rintro _ js ⟨B4, a4, c4, rfl, hr4, g5⟩
  replace g5 := (show St _ _ (B4 ++ (B2 ++ (_ :: B1 ++ (_ :: Z)))) from g5)
  refine w_p (zAi (v := .tuple _) rfl rfl) rfl (w_p (zAp (v := .slice _ _ _) rfl rfl rfl) rfl (w_p (zAp (v := .int _ _) rfl rfl rfl) rfl (w_p (zAo (v := .slice _ _ _) rfl rfl) rfl (zBe rfl rfl (zAd (zAb (hD _ _ (zAe (fun jt hG => (zAa (w_p (zA4 (vs := [_,_,_]) isAgg26 sizeOf26 g5.drop.drop.tail.drop.tail rfl rfl hP1) rfl ?_)))))))))))
  refine zAr zAc call27 rfl rfl rfl rfl ((c27 (exL []) p1 g0.cons.app.cons.app.app 1 19 g5).mono (fun v w' h => by rw [ex_pick2] at h; exact h)) ?_
  rintro _ ju ⟨B5, a5, c5, rfl, hr5, g6⟩
  replace g6 := (show St _ _ (B5 ++ (B4 ++ (B2 ++ (_ :: B1 ++ (_ :: Z))))) from g6)
  refine w_p (zAi (v := .tuple _) rfl rfl) rfl (w_p (zAp (v := .slice _ _ _) rfl rfl rfl) rfl (w_p (zAp (v := .int _ _) rfl rfl rfl) rfl (w_p (zAo (v := .slice _ _ _) rfl rfl) rfl (zBe rfl rfl (zAd (zAb (hG _ _ (zAe (fun jv hH => (zAa (w_p (zA4 (vs := [_,_,_]) isAgg26 sizeOf26 g6.drop.drop.drop.tail.drop.tail rfl rfl hP1) rfl ?_)))))))))))
  refine zAr zAc call28 rfl rfl rfl rfl ((c28 (exL []) p1 g0.cons.app.cons.app.app.app g6).mono (fun v w' h => by rw [ex_next1] at h; exact h)) ?_
  rintro _ jw ⟨rfl, gi⟩
  refine w_p (zAi (v := .tuple _) rfl rfl) rfl (w_p (zAp (v := .int _ _) rfl rfl rfl) rfl (w_p (zAp (v := .int _ _) rfl rfl rfl) rfl (w_p (zAp (v := .int _ _) rfl rfl rfl) rfl (zBe rfl rfl (zBe rfl rfl (zBe rfl rfl ?_))))))
  refine zAd (zAb (hH _ _ (zAe (fun jx hO => (zAa (w_p (zA4 (vs := [_,_,_]) isAgg26 sizeOf26 gi.drop.drop.drop.tail.drop.tail rfl rfl hP3) rfl (zAr zAc call29 rfl rfl rfl rfl ((c29 (exL [⟨1,8⟩]) p3 gh.cons.app.cons.app.app.app gi).mono (fun v w' h => by rw [ex_wrong1] at h; exact h)) ?_)))))))
  rintro _ jy ⟨B6, a6, c6, rfl, hr6, g7⟩
  replace g7 := (show St _ _ (B6 ++ (B5 ++ (B4 ++ (B2 ++ (_ :: B1 ++ (_ :: Z)))))) from g7)
  refine w_p (zAi (v := .tuple _) rfl rfl) rfl (w_p (zAp (v := .slice _ _ _) rfl rfl rfl) rfl (w_p (zAp (v := .int _ _) rfl rfl rfl) rfl (w_p (zAo (v := .slice _ _ _) rfl rfl) rfl (zBe rfl rfl (zAd (zAb (hO _ _ (zAe (fun jz hX => (zAa (w_p (zA4 (vs := [_,_,_]) isAgg26 sizeOf26 g7.drop.drop.drop.drop.tail.drop.tail rfl rfl hP3) rfl ?_)))))))))))
  refine zAr zAc call24 rfl rfl rfl rfl ((c24 (exL [⟨1,8⟩]) p3 gh.cons.app.cons.app.app.app.app 0 g7).mono (fun v w' h => by rw [ex_hands2] at h; exact h)) ?_
  rintro _ jA ⟨rfl, hY⟩
  refine w_p (zAi (v := .tuple _) rfl rfl) rfl (w_p (zAp (v := .agg _) rfl rfl rfl) rfl (w_p (zAp (v := .int _ _) rfl rfl rfl) rfl (zBf (cs := [_,_]) zAc zeroValue46 rfl hY (fun jB jC j0 => ?_))))
  refine zA6 (i := 0) (v := .agg #[.int _ _, .int _ _]) (vs := [_,_]) zAc sizeOf46 rfl rfl rfl rfl rfl (by simp [Value.oneCell']) j0 rfl (zNl rfl) (fun jD j1 => ?_)
  refine zBe rfl rfl (zAd (zAb (hX _ _ (zAe (fun jE j2 => (zCn [] [(0,0),(1,0),(2,0),(3,0),(4,0),(5,0),(6,0),(7,0),(8,0),(9,0),(10,0),(11,0),(12,0),(13,0),(14,0),(15,0),(16,0),(17,0),(18,0),(19,0),(20,0),(21,0),(22,0),(23,0),(24,0),(25,0),(26,0),(27,0),(28,0),(29,0),(30,0),(31,0),(32,0),(33,0),(34,0),(35,1),(36,2),(37,0),(38,0),(39,0),(40,0),(41,2),(42,2),(43,0),(44,0),(45,1),(46,2),(47,0),(48,0),(49,0),(50,0),(51,2),(52,2),(53,0),(54,0),(55,0),(56,2),(57,2),(58,0),(59,0),(60,0),(61,2),(62,2),(63,0),(64,0),(65,0),(66,0),(67,0),(68,0),(69,0),(70,0),(71,0),(72,0),(73,0),(74,2),(75,2),(76,0),(77,0),(78,2),(79,0),(80,0),(81,2),(82,0),(83,0),(84,0)] zCb (zEn (by kernel_rfl)) j1 (fun jF gj => ?_)))))))
  refine d_w rfl (fun _ => zA2 rfl rfl) rfl ?_
  refine d_w rfl (fun _ => zB6 rfl rfl rfl rfl) rfl ?_
  refine d_w rfl (fun _ => zAi (v := .bool _) rfl rfl) rfl ?_
  refine zBn rfl (zAq rfl rfl rfl) rfl (fun _ => (zA2 rfl rfl)) ?_
  refine zBn rfl (zAq rfl rfl rfl) rfl (fun _ => (zB6 rfl rfl rfl rfl)) ?_
  refine d_w rfl (fun _ => zAx (v := .bool _) rfl rfl rfl rfl) rfl ?_
  refine d_w rfl (fun _ => zAi (v := .bool _) rfl rfl) rfl ?_
  refine zBn rfl (zAq rfl rfl rfl) rfl (fun _ => (zA2 rfl rfl)) ?_
  refine zBn rfl (zAq rfl rfl rfl) rfl (fun _ => (zB6 rfl rfl rfl rfl)) ?_
  refine d_w rfl (fun _ => zAx (v := .bool _) rfl rfl rfl rfl) rfl ?_
  refine d_w rfl (fun _ => zAi (v := .bool _) rfl rfl) rfl ?_
  refine zBn rfl (zAq rfl rfl rfl) rfl (fun _ => (zA2 rfl rfl)) ?_
  refine zBn rfl (zAq rfl rfl rfl) rfl (fun _ => (zB6 rfl rfl rfl rfl)) ?_
  refine d_w rfl (fun _ => zAx (v := .bool _) rfl rfl rfl rfl) rfl ?_
  refine d_w rfl (fun _ => zAi (v := .bool _) rfl rfl) rfl ?_
  refine zBn rfl (zAq rfl rfl rfl) rfl (fun _ => (zA2 rfl rfl)) ?_
  refine zBn rfl (zAq rfl rfl rfl) rfl (fun _ => (zB6 rfl rfl rfl rfl)) ?_
  refine d_w rfl (fun _ => zAx (v := .bool _) rfl rfl rfl rfl) rfl ?_
  refine d_w rfl (fun _ => zAi (v := .bool _) rfl rfl) rfl ?_
  refine zBn rfl (zAq rfl rfl rfl) rfl (fun _ => (zA2 rfl rfl)) ?_
  refine zBn rfl (zAq rfl rfl rfl) rfl (fun _ => (zB6 rfl rfl rfl rfl)) ?_
  refine d_w rfl (fun _ => zAx (v := .bool _) rfl rfl rfl rfl) rfl ?_
  refine d_w rfl (fun _ => zAi (v := .bool _) rfl rfl) rfl ?_
  refine zBn rfl (zAq rfl rfl rfl) rfl (fun _ => (zA2 rfl rfl)) ?_
  refine zBn rfl (zAq rfl rfl rfl) rfl (fun _ => (zB6 rfl rfl rfl rfl)) ?_
  refine d_w rfl (fun _ => zAx (v := .bool _) rfl rfl rfl rfl) rfl ?_
  refine d_w rfl (fun _ => zAi (v := .bool _) rfl rfl) rfl ?_
  refine zBn rfl (zAq rfl rfl rfl) rfl (fun _ => (zA2 rfl rfl)) ?_
  refine zBn rfl (zAq rfl rfl rfl) rfl (fun _ => (zB6 rfl rfl rfl rfl)) ?_
  refine d_w rfl (fun _ => zAx (v := .bool _) rfl rfl rfl rfl) rfl ?_
  refine d_w rfl (fun _ => zAi (v := .bool _) rfl rfl) rfl ?_
  refine zBn rfl (zAq rfl rfl rfl) rfl (fun _ => (zA2 rfl rfl)) ?_
  refine zBn rfl (zAq rfl rfl rfl) rfl (fun _ => (zB6 rfl rfl rfl rfl)) ?_
  refine d_w rfl (fun _ => zAx (v := .bool _) rfl rfl rfl rfl) rfl ?_
  refine d_w rfl (fun _ => zAi (v := .bool _) rfl rfl) rfl ?_
  refine zBd rfl (zAq rfl rfl rfl) rfl gj (fun _ hq => (zA4 (vs := [_,_]) isAgg46 sizeOf46 hq.tail.drop.drop.drop.drop.tail.drop rfl rfl hx4)) ?_
  refine zCq rfl ?_
  refine zAr (zAq rfl rfl rfl) call30 rfl rfl rfl rfl (c30 _ _ gj) ?_
  rintro _ jG ⟨rfl, gk⟩
  refine zAd (qn ⟨gk, ?_⟩)
  refine zBn rfl (zAq rfl rfl rfl) rfl (fun _ => (zKd (l := [_,_]) (m := [_,_]) eqGuardType46 Try_flat46 (by first | omega | rfl | (simp only [zL] <;> omega)) (by first | omega | rfl | (simp only [zL] <;> omega)) rfl rfl rfl rfl rfl rfl)) ?_
  refine d_w rfl (fun _ => zAx (v := .bool _) rfl rfl rfl rfl) rfl ?_
  refine d_w rfl (fun _ => zAi (v := .bool _) rfl rfl) rfl ?_
  refine zEw (fun gd => ?_) (fun gd => ?_)
  ·
   try simp only [zS] at gd
   refine zBn rfl (zAq rfl rfl rfl) rfl (fun _ => (zAi (v := .slice _ _ _) rfl rfl)) ?_
   refine zCq rfl ?_
   refine zBb (ps := [(0, _),(1, _),(2, _)]) (pv := [(0, .int _ _),(1, .int _ _),(2, .int _ _)]) (cs := [_,_,_]) (zAq rfl rfl rfl) rfl rfl (fun w => Try_HS_fb14 _ _ _ w) gk (fun jH jI gm => ?_)
   refine zAd (qn ⟨gm.tail, ?_⟩)
   refine zCq rfl ?_
   refine zAr (zAq rfl rfl rfl) call31 rfl rfl rfl rfl (zD8 (c31 _ _ [-1,1,2] [-1,1,2] _ _ (by decide) hr1.top.cons.app.app.app.app.cons.cons (zBt (i := 0) (rows := [[_], [_], [_]]) rfl (by simp) rfl) gm) (by decide)) ?_
   rintro _ jJ ⟨rfl, gf⟩
   refine zAd (qn ⟨gf.tail, ?_⟩)
   refine d_w rfl (fun _ => zAx (v := .bool _) rfl rfl rfl rfl) rfl ?_
   refine d_w rfl (fun _ => zAi (v := .bool _) rfl rfl) rfl ?_
   refine zBd rfl (zAq rfl rfl rfl) rfl gf.tail (fun _ hq => (zA4 (vs := [_,_]) isAgg46 sizeOf46 hq.tail.drop.drop.drop.drop rfl rfl hx8)) ?_
   refine zCq rfl ?_
   refine zAr (zAq rfl rfl rfl) call30 rfl rfl rfl rfl (c30 _ _ gf) ?_
   rintro _ jK ⟨rfl, gn⟩
   refine zAd (qn ⟨gn.tail, ?_⟩)
   refine zBn rfl (zAq rfl rfl rfl) rfl (fun _ => (zKd (l := [_,_]) (m := [_,_]) eqGuardType46 Try_flat46 (by first | omega | rfl | (simp only [zL] <;> omega)) (by first | omega | rfl | (simp only [zL] <;> omega)) rfl rfl rfl rfl rfl rfl)) ?_
   refine d_w rfl (fun _ => zAx (v := .bool _) rfl rfl rfl rfl) rfl ?_
   refine d_w rfl (fun _ => zAi (v := .bool _) rfl rfl) rfl ?_
   refine zEw (fun gg => ?_) (fun gg => ?_)
   ·
    try simp only [zS] at gg
    refine zBn rfl (zAq rfl rfl rfl) rfl (fun _ => (zAi (v := .slice _ _ _) rfl rfl)) ?_
    refine zCq rfl ?_
    refine zBb (ps := [(0, _)]) (pv := [(0, .int _ _)]) (cs := [_]) (zAq rfl rfl rfl) rfl rfl (fun w => Try_HS_fb15 _ w) gn (fun jL jM gq => ?_)
    refine zAd (qn ⟨gq.tail.tail, ?_⟩)
    refine zCq rfl ?_
    refine zAr (zAq rfl rfl rfl) call31 rfl rfl rfl rfl (zD8 (c31 _ _ [3] [3] _ _ (by decide) hr2.top.app.app.app.cons.cons.cons (zBt (i := 0) (rows := [[_]]) rfl (by simp) rfl) gq) (by decide)) ?_
    rintro _ jN ⟨rfl, gr⟩
    refine zAd (qn ⟨gr.tail.tail, ?_⟩)
    refine d_w rfl (fun _ => zAx (v := .bool _) rfl rfl rfl rfl) rfl ?_
    refine d_w rfl (fun _ => zAi (v := .bool _) rfl rfl) rfl ?_
    refine zBn rfl (zAq rfl rfl rfl) rfl (fun _ => (zAi (v := .slice _ _ _) rfl rfl)) ?_
    refine zCq rfl ?_
    refine zBb (ps := [(0, _),(1, _)]) (pv := [(0, .int _ _),(1, .int _ _)]) (cs := [_,_]) (zAq rfl rfl rfl) rfl rfl (fun w => Try_HS_fb16 _ _ w) gr (fun jO jP gt => ?_)
    refine zAd (qn ⟨gt.tail.tail.tail, ?_⟩)
    refine zCq rfl ?_
    refine zAr (zAq rfl rfl rfl) call31 rfl rfl rfl rfl (zD8 (c31 _ _ [2,3] [2,3] _ _ (by decide) hr3.top.app.app.app.cons.cons.cons.cons (zBt (i := 0) (rows := [[_], [_]]) rfl (by simp) rfl) gt) (by decide)) ?_
    rintro _ jQ ⟨rfl, gu⟩
    refine zAd (qn ⟨gu.tail.tail.tail, ?_⟩)
    refine d_w rfl (fun _ => zAx (v := .bool _) rfl rfl rfl rfl) rfl ?_
    refine d_w rfl (fun _ => zAi (v := .bool _) rfl rfl) rfl ?_
    refine zBn rfl (zAq rfl rfl rfl) rfl (fun _ => (zAi (v := .slice _ _ _) rfl rfl)) ?_
    refine zCq rfl ?_
    refine zBb (ps := [(0, _),(1, _)]) (pv := [(0, .int _ _),(1, .int _ _)]) (cs := [_,_]) (zAq rfl rfl rfl) rfl rfl (fun w => Try_HS_fb16 _ _ w) gu (fun jR jS gv => ?_)
    refine zAd (qn ⟨gv.tail.tail.tail.tail, ?_⟩)
    refine zCq rfl ?_
    refine zAr (zAq rfl rfl rfl) call31 rfl rfl rfl rfl (zD8 (c31 _ _ [0,1] [0,1] _ _ (by decide) hr4.top.app.app.cons.cons.cons.cons.cons (zBt (i := 0) (rows := [[_], [_]]) rfl (by simp) rfl) gv) (by decide)) ?_
    rintro _ jT ⟨rfl, gw⟩
    refine zAd (qn ⟨gw.tail.tail.tail.tail, ?_⟩)
    refine d_w rfl (fun _ => zAx (v := .bool _) rfl rfl rfl rfl) rfl ?_
    refine d_w rfl (fun _ => zAi (v := .bool _) rfl rfl) rfl ?_
    refine zBn rfl (zAq rfl rfl rfl) rfl (fun _ => (zA2 rfl rfl)) ?_
    refine zBn rfl (zAq rfl rfl rfl) rfl (fun _ => (zB6 rfl rfl rfl rfl)) ?_
    refine d_w rfl (fun _ => zAx (v := .bool _) rfl rfl rfl rfl) rfl ?_
    refine d_w rfl (fun _ => zAi (v := .bool _) rfl rfl) rfl ?_
    refine zBn rfl (zAq rfl rfl rfl) rfl (fun _ => (zA2 rfl rfl)) ?_
    refine zBn rfl (zAq rfl rfl rfl) rfl (fun _ => (zB6 rfl rfl rfl rfl)) ?_
    refine d_w rfl (fun _ => zAx (v := .bool _) rfl rfl rfl rfl) rfl ?_
    refine d_w rfl (fun _ => zAi (v := .bool _) rfl rfl) rfl ?_
    refine zBn rfl (zAq rfl rfl rfl) rfl (fun _ => (zAi (v := .slice _ _ _) rfl rfl)) ?_
    refine zCq rfl ?_
    refine zBb (ps := [(0, _)]) (pv := [(0, .int _ _)]) (cs := [_]) (zAq rfl rfl rfl) rfl rfl (fun w => Try_HS_fb15 _ w) gw (fun jU jV gx => ?_)
    refine zAd (qn ⟨gx.tail.tail.tail.tail.tail, ?_⟩)
    refine zCq rfl ?_
    refine zAr (zAq rfl rfl rfl) call31 rfl rfl rfl rfl (zD8 (c31 _ _ [1] [1] _ _ (by decide) hr6.top.cons.cons.cons.cons.cons.cons (zBt (i := 0) (rows := [[_]]) rfl (by simp) rfl) gx) (by decide)) ?_
    rintro _ jW ⟨rfl, gy⟩
    refine zAd (qn ⟨gy.tail.tail.tail.tail.tail, ?_⟩)
    refine d_w rfl (fun _ => zAx (v := .bool _) rfl rfl rfl rfl) rfl ?_
    refine d_w rfl (fun _ => zAi (v := .bool _) rfl rfl) rfl ?_
    refine zCq rfl ?_
    refine zAr (zAq rfl rfl rfl) call32 rfl rfl rfl rfl (zD8 (c32 _ (by decide) gy) (by decide)) ?_
    rintro _ jX ⟨rfl, gz⟩
    refine zAd (qn ⟨gz.tail.tail.tail.tail.tail, ?_⟩)
    refine d_w rfl (fun _ => zAx (v := .bool _) rfl rfl rfl rfl) rfl ?_
    refine d_w rfl (fun _ => zAi (v := .bool _) rfl rfl) rfl ?_
    refine zCq rfl ?_
    refine zAr (zAq rfl rfl rfl) call32 rfl rfl rfl rfl (con_false (c32 _ (by decide) gz) (by decide)) ?_
    rintro _ jY ⟨rfl, gA⟩
    refine zAd (qn ⟨gA.tail.tail.tail.tail.tail, ?_⟩)
    refine zBn rfl (zAq rfl rfl rfl) rfl (fun _ => (zDz rfl rfl)) ?_
    refine d_w rfl (fun _ => zAx (v := .bool _) rfl rfl rfl rfl) rfl ?_
    refine d_w rfl (fun _ => zAo (v := .bool _) rfl rfl) rfl ?_
    refine zCf ?_
    refine zAb (j2 _ _ (zAy (zA1 (l := [.tmp 0]) (vs := [_]) rfl ⟨⟨rfl, (rfl : _ = Value.bool _)⟩, trivial⟩ ?_)))
    exact ⟨rfl, (St.cast hZ gA.tail.tail.tail.tail.tail.tail.drop.drop.drop.drop.tail.drop.tail).tail.tail.tail.drop.tail.drop.tail.drop⟩
   exfalso; simp at gg
  exfalso; simp at gd

end Go.Proofs.Hn
set_option maxRecDepth 20000
namespace Go.Proofs.Hn
open Go.Proofs.Tryz
open Go.Rt Go.Rt.Ha
attribute [local irreducible] WL WC Con Yd At Ats Sl Agree DW
theorem Try_HR_fb2 (x0 : ByteArray) (w : World) : (Instr.buildSlice 58 1 [(0, .string x0)].toArray).run Tryz.prog w = .ok (.slice (some ⟨w.heap.size, 0, none⟩) 1 1) (w.alloc (Go.Rt.blk 9 [.string x0])) := by kernel_rfl
theorem zF6 : Tryz.prog.info? 9 = some Tryz.t9 := by kernel_rfl
def gradeOwn (bf : List Grade) (g : Grade) : Int := if out 1 12 g.hands || out 0 9 g.scars then 7 else if notBelow bf g then 2 else 0
def freshE (s : ByteArray) (l : List ByteArray) : Int := if nmOk s = false then 6 else if has l s then 5 else 0
theorem zB8 {bf : List Grade} {g : Grade} (h : freshE g.name (bf.map (·.name)) = 0) : gradeE bf g = gradeOwn bf g := by
  unfold gradeE gradeOwn nameE; unfold freshE at h
  cases h1 : nmOk g.name <;> cases h2 : has (bf.map (·.name)) g.name <;> simp [h1, h2] at h ⊢
theorem zCy {bf : List Grade} {g : Grade} (h : ¬ freshE g.name (bf.map (·.name)) = 0) : gradeE bf g = freshE g.name (bf.map (·.name)) := by
  unfold gradeE nameE; unfold freshE at h ⊢
  cases h1 : nmOk g.name <;> cases h2 : has (bf.map (·.name)) g.name <;> simp [h1, h2] at h ⊢
theorem names_snocG {l : List Grade} {i : Nat} (hi : i < l.length) : ((l.take i).map (·.name)).map Value.string ++ [Value.string l[i].name] = ((l.take (i + 1)).map (·.name)).map Value.string := by
  rw [List.take_succ_eq_append_getElem hi]; simp only [List.map_append, List.map_cons, List.map_nil]
theorem names_lenG {l : List Grade} {i : Nat} (hi : i ≤ l.length) : ((l.take i).map (·.name)).length = i := by simp; omega
theorem zC7 {lo hi n : Int} (h : lo ≤ n ∧ n ≤ hi) : out lo hi n = false := by unfold out; rw [Bool.or_eq_false_iff]; simp; omega
theorem zDa {lo hi n : Int} (h : ¬ (lo ≤ n ∧ n ≤ hi)) : out lo hi n = true := by unfold out; rw [Bool.or_eq_true]; simp; omega
theorem zIt {l : Lot} (h : ¬ (1 ≤ (l.grades.length : Int) ∧ (l.grades.length : Int) ≤ 4)) : check l = (1,0,3) := by unfold check failE; rw [zDa h]; simp
theorem zGr {l : Lot} {i e : Int} (h : 1 ≤ (l.grades.length : Int) ∧ (l.grades.length : Int) ≤ 4) (h1 : firstE gradeE [] 0 l.grades = (i, e)) (he : ¬ e = 0) : check l = (1, i, e) := by unfold check failE; rw [zC7 h]; simp [h1, he]
theorem zIv {l : Lot} (h : 1 ≤ (l.grades.length : Int) ∧ (l.grades.length : Int) ≤ 4) (h1 : firstE gradeE [] 0 l.grades = (0,0)) (h2 : (6 : Int) < l.bunches.length) : check l = (2,0,3) := by unfold check failE; rw [zC7 h, zCo, decide_eq_true h2]; simp [h1]
theorem chk_b {l : Lot} {i e : Int} (h : 1 ≤ (l.grades.length : Int) ∧ (l.grades.length : Int) ≤ 4) (h1 : firstE gradeE [] 0 l.grades = (0,0)) (h2 : (l.bunches.length : Int) ≤ 6) (h3 : firstE bunchE [] 0 l.bunches = (i, e)) (he : ¬ e = 0) : check l = (2, i, e) := by unfold check failE; rw [zC7 h, zCo, decide_eq_false (by omega)]; simp [h1, h3, he]
theorem zIu {l : Lot} (h : 1 ≤ (l.grades.length : Int) ∧ (l.grades.length : Int) ≤ 4) (h1 : firstE gradeE [] 0 l.grades = (0,0)) (h2 : (l.bunches.length : Int) ≤ 6) (h3 : firstE bunchE [] 0 l.bunches = (0,0)) (h4 : (4 : Int) < l.counts.length) : check l = (3,0,3) := by unfold check failE; rw [zC7 h, zCo, decide_eq_false (by omega), zCo, decide_eq_true h4]; simp [h1, h3]
theorem zGs {l : Lot} {x : Int × Int} (h : 1 ≤ (l.grades.length : Int) ∧ (l.grades.length : Int) ≤ 4) (h1 : firstE gradeE [] 0 l.grades = (0,0)) (h2 : (l.bunches.length : Int) ≤ 6) (h3 : firstE bunchE [] 0 l.bunches = (0,0)) (h4 : (l.counts.length : Int) ≤ 4) (h5 : firstE (countE l.bunches.length) [] 0 l.counts = x) (he : ¬ x.2 = 0) : check l = (3, x.1, x.2) := by unfold check failE; rw [zC7 h, zCo, decide_eq_false (by omega), zCo, decide_eq_false (by omega)]; simp [h1, h3, h5, he]
theorem zIs {l : Lot} (h : 1 ≤ (l.grades.length : Int) ∧ (l.grades.length : Int) ≤ 4) (h1 : firstE gradeE [] 0 l.grades = (0,0)) (h2 : (l.bunches.length : Int) ≤ 6) (h3 : firstE bunchE [] 0 l.bunches = (0,0)) (h4 : (l.counts.length : Int) ≤ 4) (h5 : firstE (countE l.bunches.length) [] 0 l.counts = (0,0)) : check l = (0,0,0) := by unfold check failE; rw [zC7 h, zCo, decide_eq_false (by omega), zCo, decide_eq_false (by omega)]; simp [h1, h3, h5]
theorem zGm {n : Nat} {bf : List Count} {c : Count} (h : ¬ (1 ≤ c.bits ∧ c.bits ≤ allN n)) : countE n bf c = 4 := by rw [allN_eq] at h; unfold countE; rw [zDa h]; rfl
theorem zGl {n : Nat} {bf : List Count} {c : Count} (h : 1 ≤ c.bits ∧ c.bits ≤ allN n) (h2 : ¬ (0 ≤ c.hands ∧ c.hands ≤ 72)) : countE n bf c = 7 := by rw [allN_eq] at h; unfold countE; rw [zC7 h, zDa h2]; rfl
theorem count_3 {n : Nat} {bf : List Count} {c : Count} (h : 1 ≤ c.bits ∧ c.bits ≤ allN n) (h2 : 0 ≤ c.hands ∧ c.hands ≤ 72) : countE n bf c = 0 := by rw [allN_eq] at h; unfold countE; rw [zC7 h, zC7 h2]; rfl
theorem allN_in : ∀ n, n ≤ 6 → 0 ≤ allN n ∧ allN n ≤ 63 := by
  intro n h
  have := pow_le n h
  have h2 := pow64 h
  rw [allN_eq]
  have h3 : (1 : Int) ≤ 2 ^ n := by have h5 := pow_all h; omega
  omega
theorem ends_ok {a b lo hi : Int} (h : ends a b lo hi = 0) : lo ≤ a ∧ a ≤ hi ∧ lo ≤ b ∧ b ≤ hi ∧ a ≤ b := by
  unfold ends out at h
  split at h
  · cases h
  · rename_i h1
    simp only [Bool.or_eq_true, decide_eq_true_eq, not_or] at h1
    split at h
    · cases h
    · omega
theorem allN_succ (n : Nat) : allN (n + 1) = 2 * allN n + 1 := by simp only [allN]
theorem c16 {w0 w : World} {F : List (Nat × Obj)} (l : Lot) (p : At3) (hm : LIn w0 F l p) (i : Nat) (hi : i < l.grades.length) (hs : St w0 w F) :
  Con Tryz.prog 16 [.agg (l.cells p).toArray, .int .i64 (i : Int)] w fun v w' => v = .int .i64 (gradeOwn (l.grades.take i) l.grades[i]) ∧ St w0 w' F := by
  refine zAt (n := 47) func16 rfl rfl (zNl rfl) ?_
  obtain ⟨ag, cg, ab, cb, ac, cc⟩ := p
  have hlg := hm.lg
  obtain ⟨bx, ox, hbx, hx⟩ := zEk hm.g hi
  subst hbx
  refine zAe (fun K2 gg => (zAa (zCa (v := .agg #[.slice _ _ _, .slice _ _ _, .slice _ _ _]) (cs := [_,_,_]) zAc rfl rfl rfl hs (fun b3 w4 ga => ?_))))
  refine zA5 rfl rfl (zAd (zAb (gg _ _ (zAe (fun K7 gh => (zAa (w_p (zAf (o := 0) (i := 0) underlying26 rfl sizeOf22 rfl rfl rfl) rfl (w_p (zAj isAgg22 ga rfl rfl (zAk (i := 0) (vs := [_]) rfl rfl)) rfl ?_))))))))
  refine zAz rfl rfl (w_p (zA3 underlying22 sizeOf61 rfl rfl rfl rfl (i := _) rfl (by omega)) rfl (w_p (zA4 (vs := [_,_,_]) isAgg61 sizeOf61 ga.tail rfl rfl hx) rfl (zBf (cs := [_,_,_]) zAc zeroValue61 rfl ga (fun b8 w9 gi => ?_))))
  refine zA6 (i := 0) (v := .agg #[.string _, .int _ _, .int _ _]) (vs := [_,_,_]) zAc sizeOf61 rfl rfl rfl rfl rfl (by simp [Value.oneCell']) gi rfl (zNl rfl) (fun gu gc => ?_)
  refine zAd (zAb (gh _ _ (zAe (fun gv gj => (zAe (fun gw gd => (zAa (w_p (zAf (o := 1) (i := 1) underlying61 rfl sizeOf3 rfl rfl rfl) rfl (w_p (zAj isAgg3 gc rfl rfl (zAk (i := 0) (vs := [_]) rfl rfl)) rfl ?_)))))))))
  refine zAr zAc call14 rfl rfl rfl rfl (c14 _ _ _ gc) ?_
  rintro _ gx ⟨rfl, g6⟩
  refine w_p (zDz rfl rfl) rfl (w_p (zAi (v := .bool _) rfl rfl) rfl (zBi (fun g3 => ?_) (fun g3 => ?_)))
  ·
   try simp only [zS] at g3
   refine zAh rfl rfl rfl ?_
   refine zAh rfl rfl rfl ?_
   refine zAh rfl rfl rfl ?_
   refine zAh rfl rfl rfl ?_
   refine w_p (zAx (v := _) rfl rfl rfl rfl) rfl (zAd (zAb (gd _ _ (zB1 rfl rfl ?_))))
   refine zAe (fun gy gk => (zAa (zA5 rfl rfl (zAd (zAb (gk _ _ (zAy (zAg (zA1 (l := [.tmp 4]) (vs := [_]) rfl ⟨⟨rfl, (rfl : _ = Value.int _ _)⟩, trivial⟩ ?_)))))))))
   first
     | exact ⟨congrArg (Value.int .i64) (by unfold gradeOwn; rw [zDa (by assumption)]; simp), g6.tail.tail⟩
     | exact ⟨congrArg (Value.int .i64) (by unfold gradeOwn; rw [zDa (n := l.grades[i].scars) (by assumption)]; simp), g6.tail.tail⟩
     | (have hi0 : i = 0 := by omega
        subst hi0
        exact ⟨congrArg (Value.int .i64) (by unfold gradeOwn; rw [zC7 (by assumption), zC7 (by assumption)]; rfl), g6.tail.tail⟩)
     | (have hnb := zDu h0 (show i ≤ l.grades.length by omega) l.grades[i]
        exact ⟨congrArg (Value.int .i64) (by unfold gradeOwn; rw [zC7 (by assumption), zC7 (by assumption), hnb]; simp [g3] <;> omega), g6.tail.tail⟩)
  try simp only [zS] at g3
  refine w_y rfl rfl rfl (zAf (o := 2) (i := 2) underlying61 rfl sizeOf3 rfl rfl rfl) rfl ?_
  refine w_y rfl rfl rfl (zAj isAgg3 g6 rfl rfl (zAk (i := 0) (vs := [_]) rfl rfl)) rfl ?_
  refine zAr (zAq rfl rfl rfl) call14 rfl rfl rfl rfl (c14 _ _ _ g6) ?_
  rintro _ gz ⟨rfl, g8⟩
  refine w_y rfl rfl rfl (zDz rfl rfl) rfl ?_
  refine w_p (zA9 (v := .bool _) rfl rfl rfl rfl) rfl (zAd (zAb (gd _ _ (zAu rfl rfl (fun g4 => ?_) (fun g4 => ?_)))))
  ·
   try simp only [zS] at g4
   refine zAe (fun gA gm => (zAa (zA5 rfl rfl (zAd (zAb (gm _ _ (zAy (zAg (zA1 (l := [.tmp 4]) (vs := [_]) rfl ⟨⟨rfl, (rfl : _ = Value.int _ _)⟩, trivial⟩ ?_)))))))))
   first
     | exact ⟨congrArg (Value.int .i64) (by unfold gradeOwn; rw [zDa (by assumption)]; simp), g8.tail.tail⟩
     | exact ⟨congrArg (Value.int .i64) (by unfold gradeOwn; rw [zDa (n := l.grades[i].scars) (by assumption)]; simp), g8.tail.tail⟩
     | (have hi0 : i = 0 := by omega
        subst hi0
        exact ⟨congrArg (Value.int .i64) (by unfold gradeOwn; rw [zC7 (by assumption), zC7 (by assumption)]; rfl), g8.tail.tail⟩)
     | (have hnb := zDu h0 (show i ≤ l.grades.length by omega) l.grades[i]
        exact ⟨congrArg (Value.int .i64) (by unfold gradeOwn; rw [zC7 (by assumption), zC7 (by assumption), hnb]; simp [g3, g4] <;> omega), g8.tail.tail⟩)
  try simp only [zS] at g4
  refine zAs (zAb (gj _ _ (zAe (fun gB gf => (zAe (fun gC gb => (zCn [] [(0,0),(1,0),(2,0),(3,0),(4,1),(5,0),(6,1),(7,0),(8,0),(9,0),(10,0),(11,1),(12,0),(13,0),(14,0),(15,1),(16,0),(17,1),(18,0),(19,0),(20,0),(21,0),(22,1),(23,0),(24,0),(25,0)] zCb (by kernel_rfl) g8 (fun gE g0 => ?_))))))))
  refine d_w rfl (fun _ => zA2 rfl rfl) rfl ?_
  refine d_w rfl (fun _ => zD5 rfl rfl rfl rfl) rfl ?_
  refine d_w rfl (fun _ => zAi (v := .bool _) rfl rfl) rfl ?_
  refine zEw (fun g5 => ?_) (fun g5 => ?_)
  ·
   try simp only [zS] at g5
   have h0 : 0 < i := by omega
   obtain ⟨by_, oy, hby, hy⟩ := zEk hm.g (show i - 1 < l.grades.length by omega)
   cases hby
   refine zBn rfl (zAq rfl rfl rfl) rfl (fun _ => (zAf (o := 1) (i := 1) underlying61 rfl sizeOf3 rfl rfl rfl)) ?_
   refine zBd rfl (zAq rfl rfl rfl) rfl g0 (fun _ hq => (zAj isAgg3 hq rfl rfl (zAk (i := 0) (vs := [_]) rfl rfl))) ?_
   refine zBn rfl (zAq rfl rfl rfl) rfl (fun _ => (zAf (o := 0) (i := 0) underlying26 rfl sizeOf22 rfl rfl rfl)) ?_
   refine zBd rfl (zAq rfl rfl rfl) rfl g0 (fun _ hq => (zAj isAgg22 hq rfl rfl (zAk (i := 1) (vs := [_]) rfl rfl))) ?_
   refine zBn rfl (zAq rfl rfl rfl) rfl (fun _ => (zA2 rfl rfl)) ?_
   refine zBn rfl (zAq rfl rfl rfl) rfl (fun _ => (zE0 rfl rfl rfl rfl (by omega) (by omega))) ?_
   refine zBn rfl (zAq rfl rfl rfl) rfl (fun _ => (zA3 underlying22 sizeOf61 rfl rfl rfl rfl (i := i - 1) (by omega) (by omega))) ?_
   refine zBn rfl (zAq rfl rfl rfl) rfl (fun _ => (zAf (o := 1) (i := 1) underlying61 rfl sizeOf3 rfl rfl rfl)) ?_
   refine zBd rfl (zAq rfl rfl rfl) rfl g0 (fun _ hq => (zAj isAgg3 hq.tail.tail rfl rfl (show Ats _ _ _ _ [_] from Ats.part hy 1 1))) ?_
   refine zBn rfl (zAq rfl rfl rfl) rfl (fun _ => (zKa rfl rfl rfl rfl)) ?_
   refine zBn rfl (zAq rfl rfl rfl) rfl (fun _ => (zAi (v := .bool _) rfl rfl)) ?_
   refine zEw (fun g7 => ?_) (fun g7 => ?_)
   ·
    try simp only [zS] at g7
    refine zBj rfl rfl rfl rfl ?_
    refine zC6 rfl rfl rfl rfl g0 ?_
    refine zBj rfl rfl rfl rfl ?_
    refine zC6 rfl rfl rfl rfl g0 ?_
    refine zBj rfl rfl rfl rfl ?_
    refine zBj rfl rfl rfl rfl ?_
    refine zBj rfl rfl rfl rfl ?_
    refine zBj rfl rfl rfl rfl ?_
    refine zC6 rfl rfl rfl rfl g0 ?_
    refine zBj rfl rfl rfl rfl ?_
    refine zBn rfl (zAq rfl rfl rfl) rfl (fun _ => (zAx (v := _) rfl rfl rfl rfl)) ?_
    refine d_w rfl (fun _ => zAx (v := .bool _) rfl rfl rfl rfl) rfl ?_
    refine zCf ?_
    refine zAb (gb _ _ (zB1 rfl rfl ?_))
    refine zAe (fun gF gn => (zAa (zA5 rfl rfl (zAd (zAb (gn _ _ (zAy (zAg (zA1 (l := [.tmp 4]) (vs := [_]) rfl ⟨⟨rfl, (rfl : _ = Value.int _ _)⟩, trivial⟩ ?_)))))))))
    first
      | exact ⟨congrArg (Value.int .i64) (by unfold gradeOwn; rw [zDa (by assumption)]; simp), g0.tail.tail⟩
      | exact ⟨congrArg (Value.int .i64) (by unfold gradeOwn; rw [zDa (n := l.grades[i].scars) (by assumption)]; simp), g0.tail.tail⟩
      | (have hi0 : i = 0 := by omega
         subst hi0
         exact ⟨congrArg (Value.int .i64) (by unfold gradeOwn; rw [zC7 (by assumption), zC7 (by assumption)]; rfl), g0.tail.tail⟩)
      | (have hnb := zDu h0 (show i ≤ l.grades.length by omega) l.grades[i]
         exact ⟨congrArg (Value.int .i64) (by unfold gradeOwn; rw [zC7 (by assumption), zC7 (by assumption), hnb]; simp [g3, g4, g5, g7] <;> omega), g0.tail.tail⟩)
   try simp only [zS] at g7
   refine zBn rfl (zAq rfl rfl rfl) rfl (fun _ => (zAf (o := 2) (i := 2) underlying61 rfl sizeOf3 rfl rfl rfl)) ?_
   refine zBd rfl (zAq rfl rfl rfl) rfl g0 (fun _ hq => (zAj isAgg3 hq rfl rfl (zAk (i := 0) (vs := [_]) rfl rfl))) ?_
   refine zBn rfl (zAq rfl rfl rfl) rfl (fun _ => (zAf (o := 0) (i := 0) underlying26 rfl sizeOf22 rfl rfl rfl)) ?_
   refine zBd rfl (zAq rfl rfl rfl) rfl g0 (fun _ hq => (zAj isAgg22 hq rfl rfl (zAk (i := 1) (vs := [_]) rfl rfl))) ?_
   refine zBn rfl (zAq rfl rfl rfl) rfl (fun _ => (zA2 rfl rfl)) ?_
   refine zBn rfl (zAq rfl rfl rfl) rfl (fun _ => (zE0 rfl rfl rfl rfl (by omega) (by omega))) ?_
   refine zBn rfl (zAq rfl rfl rfl) rfl (fun _ => (zA3 underlying22 sizeOf61 rfl rfl rfl rfl (i := i - 1) (by omega) (by omega))) ?_
   refine zBn rfl (zAq rfl rfl rfl) rfl (fun _ => (zAf (o := 2) (i := 2) underlying61 rfl sizeOf3 rfl rfl rfl)) ?_
   refine zBd rfl (zAq rfl rfl rfl) rfl g0 (fun _ hq => (zAj isAgg3 hq.tail.tail rfl rfl (show Ats _ _ _ _ [_] from Ats.part hy 2 1))) ?_
   refine zBn rfl (zAq rfl rfl rfl) rfl (fun _ => (zBw rfl rfl rfl rfl)) ?_
   refine zBn rfl (zAq rfl rfl rfl) rfl (fun _ => (zA9 (v := .bool _) rfl rfl rfl rfl)) ?_
   refine d_w rfl (fun _ => zAx (v := .bool _) rfl rfl rfl rfl) rfl ?_
   refine zCf ?_
   refine zAb (gb _ _ (zAu rfl rfl (fun g9 => ?_) (fun g9 => ?_)))
   ·
    try simp only [zS] at g9
    refine zAe (fun gG gq => (zAa (zA5 rfl rfl (zAd (zAb (gq _ _ (zAy (zAg (zA1 (l := [.tmp 4]) (vs := [_]) rfl ⟨⟨rfl, (rfl : _ = Value.int _ _)⟩, trivial⟩ ?_)))))))))
    first
      | exact ⟨congrArg (Value.int .i64) (by unfold gradeOwn; rw [zDa (by assumption)]; simp), g0.tail.tail⟩
      | exact ⟨congrArg (Value.int .i64) (by unfold gradeOwn; rw [zDa (n := l.grades[i].scars) (by assumption)]; simp), g0.tail.tail⟩
      | (have hi0 : i = 0 := by omega
         subst hi0
         exact ⟨congrArg (Value.int .i64) (by unfold gradeOwn; rw [zC7 (by assumption), zC7 (by assumption)]; rfl), g0.tail.tail⟩)
      | (have hnb := zDu h0 (show i ≤ l.grades.length by omega) l.grades[i]
         exact ⟨congrArg (Value.int .i64) (by unfold gradeOwn; rw [zC7 (by assumption), zC7 (by assumption), hnb]; simp [g3, g4, g5, g7, g9] <;> omega), g0.tail.tail⟩)
   try simp only [zS] at g9
   refine zAs (zAb (gf _ _ (zAe (fun gH gr => (zAa (zA5 rfl rfl (zAd (zAb (gr _ _ (zAy (zA1 (l := [.tmp 4]) (vs := [_]) rfl ⟨⟨rfl, (rfl : _ = Value.int _ _)⟩, trivial⟩ ?_)))))))))))
   first
     | exact ⟨congrArg (Value.int .i64) (by unfold gradeOwn; rw [zDa (by assumption)]; simp), g0.tail.tail⟩
     | exact ⟨congrArg (Value.int .i64) (by unfold gradeOwn; rw [zDa (n := l.grades[i].scars) (by assumption)]; simp), g0.tail.tail⟩
     | (have hi0 : i = 0 := by omega
        subst hi0
        exact ⟨congrArg (Value.int .i64) (by unfold gradeOwn; rw [zC7 (by assumption), zC7 (by assumption)]; rfl), g0.tail.tail⟩)
     | (have hnb := zDu h0 (show i ≤ l.grades.length by omega) l.grades[i]
        exact ⟨congrArg (Value.int .i64) (by unfold gradeOwn; rw [zC7 (by assumption), zC7 (by assumption), hnb]; simp [g3, g4, g5, g7, g9] <;> omega), g0.tail.tail⟩)
  try simp only [zS] at g5
  refine zBj rfl rfl rfl rfl ?_
  refine zC6 rfl rfl rfl rfl g0 ?_
  refine zBj rfl rfl rfl rfl ?_
  refine zC6 rfl rfl rfl rfl g0 ?_
  refine zBj rfl rfl rfl rfl ?_
  refine zBj rfl rfl rfl rfl ?_
  refine zBj rfl rfl rfl rfl ?_
  refine zBj rfl rfl rfl rfl ?_
  refine zC6 rfl rfl rfl rfl g0 ?_
  refine zBj rfl rfl rfl rfl ?_
  refine zBj rfl rfl rfl rfl ?_
  refine zCw rfl rfl rfl rfl ?_
  refine zEx rfl rfl rfl rfl g0 ?_
  refine zCw rfl rfl rfl rfl ?_
  refine zEx rfl rfl rfl rfl g0 ?_
  refine zCw rfl rfl rfl rfl ?_
  refine zCw rfl rfl rfl rfl ?_
  refine zCw rfl rfl rfl rfl ?_
  refine zCw rfl rfl rfl rfl ?_
  refine zEx rfl rfl rfl rfl g0 ?_
  refine zCw rfl rfl rfl rfl ?_
  refine zBj rfl rfl rfl rfl ?_
  refine d_w rfl (fun _ => zA9 (v := _) rfl rfl rfl rfl) rfl ?_
  refine zCf ?_
  refine zAb (gb _ _ (zBx rfl rfl ?_))
  refine zAs (zAb (gf _ _ (zAe (fun gI gt => (zAa (zA5 rfl rfl (zAd (zAb (gt _ _ (zAy (zA1 (l := [.tmp 4]) (vs := [_]) rfl ⟨⟨rfl, (rfl : _ = Value.int _ _)⟩, trivial⟩ ?_)))))))))))
  first
    | exact ⟨congrArg (Value.int .i64) (by unfold gradeOwn; rw [zDa (by assumption)]; simp), g0.tail.tail⟩
    | exact ⟨congrArg (Value.int .i64) (by unfold gradeOwn; rw [zDa (n := l.grades[i].scars) (by assumption)]; simp), g0.tail.tail⟩
    | (have hi0 : i = 0 := by omega
       subst hi0
       exact ⟨congrArg (Value.int .i64) (by unfold gradeOwn; rw [zC7 (by assumption), zC7 (by assumption)]; rfl), g0.tail.tail⟩)
    | (have hnb := zDu h0 (show i ≤ l.grades.length by omega) l.grades[i]
       exact ⟨congrArg (Value.int .i64) (by unfold gradeOwn; rw [zC7 (by assumption), zC7 (by assumption), hnb]; simp [g3, g4, g5] <;> omega), g0.tail.tail⟩)

theorem c17 {w0 w : World} {F : List (Nat × Obj)} (b : Bunch) (bf : List Bunch) (hs : St w0 w F) :
  Con Tryz.prog 17 [.agg b.cells.toArray] w fun v w' => v = .int .i64 (bunchE bf b) ∧ St w0 w' F := by
  refine zAt (n := 33) func17 rfl rfl (zNl rfl) ?_
  refine zAe (fun K2 gc => (zAa (zCa (v := .agg #[.int _ _, .int _ _, .int _ _, .int _ _]) (cs := [_,_,_,_]) zAc rfl rfl rfl hs (fun b3 w4 gd => ?_))))
  refine zA5 rfl rfl (zAd (zAb (gc _ _ (zAe (fun K7 gf => (zCn [] [(0,0),(1,1),(3,0),(4,1),(2,2),(5,2),(6,0),(7,0)] zCb (by kernel_rfl) gd (fun w8 g8 => ?_)))))))
  refine d_w rfl (fun _ => zAf (o := 0) (i := 0) underlying65 rfl sizeOf46 rfl rfl rfl) rfl ?_
  refine zBd rfl zAc rfl g8 (fun _ hq => (zA4 (vs := [_,_]) isAgg46 sizeOf46 hq rfl rfl (zAk (i := 0) (vs := [_,_]) rfl rfl))) ?_
  refine d_w rfl (fun _ => zAf (o := 2) (i := 1) underlying65 rfl sizeOf46 rfl rfl rfl) rfl ?_
  refine zBd rfl zAc rfl g8 (fun _ hq => (zA4 (vs := [_,_]) isAgg46 sizeOf46 hq rfl rfl (zAk (i := 0) (vs := [_,_]) rfl rfl))) ?_
  refine zCq rfl ?_
  refine zAr zAc call51 rfl rfl rfl rfl (c51 _ _ _ _ g8) ?_
  rintro _ gr ⟨rfl, ga⟩
  refine zAd (qn ⟨ga, ?_⟩)
  refine zCq rfl ?_
  refine zAr zAc call51 rfl rfl rfl rfl (c51 _ _ _ _ ga) ?_
  rintro _ gt ⟨rfl, g0⟩
  refine zAd (qn ⟨g0, ?_⟩)
  refine d_w rfl (fun _ => zCi rfl rfl) rfl ?_
  refine d_w rfl (fun _ => zCi rfl rfl) rfl ?_
  refine zCf ?_
  refine zAb (gf _ _ (zAe (fun gu gg => (zAe (fun gv gb => (zAa (zAz rfl rfl (w_p (zB6 rfl rfl rfl rfl) rfl (w_p (zAi (v := .bool _) rfl rfl) rfl ?_)))))))))
  refine zBi (fun g3 => ?_) (fun g3 => ?_)
  ·
   try simp only [zS] at g3
   refine zAh rfl rfl rfl ?_
   refine zAh rfl rfl rfl ?_
   refine w_p (zAx (v := _) rfl rfl rfl rfl) rfl (zAd (zAb (gb _ _ (zB1 rfl rfl ?_))))
   refine zAe (fun gw gh => (zAa (zA5 rfl rfl (zAd (zAb (gh _ _ (zAy (zAg (zA1 (l := [.tmp 2]) (vs := [_]) rfl ⟨⟨rfl, (rfl : _ = Value.int _ _)⟩, trivial⟩ ?_)))))))))
   exact ⟨congrArg (Value.int .i64) (by rw [← zFd bf b]; unfold bunchR; simp [g3] <;> omega), g0.tail⟩
  try simp only [zS] at g3
  refine w_y rfl rfl rfl (zA2 rfl rfl) rfl ?_
  refine w_y rfl rfl rfl (zB6 rfl rfl rfl rfl) rfl ?_
  refine w_p (zA9 (v := .bool _) rfl rfl rfl rfl) rfl (zAd (zAb (gb _ _ (zAu rfl rfl (fun g4 => ?_) (fun g4 => ?_)))))
  ·
   try simp only [zS] at g4
   refine zAe (fun gx gi => (zAa (zA5 rfl rfl (zAd (zAb (gi _ _ (zAy (zAg (zA1 (l := [.tmp 2]) (vs := [_]) rfl ⟨⟨rfl, (rfl : _ = Value.int _ _)⟩, trivial⟩ ?_)))))))))
   exact ⟨congrArg (Value.int .i64) (by rw [← zFd bf b]; unfold bunchR; simp [g3, g4] <;> omega), g0.tail⟩
  try simp only [zS] at g4
  refine zAs (zAb (gg _ _ (zAe (fun gy gj => (zAe (fun gz g9 => (zAa (zAz rfl rfl (w_p (zB2 rfl rfl rfl rfl) rfl (w_p (zAi (v := .bool _) rfl rfl) rfl ?_))))))))))
  refine zBi (fun g5 => ?_) (fun g5 => ?_)
  ·
   try simp only [zS] at g5
   refine zAh rfl rfl rfl ?_
   refine zAh rfl rfl rfl ?_
   refine w_p (zAx (v := _) rfl rfl rfl rfl) rfl (w_p (zAi (v := .bool _) rfl rfl) rfl (zAh rfl rfl rfl ?_))
   refine zAh rfl rfl rfl ?_
   refine zAh rfl rfl rfl ?_
   refine zAh rfl rfl rfl ?_
   refine zAh rfl rfl rfl ?_
   refine zAh rfl rfl rfl ?_
   refine zAh rfl rfl rfl ?_
   refine zAh rfl rfl rfl ?_
   refine w_p (zAx (v := _) rfl rfl rfl rfl) rfl (zAd (zAb (g9 _ _ (zB1 rfl rfl ?_))))
   refine zAe (fun gA gk => (zAa (zA5 rfl rfl (zAd (zAb (gk _ _ (zAy (zAg (zA1 (l := [.tmp 2]) (vs := [_]) rfl ⟨⟨rfl, (rfl : _ = Value.int _ _)⟩, trivial⟩ ?_)))))))))
   exact ⟨congrArg (Value.int .i64) (by rw [← zFd bf b]; unfold bunchR; simp [g3, g4, g5] <;> omega), g0.tail⟩
  try simp only [zS] at g5
  refine w_y rfl rfl rfl (zA2 rfl rfl) rfl ?_
  refine w_y rfl rfl rfl (zB2 rfl rfl rfl rfl) rfl ?_
  refine w_p (zA9 (v := .bool _) rfl rfl rfl rfl) rfl (w_p (zAi (v := .bool _) rfl rfl) rfl (zBi (fun g6 => ?_) (fun g6 => ?_)))
  ·
   try simp only [zS] at g6
   refine zAh rfl rfl rfl ?_
   refine zAh rfl rfl rfl ?_
   refine zAh rfl rfl rfl ?_
   refine zAh rfl rfl rfl ?_
   refine zAh rfl rfl rfl ?_
   refine zAh rfl rfl rfl ?_
   refine zAh rfl rfl rfl ?_
   refine zAh rfl rfl rfl ?_
   refine w_p (zAx (v := _) rfl rfl rfl rfl) rfl (zAd (zAb (g9 _ _ (zB1 rfl rfl ?_))))
   refine zAe (fun gB gm => (zAa (zA5 rfl rfl (zAd (zAb (gm _ _ (zAy (zAg (zA1 (l := [.tmp 2]) (vs := [_]) rfl ⟨⟨rfl, (rfl : _ = Value.int _ _)⟩, trivial⟩ ?_)))))))))
   exact ⟨congrArg (Value.int .i64) (by rw [← zFd bf b]; unfold bunchR; simp [g3, g4, g5, g6] <;> omega), g0.tail⟩
  try simp only [zS] at g6
  refine w_y rfl rfl rfl (zAf (o := 0) (i := 0) underlying65 rfl sizeOf46 rfl rfl rfl) rfl ?_
  refine w_y rfl rfl rfl (zAf (o := 1) (i := 1) underlying46 rfl sizeOf3 rfl rfl rfl) rfl ?_
  refine w_y rfl rfl rfl (zAj isAgg3 g0 rfl rfl (zAk (i := 0) (vs := [_]) rfl rfl)) rfl ?_
  refine w_y rfl rfl rfl (zAf (o := 0) (i := 0) underlying65 rfl sizeOf46 rfl rfl rfl) rfl ?_
  refine w_y rfl rfl rfl (zAf (o := 0) (i := 0) underlying46 rfl sizeOf3 rfl rfl rfl) rfl ?_
  refine w_y rfl rfl rfl (zAj isAgg3 g0 rfl rfl (zAk (i := 0) (vs := [_]) rfl rfl)) rfl ?_
  have he1 := ends_ok (by assumption : ends b.lo b.hi 1 12 = 0)
  refine w_y rfl rfl rfl (zE0 rfl rfl rfl rfl (by omega) (by omega)) rfl ?_
  refine w_y rfl rfl rfl (zD5 rfl rfl rfl rfl) rfl ?_
  refine w_p (zA9 (v := .bool _) rfl rfl rfl rfl) rfl (zAd (zAb (g9 _ _ (zAu rfl rfl (fun g7 => ?_) (fun g7 => ?_)))))
  ·
   try simp only [zS] at g7
   refine zAe (fun gC gn => (zAa (zA5 rfl rfl (zAd (zAb (gn _ _ (zAy (zAg (zA1 (l := [.tmp 2]) (vs := [_]) rfl ⟨⟨rfl, (rfl : _ = Value.int _ _)⟩, trivial⟩ ?_)))))))))
   exact ⟨congrArg (Value.int .i64) (by rw [← zFd bf b]; unfold bunchR; simp [g3, g4, g5, g6, g7] <;> omega), g0.tail⟩
  try simp only [zS] at g7
  refine zAs (zAb (gj _ _ (zAe (fun gE gq => (zAa (zA5 rfl rfl (zAd (zAb (gq _ _ (zAy (zA1 (l := [.tmp 2]) (vs := [_]) rfl ⟨⟨rfl, (rfl : _ = Value.int _ _)⟩, trivial⟩ ?_)))))))))))
  exact ⟨congrArg (Value.int .i64) (by rw [← zFd bf b]; unfold bunchR; simp [g3, g4, g5, g6, g7] <;> omega), g0.tail⟩

theorem c18 {w0 w : World} {F : List (Nat × Obj)} (n : Nat) (hn : n ≤ 6) (hs : St w0 w F) :
  Con Tryz.prog 18 [.int .i64 (n : Int)] w fun v w' => v = .int .i64 (allN n) ∧ St w0 w' F := by
  refine zAt (n := 14) func18 rfl rfl (zNl rfl) ?_
  refine zAe (fun K2 g3 => (zAa (zA5 rfl rfl (zAd (zAb (g3 _ _ (zAe (fun K4 g4 => (zAa (zA5 rfl rfl (zAd (zAb (g4 _ _ (zAe (fun K6 g5 => (zAe (fun K8 g6 => (zAa (zA5 rfl rfl ?_)))))))))))))))))))
  refine zAd (zAb (g6 _ _ (zAw ?_)))
  refine zBs [3,4,5,6,7,8,9,10,11,12] [3,4] (fun k vs w => ∃ (i : Nat), vs = [.int .i64 (allN i), .int .i64 i] ∧ i ≤ n ∧ k = n - i ∧ St w0 w F) (n) ?_ ?_
  ·
   exact ⟨0, rfl, by omega, by omega, hs⟩
  intro k vs μ gc hI gd g7
  obtain ⟨i, rfl, hia, rfl, hs⟩ := hI
  have hai := allN_in i (by omega)
  refine zAe (fun gf g8 => (zAe (fun gg g9 => (zAa (zAz rfl rfl (zAz rfl rfl (w_p (zBw rfl rfl rfl rfl) rfl (zAd (zAb (g9 _ _ (zAu rfl rfl (fun g0 => ?_) (fun g0 => ?_))))))))))))
  ·
   try simp only [zS] at g0
   refine zAs (zAb (g8 _ _ (zAe (fun gh ga => (zAw ?_)))))
   refine zAa (zAz rfl rfl (w_p (y_mul rfl rfl rfl rfl (by omega) (by omega)) rfl (w_p (zBg rfl rfl rfl rfl (by omega) (by omega)) rfl (zBe rfl rfl (zAd (zAl (zAb (ga _ _ (zAa (zAz rfl rfl ?_))))))))))
   refine w_p (zBg rfl rfl rfl rfl (by omega) (by omega)) rfl (zBe rfl rfl (zAd (zAb (g7 _ _ (nxI (n - (i + 1)) (by omega) ?_)))))
   exact ⟨i + 1, iv2 (by rw [allN_succ]) rfl, by omega, rfl, hs⟩
  try simp only [zS] at g0
  refine zBl (zAm (zAm (zA0 (zAb (g5 _ _ (zAe (fun gi gb => (zAa (zAz rfl rfl (zBe rfl rfl (zAd (zAb (gb _ _ (zAy (zA1 (l := [.tmp 2]) (vs := [_]) rfl ⟨⟨rfl, (rfl : _ = Value.int _ _)⟩, trivial⟩ ?_)))))))))))))))
  have hin : i = n := by omega
  subst hin
  exact ⟨rfl, hs⟩

theorem c4 {w0 w : World} {F : List (Nat × Obj)} (l : Lot) (p : At3) (hm : LIn w0 F l p)  (hs : St w0 w F) :
  Con Tryz.prog 4 [.agg (l.cells p).toArray] w fun v w' => v = .tuple #[.int .i64 (check l).1, .int .i64 (check l).2.1, .int .i64 (check l).2.2] ∧ St w0 w' F := by
  refine zAt (n := 103) func4 rfl rfl (zNl rfl) ?_
  obtain ⟨ag, cg, ab, cb, ac, cc⟩ := p
  have hlg := hm.lg
  have hlb := hm.lb
  have hlc := hm.lc
  refine zAe (fun K2 gx => (zAa (zCa (v := .agg #[.slice _ _ _, .slice _ _ _, .slice _ _ _]) (cs := [_,_,_]) zAc rfl rfl rfl hs (fun b3 w4 gq => ?_))))
  refine zA5 rfl rfl (zA5 rfl rfl (zA5 rfl rfl (zAd (zAb (gx _ _ (zAe (fun K7 gy => (zAe (fun K9 gz => (zAa (w_p (zAf (o := 0) (i := 0) underlying26 rfl sizeOf22 rfl rfl rfl) rfl ?_)))))))))))
  refine w_p (zAj isAgg22 gq rfl rfl (zAk (i := 0) (vs := [_]) rfl rfl)) rfl (w_p (zA8 underlying22 rfl rfl) rfl (zAr zAc call14 rfl rfl rfl rfl (c14 _ _ _ gq) ?_))
  rintro _ je ⟨rfl, g4⟩
  refine w_p (zDz rfl rfl) rfl (zAd (zAb (gz _ _ (zAu rfl rfl (fun g9 => ?_) (fun g9 => ?_)))))
  ·
   try simp only [zS] at g9
   refine zAe (fun jf gA => (zAa (zA5 rfl rfl (zA5 rfl rfl (zA5 rfl rfl (zAd (zAb (gA _ _ (zAy (zAg (zA1 (l := [.tmp 2, .tmp 3, .tmp 4]) (vs := [_,_,_]) rfl ⟨⟨rfl, (rfl : _ = Value.int _ _)⟩, ⟨rfl, (rfl : _ = Value.int _ _)⟩, ⟨rfl, (rfl : _ = Value.int _ _)⟩, trivial⟩ ?_)))))))))))
   first
     | contradiction
     | exact ⟨tup3 (zIt (by assumption)), g4.tail⟩
     | (refine ⟨tup3 (zGr (by assumption) (hinv.trans ((zAn hi2 ?_).trans ?_)) ?_), g4.tail⟩
        · rw [zCy (by assumption)]; assumption
        · rw [zCy (by assumption)]
        · assumption)
     | (refine ⟨tup3 (zGr (by assumption) (hinv.trans ((zAn hi2 ?_).trans ?_)) ?_), g4.tail⟩
        · rw [zB8 (by assumption)]; assumption
        · rw [zB8 (by assumption)]
        · assumption)
     | exact ⟨tup3 (zIv (by assumption) hge (by assumption)), g4.tail⟩
     | exact ⟨tup3 (chk_b (by assumption) hge (by assumption) (hinv.trans (zAn hi2 (by assumption))) (by assumption)), g4.tail⟩
     | exact ⟨tup3 (zIu (by assumption) hge (by assumption) hbe (by assumption)), g4.tail⟩
     | (have hce := zGm (bf := l.counts.take i) (by assumption : ¬ (1 ≤ l.counts[i].bits ∧ l.counts[i].bits ≤ allN l.bunches.length))
        exact ⟨tup3 (zGs (x := ((i : Int), 4)) (by assumption) hge (by assumption) hbe (by assumption) (hinv.trans ((zAn hi2 (by rw [hce]; decide)).trans (by rw [hce]))) (by show ¬ (4 : Int) = 0; decide)), g4.tail⟩)
     | (have hce := zGl (bf := l.counts.take i) (by assumption : 1 ≤ l.counts[i].bits ∧ l.counts[i].bits ≤ allN l.bunches.length) (by assumption)
        exact ⟨tup3 (zGs (x := ((i : Int), 7)) (by assumption) hge (by assumption) hbe (by assumption) (hinv.trans ((zAn hi2 (by rw [hce]; decide)).trans (by rw [hce]))) (by show ¬ (7 : Int) = 0; decide)), g4.tail⟩)
     | exact ⟨tup3 (zIs (by assumption) hge (by assumption) hbe (by assumption) (hinv.trans (zBh (by omega) _))), g4.tail⟩
  try simp only [zS] at g9
  refine zAs (zAb (gy _ _ (zAe (fun jg gB => (zAa (zA5 rfl rfl (zAd (zAb (gB _ _ (zAe (fun jh gC => (zAe (fun ji gE => (zAa (zA5 rfl rfl ?_)))))))))))))))
  refine zAd (zAb (gE _ _ (zAw ?_)))
  refine zBs [2,3,4,5,6,7,16,17,18,19,20,21,22,23,24,25,26,27,28,29,30,31,32,33,34,35,36,37,38,39,40,41,42,43,44,45,46,47,48] [5,6] (fun k vs w => ∃ (i : Nat) (v : Value) (B : List (Nat × Obj)), vs = [v, .int .i64 i] ∧ i ≤ l.grades.length ∧ k = l.grades.length - i ∧ firstE gradeE [] 0 l.grades = firstE gradeE (l.grades.take i) i (l.grades.drop i) ∧ Rt.Own v 9 1 i (((l.grades.take i).map (·.name)).map Value.string) B ∧ St w0 w ((b3, blk 26 (l.cells ⟨ag, cg, ab, cb, ac, cc⟩)) :: (B ++ F))) (l.grades.length) ?_ ?_
  ·
   exact ⟨0, _, [], rfl, by omega, by omega, rfl, zEm 9 1, g4⟩
  intro k vs μ jj hI jk gr
  obtain ⟨i, v, B, rfl, hia, rfl, hinv, hown, hs⟩ := hI
  refine zAe (fun jl gF => (zAe (fun jm gG => (zAa (zAz rfl rfl (w_p (zAf (o := 0) (i := 0) underlying26 rfl sizeOf22 rfl rfl rfl) rfl (w_p (zAj isAgg22 hs rfl rfl (zAk (i := 0) (vs := [_]) rfl rfl)) rfl ?_)))))))
  refine w_p (zA8 underlying22 rfl rfl) rfl (w_p (zBw rfl rfl rfl rfl) rfl (zAd (zAb (gG _ _ (zAu rfl rfl (fun ga => ?_) (fun ga => ?_))))))
  ·
   try simp only [zS] at ga
   refine zAs (zAb (gF _ _ (zAe (fun jn gt => (zAw ?_)))))
   refine zAe (fun jo gH => ?_)
   have hi2 : i < l.grades.length := by omega
   have hn2 := names_lenG hia
   obtain ⟨bx, ox, rfl, hx⟩ := zEk hm.g hi2
   obtain ⟨an, cn, rfl, hsn⟩ := zEf (w0 := w0) hown hn2 F
   have hnl : ((l.grades.take i).map (·.name)).length ≤ 1000000 := by omega
   refine zAa (w_p (zAf (o := 0) (i := 0) underlying26 rfl sizeOf22 rfl rfl rfl) rfl (w_p (zAj isAgg22 hs rfl rfl (zAk (i := 0) (vs := [_]) rfl rfl)) rfl (zAz rfl rfl (w_p (zA3 underlying22 sizeOf61 rfl rfl rfl rfl (i := _) rfl (by omega)) rfl ?_))))
   refine w_p (zAf (o := 0) (i := 0) underlying61 rfl sizeOf9 rfl rfl rfl) rfl (w_p (zAj isAgg9 hs.tail.drop rfl rfl (show Ats _ _ _ _ [_] from Ats.part hx 0 1)) rfl (w_p (zAi (v := .slice _ _ _) rfl rfl) rfl (zAr zAc call15 rfl rfl rfl rfl ((c15 _ _ _ _ (hm.ng _ (List.getElem_mem hi2)) (by omega) hsn.cons hs).mono (fun v w2 h => (show v = .int .i64 (freshE l.grades[i].name ((l.grades.take i).map (·.name))) ∧ _ from h))) ?_)))
   rintro _ jp ⟨rfl, gb⟩
   refine zBe rfl rfl (zAd (zAb (gH _ _ (zAe (fun jq gI => (zAa (w_p (zAi (v := .slice _ _ _) rfl rfl) rfl (w_p (zAf (o := 0) (i := 0) underlying26 rfl sizeOf22 rfl rfl rfl) rfl ?_))))))))
   refine w_p (zAj isAgg22 gb rfl rfl (zAk (i := 0) (vs := [_]) rfl rfl)) rfl (zAz rfl rfl (w_p (zA3 underlying22 sizeOf61 rfl rfl rfl rfl (i := _) rfl (by omega)) rfl (w_p (zAf (o := 0) (i := 0) underlying61 rfl sizeOf9 rfl rfl rfl) rfl ?_)))
   refine w_p (zAj isAgg9 gb.tail.drop rfl rfl (show Ats _ _ _ _ [_] from Ats.part hx 0 1)) rfl (zBb (ps := [(0, _)]) (pv := [(0, .string _)]) (cs := [_]) zAc rfl rfl (fun w => Try_HR_fb2 _ w) gb (fun jr js gJ => ?_))
   refine zCk (X := (_ :: _ :: [])) (B := B) (rows := [[_]]) (sz := 1) (bytes := 16) zAc underlying58 zF6 rfl rfl rfl rfl rfl rfl rfl rfl rfl gJ hown (zBt (i := 0) rfl (by simp) rfl) rfl (by simp) (by simp [Value.oneCell']) (by simp only [maxLen]; omega) (by omega) (fun gK jt gL gu g0 => ?_)
   replace g0 := (show St _ _ (_ :: _ :: gL ++ (F)) from g0)
   refine w_p (zAo (v := gK) rfl rfl) rfl (zAd (zAb (gI _ _ (zAe (fun ju gv => (zAe (fun jv gM => (zAa (zAz rfl rfl (w_p (zB6 rfl rfl rfl rfl) rfl ?_))))))))))
   refine zAd (zAb (gM _ _ (zAu rfl rfl (fun gc => ?_) (fun gc => ?_))))
   ·
    try simp only [zS] at gc
    refine zAa (w_p (zA4 (vs := [_,_,_]) isAgg26 sizeOf26 g0 rfl rfl (zAk (i := 1) (vs := [_,_,_]) rfl rfl)) rfl (zAz rfl rfl (zAr zAc call16 rfl rfl rfl rfl (c16 l ⟨_, _,_,_,_, _⟩ hm.app.cons.cons i hi2 g0) ?_)))
    rintro _ jw ⟨rfl, g5⟩
    refine zBe rfl rfl (zAd (zAb (gv _ _ (zAe (fun jx gN => (zAa (zAz rfl rfl (w_p (zB2 rfl rfl rfl rfl) rfl (zAd (zAb (gN _ _ (zAu rfl rfl (fun gd => ?_) (fun gd => ?_)))))))))))))
    ·
     try simp only [zS] at gd
     refine zAe (fun jy gP => (zAa (zAz rfl rfl (zAz rfl rfl (zA5 rfl rfl (zBe rfl rfl (zBe rfl rfl (zAd (zAb (gP _ _ (zAy (zAv (zAg (zAg (zAv (zAg (zA1 (l := [.tmp 2, .tmp 3, .tmp 4]) (vs := [_,_,_]) rfl ⟨⟨rfl, (rfl : _ = Value.int _ _)⟩, ⟨rfl, (rfl : _ = Value.int _ _)⟩, ⟨rfl, (rfl : _ = Value.int _ _)⟩, trivial⟩ ?_)))))))))))))))))
     first
       | contradiction
       | exact ⟨tup3 (zIt (by assumption)), g5.tail.tail.drop⟩
       | (refine ⟨tup3 (zGr (by assumption) (hinv.trans ((zAn hi2 ?_).trans ?_)) ?_), g5.tail.tail.drop⟩
          · rw [zCy (by assumption)]; assumption
          · rw [zCy (by assumption)]
          · assumption)
       | (refine ⟨tup3 (zGr (by assumption) (hinv.trans ((zAn hi2 ?_).trans ?_)) ?_), g5.tail.tail.drop⟩
          · rw [zB8 (by assumption)]; assumption
          · rw [zB8 (by assumption)]
          · assumption)
       | exact ⟨tup3 (zIv (by assumption) hge (by assumption)), g5.tail.tail.drop⟩
       | exact ⟨tup3 (chk_b (by assumption) hge (by assumption) (hinv.trans (zAn hi2 (by assumption))) (by assumption)), g5.tail.tail.drop⟩
       | exact ⟨tup3 (zIu (by assumption) hge (by assumption) hbe (by assumption)), g5.tail.tail.drop⟩
       | (have hce := zGm (bf := l.counts.take i) (by assumption : ¬ (1 ≤ l.counts[i].bits ∧ l.counts[i].bits ≤ allN l.bunches.length))
          exact ⟨tup3 (zGs (x := ((i : Int), 4)) (by assumption) hge (by assumption) hbe (by assumption) (hinv.trans ((zAn hi2 (by rw [hce]; decide)).trans (by rw [hce]))) (by show ¬ (4 : Int) = 0; decide)), g5.tail.tail.drop⟩)
       | (have hce := zGl (bf := l.counts.take i) (by assumption : 1 ≤ l.counts[i].bits ∧ l.counts[i].bits ≤ allN l.bunches.length) (by assumption)
          exact ⟨tup3 (zGs (x := ((i : Int), 7)) (by assumption) hge (by assumption) hbe (by assumption) (hinv.trans ((zAn hi2 (by rw [hce]; decide)).trans (by rw [hce]))) (by show ¬ (7 : Int) = 0; decide)), g5.tail.tail.drop⟩)
       | exact ⟨tup3 (zIs (by assumption) hge (by assumption) hbe (by assumption) (hinv.trans (zBh (by omega) _))), g5.tail.tail.drop⟩
    try simp only [zS] at gd
    refine zAs (zAl (zAb (gt _ _ (zAa (zAz rfl rfl (w_p (zBg rfl rfl rfl rfl (by omega) (by omega)) rfl (zBe rfl rfl (zAd (zAb (gr _ _ (nxI (l.grades.length - (i + 1)) (by omega) ?_)))))))))))
    first
      | contradiction
      | exact ⟨i + 1, _,_, rfl, by omega, rfl, hinv.trans (zCe hi2 (by rw [zB8 (by assumption)]; assumption)), by rw [← names_snocG hi2]; exact gu, g5.tail⟩
   try simp only [zS] at gc
   refine zAs (zAb (gv _ _ (zAe (fun jz gQ => (zAa (zAz rfl rfl (w_p (zB2 rfl rfl rfl rfl) rfl (zAd (zAb (gQ _ _ (zAu rfl rfl (fun gf => ?_) (fun gf => ?_))))))))))))
   ·
    try simp only [zS] at gf
    refine zAe (fun jA gR => (zAa (zAz rfl rfl (zAz rfl rfl (zA5 rfl rfl (zBe rfl rfl (zBe rfl rfl (zAd (zAb (gR _ _ (zAy (zAv (zAg (zAg (zAv (zAg (zA1 (l := [.tmp 2, .tmp 3, .tmp 4]) (vs := [_,_,_]) rfl ⟨⟨rfl, (rfl : _ = Value.int _ _)⟩, ⟨rfl, (rfl : _ = Value.int _ _)⟩, ⟨rfl, (rfl : _ = Value.int _ _)⟩, trivial⟩ ?_)))))))))))))))))
    first
      | contradiction
      | exact ⟨tup3 (zIt (by assumption)), g0.tail.tail.drop⟩
      | (refine ⟨tup3 (zGr (by assumption) (hinv.trans ((zAn hi2 ?_).trans ?_)) ?_), g0.tail.tail.drop⟩
         · rw [zCy (by assumption)]; assumption
         · rw [zCy (by assumption)]
         · assumption)
      | (refine ⟨tup3 (zGr (by assumption) (hinv.trans ((zAn hi2 ?_).trans ?_)) ?_), g0.tail.tail.drop⟩
         · rw [zB8 (by assumption)]; assumption
         · rw [zB8 (by assumption)]
         · assumption)
      | exact ⟨tup3 (zIv (by assumption) hge (by assumption)), g0.tail.tail.drop⟩
      | exact ⟨tup3 (chk_b (by assumption) hge (by assumption) (hinv.trans (zAn hi2 (by assumption))) (by assumption)), g0.tail.tail.drop⟩
      | exact ⟨tup3 (zIu (by assumption) hge (by assumption) hbe (by assumption)), g0.tail.tail.drop⟩
      | (have hce := zGm (bf := l.counts.take i) (by assumption : ¬ (1 ≤ l.counts[i].bits ∧ l.counts[i].bits ≤ allN l.bunches.length))
         exact ⟨tup3 (zGs (x := ((i : Int), 4)) (by assumption) hge (by assumption) hbe (by assumption) (hinv.trans ((zAn hi2 (by rw [hce]; decide)).trans (by rw [hce]))) (by show ¬ (4 : Int) = 0; decide)), g0.tail.tail.drop⟩)
      | (have hce := zGl (bf := l.counts.take i) (by assumption : 1 ≤ l.counts[i].bits ∧ l.counts[i].bits ≤ allN l.bunches.length) (by assumption)
         exact ⟨tup3 (zGs (x := ((i : Int), 7)) (by assumption) hge (by assumption) hbe (by assumption) (hinv.trans ((zAn hi2 (by rw [hce]; decide)).trans (by rw [hce]))) (by show ¬ (7 : Int) = 0; decide)), g0.tail.tail.drop⟩)
      | exact ⟨tup3 (zIs (by assumption) hge (by assumption) hbe (by assumption) (hinv.trans (zBh (by omega) _))), g0.tail.tail.drop⟩
   try simp only [zS] at gf
   refine zAs (zAl (zAb (gt _ _ (zAa (zAz rfl rfl (w_p (zBg rfl rfl rfl rfl (by omega) (by omega)) rfl (zBe rfl rfl (zAd (zAb (gr _ _ (nxI (l.grades.length - (i + 1)) (by omega) ?_)))))))))))
   first
     | contradiction
     | exact ⟨i + 1, _,_, rfl, by omega, rfl, hinv.trans (zCe hi2 (by rw [zB8 (by assumption)]; assumption)), by rw [← names_snocG hi2]; exact gu, g0.tail⟩
  try simp only [zS] at ga
  refine zBl (zAm (zAm (zA0 (zAb (gC _ _ (zAe (fun jB gS => (zAe (fun jC gU => ?_)))))))))
  have hge : firstE gradeE [] 0 l.grades = (0,0) := hinv.trans (zBh (by omega) _)
  clear hinv hown
  refine zAa (w_p (zAf (o := 1) (i := 1) underlying26 rfl sizeOf23 rfl rfl rfl) rfl (w_p (zAj isAgg23 hs rfl rfl (zAk (i := 0) (vs := [_]) rfl rfl)) rfl (w_p (zA8 underlying23 rfl rfl) rfl (w_p (zD5 rfl rfl rfl rfl) rfl ?_))))
  refine zAd (zAb (gU _ _ (zAu rfl rfl (fun gg => ?_) (fun gg => ?_))))
  ·
   try simp only [zS] at gg
   refine zAe (fun jD gV => (zAa (zA5 rfl rfl (zA5 rfl rfl (zA5 rfl rfl (zAd (zAb (gV _ _ (zAy (zAg (zA1 (l := [.tmp 2, .tmp 3, .tmp 4]) (vs := [_,_,_]) rfl ⟨⟨rfl, (rfl : _ = Value.int _ _)⟩, ⟨rfl, (rfl : _ = Value.int _ _)⟩, ⟨rfl, (rfl : _ = Value.int _ _)⟩, trivial⟩ ?_)))))))))))
   first
     | contradiction
     | exact ⟨tup3 (zIt (by assumption)), hs.tail.drop⟩
     | (refine ⟨tup3 (zGr (by assumption) (hinv.trans ((zAn hi2 ?_).trans ?_)) ?_), hs.tail.drop⟩
        · rw [zCy (by assumption)]; assumption
        · rw [zCy (by assumption)]
        · assumption)
     | (refine ⟨tup3 (zGr (by assumption) (hinv.trans ((zAn hi2 ?_).trans ?_)) ?_), hs.tail.drop⟩
        · rw [zB8 (by assumption)]; assumption
        · rw [zB8 (by assumption)]
        · assumption)
     | exact ⟨tup3 (zIv (by assumption) hge (by assumption)), hs.tail.drop⟩
     | exact ⟨tup3 (chk_b (by assumption) hge (by assumption) (hinv.trans (zAn hi2 (by assumption))) (by assumption)), hs.tail.drop⟩
     | exact ⟨tup3 (zIu (by assumption) hge (by assumption) hbe (by assumption)), hs.tail.drop⟩
     | (have hce := zGm (bf := l.counts.take i) (by assumption : ¬ (1 ≤ l.counts[i].bits ∧ l.counts[i].bits ≤ allN l.bunches.length))
        exact ⟨tup3 (zGs (x := ((i : Int), 4)) (by assumption) hge (by assumption) hbe (by assumption) (hinv.trans ((zAn hi2 (by rw [hce]; decide)).trans (by rw [hce]))) (by show ¬ (4 : Int) = 0; decide)), hs.tail.drop⟩)
     | (have hce := zGl (bf := l.counts.take i) (by assumption : 1 ≤ l.counts[i].bits ∧ l.counts[i].bits ≤ allN l.bunches.length) (by assumption)
        exact ⟨tup3 (zGs (x := ((i : Int), 7)) (by assumption) hge (by assumption) hbe (by assumption) (hinv.trans ((zAn hi2 (by rw [hce]; decide)).trans (by rw [hce]))) (by show ¬ (7 : Int) = 0; decide)), hs.tail.drop⟩)
     | exact ⟨tup3 (zIs (by assumption) hge (by assumption) hbe (by assumption) (hinv.trans (zBh (by omega) _))), hs.tail.drop⟩
  try simp only [zS] at gg
  refine zAs (zAb (gS _ _ (zAe (fun jE gW => (zAe (fun jF gX => (zAa (zA5 rfl rfl (zAd (zAb (gX _ _ (zAw ?_))))))))))))
  refine zBs [2,3,4,8,9,53,54,55,56,57,58,59,60,61,62,63,64,65,66,67,68,69] [8] (fun k vs w => ∃ (i : Nat), vs = [.int .i64 i] ∧ i ≤ l.bunches.length ∧ k = l.bunches.length - i ∧ firstE bunchE [] 0 l.bunches = firstE bunchE (l.bunches.take i) i (l.bunches.drop i) ∧ St w0 w ((b3, blk 26 (l.cells ⟨ag, cg, ab, cb, ac, cc⟩)) :: F)) (l.bunches.length) ?_ ?_
  ·
   exact ⟨0, rfl, by omega, by omega, rfl, (kp_opq hs)⟩
  intro k vs μ jG hI jH gY
  clear hia
  obtain ⟨i, rfl, hia, rfl, hinv, hs⟩ := hI
  refine zAe (fun jI gZ => (zAe (fun jJ hD => (zAa (zAz rfl rfl (w_p (zAf (o := 1) (i := 1) underlying26 rfl sizeOf23 rfl rfl rfl) rfl (w_p (zAj isAgg23 hs rfl rfl (zAk (i := 0) (vs := [_]) rfl rfl)) rfl ?_)))))))
  refine w_p (zA8 underlying23 rfl rfl) rfl (w_p (zBw rfl rfl rfl rfl) rfl (zAd (zAb (hD _ _ (zAu rfl rfl (fun gh => ?_) (fun gh => ?_))))))
  ·
   try simp only [zS] at gh
   refine zAs (zAb (gZ _ _ (zAe (fun jK hG => (zAw ?_)))))
   refine zAe (fun jL hH => ?_)
   have hi2 : i < l.bunches.length := by omega
   obtain ⟨bx, ox, rfl, hx⟩ := zG7 hm.b hi2
   refine zAa (w_p (zAf (o := 1) (i := 1) underlying26 rfl sizeOf23 rfl rfl rfl) rfl (w_p (zAj isAgg23 hs rfl rfl (zAk (i := 0) (vs := [_]) rfl rfl)) rfl (zAz rfl rfl (w_p (zA3 underlying23 sizeOf65 rfl rfl rfl rfl (i := _) rfl (by omega)) rfl ?_))))
   refine w_p (zA4 (vs := [_,_,_,_]) isAgg65 sizeOf65 hs.tail rfl rfl hx) rfl (zAr zAc call17 rfl rfl rfl rfl (c17 l.bunches[i] (l.bunches.take i) hs) ?_)
   rintro _ jM ⟨rfl, g6⟩
   refine zBe rfl rfl (zAd (zAb (hH _ _ (zAe (fun jN hO => (zAa (zAz rfl rfl (w_p (zB2 rfl rfl rfl rfl) rfl (zAd (zAb (hO _ _ (zAu rfl rfl (fun gi => ?_) (fun gi => ?_)))))))))))))
   ·
    try simp only [zS] at gi
    refine zAe (fun jO hX => (zAa (zAz rfl rfl (zAz rfl rfl (zA5 rfl rfl (zBe rfl rfl (zBe rfl rfl (zAd (zAb (hX _ _ (zAy (zAv (zAg (zAg (zAv (zAg (zA1 (l := [.tmp 2, .tmp 3, .tmp 4]) (vs := [_,_,_]) rfl ⟨⟨rfl, (rfl : _ = Value.int _ _)⟩, ⟨rfl, (rfl : _ = Value.int _ _)⟩, ⟨rfl, (rfl : _ = Value.int _ _)⟩, trivial⟩ ?_)))))))))))))))))
    first
      | contradiction
      | exact ⟨tup3 (zIt (by assumption)), g6.tail⟩
      | (refine ⟨tup3 (zGr (by assumption) (hinv.trans ((zAn hi2 ?_).trans ?_)) ?_), g6.tail⟩
         · rw [zCy (by assumption)]; assumption
         · rw [zCy (by assumption)]
         · assumption)
      | (refine ⟨tup3 (zGr (by assumption) (hinv.trans ((zAn hi2 ?_).trans ?_)) ?_), g6.tail⟩
         · rw [zB8 (by assumption)]; assumption
         · rw [zB8 (by assumption)]
         · assumption)
      | exact ⟨tup3 (zIv (by assumption) hge (by assumption)), g6.tail⟩
      | exact ⟨tup3 (chk_b (by assumption) hge (by assumption) (hinv.trans (zAn hi2 (by assumption))) (by assumption)), g6.tail⟩
      | exact ⟨tup3 (zIu (by assumption) hge (by assumption) hbe (by assumption)), g6.tail⟩
      | (have hce := zGm (bf := l.counts.take i) (by assumption : ¬ (1 ≤ l.counts[i].bits ∧ l.counts[i].bits ≤ allN l.bunches.length))
         exact ⟨tup3 (zGs (x := ((i : Int), 4)) (by assumption) hge (by assumption) hbe (by assumption) (hinv.trans ((zAn hi2 (by rw [hce]; decide)).trans (by rw [hce]))) (by show ¬ (4 : Int) = 0; decide)), g6.tail⟩)
      | (have hce := zGl (bf := l.counts.take i) (by assumption : 1 ≤ l.counts[i].bits ∧ l.counts[i].bits ≤ allN l.bunches.length) (by assumption)
         exact ⟨tup3 (zGs (x := ((i : Int), 7)) (by assumption) hge (by assumption) hbe (by assumption) (hinv.trans ((zAn hi2 (by rw [hce]; decide)).trans (by rw [hce]))) (by show ¬ (7 : Int) = 0; decide)), g6.tail⟩)
      | exact ⟨tup3 (zIs (by assumption) hge (by assumption) hbe (by assumption) (hinv.trans (zBh (by omega) _))), g6.tail⟩
   try simp only [zS] at gi
   refine zAs (zAl (zAb (hG _ _ (zAa (zAz rfl rfl (w_p (zBg rfl rfl rfl rfl (by omega) (by omega)) rfl (zBe rfl rfl (zAd (zAb (gY _ _ (nxI (l.bunches.length - (i + 1)) (by omega) ?_)))))))))))
   exact ⟨i + 1, rfl, by omega, rfl, hinv.trans (zCe hi2 (by assumption)), g6⟩
  try simp only [zS] at gh
  refine zBl (zAm (zAm (zA0 (zAb (gW _ _ (zAe (fun jP hY => (zAe (fun jQ j0 => ?_)))))))))
  have hbe : firstE bunchE [] 0 l.bunches = (0,0) := hinv.trans (zBh (by omega) _)
  clear hinv
  refine zAa (w_p (zAf (o := 2) (i := 2) underlying26 rfl sizeOf24 rfl rfl rfl) rfl (w_p (zAj isAgg24 hs rfl rfl (zAk (i := 0) (vs := [_]) rfl rfl)) rfl (w_p (zA8 underlying24 rfl rfl) rfl (w_p (zD5 rfl rfl rfl rfl) rfl ?_))))
  refine zAd (zAb (j0 _ _ (zAu rfl rfl (fun gj => ?_) (fun gj => ?_))))
  ·
   try simp only [zS] at gj
   refine zAe (fun jR j1 => (zAa (zA5 rfl rfl (zA5 rfl rfl (zA5 rfl rfl (zAd (zAb (j1 _ _ (zAy (zAg (zA1 (l := [.tmp 2, .tmp 3, .tmp 4]) (vs := [_,_,_]) rfl ⟨⟨rfl, (rfl : _ = Value.int _ _)⟩, ⟨rfl, (rfl : _ = Value.int _ _)⟩, ⟨rfl, (rfl : _ = Value.int _ _)⟩, trivial⟩ ?_)))))))))))
   first
     | contradiction
     | exact ⟨tup3 (zIt (by assumption)), hs.tail⟩
     | (refine ⟨tup3 (zGr (by assumption) (hinv.trans ((zAn hi2 ?_).trans ?_)) ?_), hs.tail⟩
        · rw [zCy (by assumption)]; assumption
        · rw [zCy (by assumption)]
        · assumption)
     | (refine ⟨tup3 (zGr (by assumption) (hinv.trans ((zAn hi2 ?_).trans ?_)) ?_), hs.tail⟩
        · rw [zB8 (by assumption)]; assumption
        · rw [zB8 (by assumption)]
        · assumption)
     | exact ⟨tup3 (zIv (by assumption) hge (by assumption)), hs.tail⟩
     | exact ⟨tup3 (chk_b (by assumption) hge (by assumption) (hinv.trans (zAn hi2 (by assumption))) (by assumption)), hs.tail⟩
     | exact ⟨tup3 (zIu (by assumption) hge (by assumption) hbe (by assumption)), hs.tail⟩
     | (have hce := zGm (bf := l.counts.take i) (by assumption : ¬ (1 ≤ l.counts[i].bits ∧ l.counts[i].bits ≤ allN l.bunches.length))
        exact ⟨tup3 (zGs (x := ((i : Int), 4)) (by assumption) hge (by assumption) hbe (by assumption) (hinv.trans ((zAn hi2 (by rw [hce]; decide)).trans (by rw [hce]))) (by show ¬ (4 : Int) = 0; decide)), hs.tail⟩)
     | (have hce := zGl (bf := l.counts.take i) (by assumption : 1 ≤ l.counts[i].bits ∧ l.counts[i].bits ≤ allN l.bunches.length) (by assumption)
        exact ⟨tup3 (zGs (x := ((i : Int), 7)) (by assumption) hge (by assumption) hbe (by assumption) (hinv.trans ((zAn hi2 (by rw [hce]; decide)).trans (by rw [hce]))) (by show ¬ (7 : Int) = 0; decide)), hs.tail⟩)
     | exact ⟨tup3 (zIs (by assumption) hge (by assumption) hbe (by assumption) (hinv.trans (zBh (by omega) _))), hs.tail⟩
  try simp only [zS] at gj
  refine zAs (zAb (hY _ _ (zAe (fun jS j2 => (zAe (fun jT j3 => (zAa (zA5 rfl rfl (zAd (zAb (j3 _ _ (zAw ?_))))))))))))
  refine zBs [2,3,4,10,74,75,76,77,78,79,80,81,82,83,84,85,86,87,88,89,90,91,92,93,94,95,96,97,98,99,100,101,102] [10] (fun k vs w => ∃ (i : Nat), vs = [.int .i64 i] ∧ i ≤ l.counts.length ∧ k = l.counts.length - i ∧ firstE (countE l.bunches.length) [] 0 l.counts = firstE (countE l.bunches.length) (l.counts.take i) i (l.counts.drop i) ∧ St w0 w ((b3, blk 26 (l.cells ⟨ag, cg, ab, cb, ac, cc⟩)) :: F)) (l.counts.length) ?_ ?_
  ·
   exact ⟨0, rfl, by omega, by omega, rfl, hs⟩
  intro k vs μ jU hI jV j4
  clear hia
  obtain ⟨i, rfl, hia, rfl, hinv, hs⟩ := hI
  refine zAe (fun jW j5 => (zAe (fun jX j6 => (zAa (zAz rfl rfl (w_p (zAf (o := 2) (i := 2) underlying26 rfl sizeOf24 rfl rfl rfl) rfl (w_p (zAj isAgg24 hs rfl rfl (zAk (i := 0) (vs := [_]) rfl rfl)) rfl ?_)))))))
  refine w_p (zA8 underlying24 rfl rfl) rfl (w_p (zBw rfl rfl rfl rfl) rfl (zAd (zAb (j6 _ _ (zAu rfl rfl (fun gk => ?_) (fun gk => ?_))))))
  ·
   try simp only [zS] at gk
   refine zAs (zAb (j5 _ _ (zAe (fun jY j7 => (zAw ?_)))))
   refine zAe (fun jZ j8 => (zAe (fun k4 j9 => ?_)))
   have hi2 : i < l.counts.length := by omega
   obtain ⟨bx, ox, rfl, hx⟩ := zKh hm.c hi2
   refine zCn [] [(0,0),(1,1),(2,0),(3,0),(4,0),(5,1),(6,0),(7,1),(8,0),(9,2),(10,2),(11,0)] zCb (by kernel_rfl) hs (fun k5 g8 => ?_)
   refine d_w rfl (fun _ => zAf (o := 2) (i := 2) underlying26 rfl sizeOf24 rfl rfl rfl) rfl ?_
   refine zBd rfl zAc rfl g8 (fun _ hq => (zAj isAgg24 hq rfl rfl (zAk (i := 0) (vs := [_]) rfl rfl))) ?_
   refine d_w rfl (fun _ => zA2 rfl rfl) rfl ?_
   refine d_w rfl (fun _ => zA3 underlying24 sizeOf67 rfl rfl rfl rfl (i := _) rfl (by omega)) rfl ?_
   refine d_w rfl (fun _ => zAf (o := 0) (i := 0) underlying67 rfl sizeOf3 rfl rfl rfl) rfl ?_
   refine zBd rfl zAc rfl g8 (fun _ hq => (zAj isAgg3 hq.tail rfl rfl (show Ats _ _ _ _ [_] from Ats.part hx 0 1))) ?_
   refine d_w rfl (fun _ => zAf (o := 1) (i := 1) underlying26 rfl sizeOf23 rfl rfl rfl) rfl ?_
   refine zBd rfl zAc rfl g8 (fun _ hq => (zAj isAgg23 hq rfl rfl (zAk (i := 0) (vs := [_]) rfl rfl))) ?_
   refine d_w rfl (fun _ => zA8 underlying23 rfl rfl) rfl ?_
   refine zCq rfl ?_
   refine zAr zAc call18 rfl rfl rfl rfl (c18 _ (by omega) g8) ?_
   rintro _ k6 ⟨rfl, gw⟩
   refine zAd (qn ⟨gw, ?_⟩)
   refine zCq rfl ?_
   refine zAr zAc call14 rfl rfl rfl rfl (c14 _ _ _ gw) ?_
   rintro _ k7 ⟨rfl, g3⟩
   refine zAd (qn ⟨g3, ?_⟩)
   refine d_w rfl (fun _ => zDz rfl rfl) rfl ?_
   refine zCf ?_
   refine zAb (j9 _ _ (zAu rfl rfl (fun gm => ?_) (fun gm => ?_)))
   ·
    try simp only [zS] at gm
    refine zAe (fun k8 ja => (zAa (zAz rfl rfl (zA5 rfl rfl (zBe rfl rfl (zA5 rfl rfl (zAd (zAb (ja _ _ (zAy (zAg (zAv (zAg (zAg (zAv (zAg (zA1 (l := [.tmp 2, .tmp 3, .tmp 4]) (vs := [_,_,_]) rfl ⟨⟨rfl, (rfl : _ = Value.int _ _)⟩, ⟨rfl, (rfl : _ = Value.int _ _)⟩, ⟨rfl, (rfl : _ = Value.int _ _)⟩, trivial⟩ ?_)))))))))))))))))
    first
      | contradiction
      | exact ⟨tup3 (zIt (by assumption)), g3.tail⟩
      | (refine ⟨tup3 (zGr (by assumption) (hinv.trans ((zAn hi2 ?_).trans ?_)) ?_), g3.tail⟩
         · rw [zCy (by assumption)]; assumption
         · rw [zCy (by assumption)]
         · assumption)
      | (refine ⟨tup3 (zGr (by assumption) (hinv.trans ((zAn hi2 ?_).trans ?_)) ?_), g3.tail⟩
         · rw [zB8 (by assumption)]; assumption
         · rw [zB8 (by assumption)]
         · assumption)
      | exact ⟨tup3 (zIv (by assumption) hge (by assumption)), g3.tail⟩
      | exact ⟨tup3 (chk_b (by assumption) hge (by assumption) (hinv.trans (zAn hi2 (by assumption))) (by assumption)), g3.tail⟩
      | exact ⟨tup3 (zIu (by assumption) hge (by assumption) hbe (by assumption)), g3.tail⟩
      | (have hce := zGm (bf := l.counts.take i) (by assumption : ¬ (1 ≤ l.counts[i].bits ∧ l.counts[i].bits ≤ allN l.bunches.length))
         exact ⟨tup3 (zGs (x := ((i : Int), 4)) (by assumption) hge (by assumption) hbe (by assumption) (hinv.trans ((zAn hi2 (by rw [hce]; decide)).trans (by rw [hce]))) (by show ¬ (4 : Int) = 0; decide)), g3.tail⟩)
      | (have hce := zGl (bf := l.counts.take i) (by assumption : 1 ≤ l.counts[i].bits ∧ l.counts[i].bits ≤ allN l.bunches.length) (by assumption)
         exact ⟨tup3 (zGs (x := ((i : Int), 7)) (by assumption) hge (by assumption) hbe (by assumption) (hinv.trans ((zAn hi2 (by rw [hce]; decide)).trans (by rw [hce]))) (by show ¬ (7 : Int) = 0; decide)), g3.tail⟩)
      | exact ⟨tup3 (zIs (by assumption) hge (by assumption) hbe (by assumption) (hinv.trans (zBh (by omega) _))), g3.tail⟩
   try simp only [zS] at gm
   refine zAs (zAb (j8 _ _ (zAe (fun k9 jb => (zAa (w_p (zAf (o := 2) (i := 2) underlying26 rfl sizeOf24 rfl rfl rfl) rfl (w_p (zAj isAgg24 g3 rfl rfl (zAk (i := 0) (vs := [_]) rfl rfl)) rfl ?_)))))))
   refine zAz rfl rfl (w_p (zA3 underlying24 sizeOf67 rfl rfl rfl rfl (i := _) rfl (by omega)) rfl (w_p (zAf (o := 1) (i := 1) underlying67 rfl sizeOf3 rfl rfl rfl) rfl (w_p (zAj isAgg3 g3.tail rfl rfl (show Ats _ _ _ _ [_] from Ats.part hx 1 1)) rfl (zAr zAc call14 rfl rfl rfl rfl (c14 _ _ _ g3) ?_))))
   rintro _ ka ⟨rfl, g7⟩
   refine w_p (zDz rfl rfl) rfl (zAd (zAb (jb _ _ (zAu rfl rfl (fun gn => ?_) (fun gn => ?_)))))
   ·
    try simp only [zS] at gn
    refine zAe (fun kb jc => (zAa (zAz rfl rfl (zA5 rfl rfl (zBe rfl rfl (zA5 rfl rfl (zAd (zAb (jc _ _ (zAy (zAv (zAg (zAg (zAv (zAg (zA1 (l := [.tmp 2, .tmp 3, .tmp 4]) (vs := [_,_,_]) rfl ⟨⟨rfl, (rfl : _ = Value.int _ _)⟩, ⟨rfl, (rfl : _ = Value.int _ _)⟩, ⟨rfl, (rfl : _ = Value.int _ _)⟩, trivial⟩ ?_))))))))))))))))
    first
      | contradiction
      | exact ⟨tup3 (zIt (by assumption)), g7.tail⟩
      | (refine ⟨tup3 (zGr (by assumption) (hinv.trans ((zAn hi2 ?_).trans ?_)) ?_), g7.tail⟩
         · rw [zCy (by assumption)]; assumption
         · rw [zCy (by assumption)]
         · assumption)
      | (refine ⟨tup3 (zGr (by assumption) (hinv.trans ((zAn hi2 ?_).trans ?_)) ?_), g7.tail⟩
         · rw [zB8 (by assumption)]; assumption
         · rw [zB8 (by assumption)]
         · assumption)
      | exact ⟨tup3 (zIv (by assumption) hge (by assumption)), g7.tail⟩
      | exact ⟨tup3 (chk_b (by assumption) hge (by assumption) (hinv.trans (zAn hi2 (by assumption))) (by assumption)), g7.tail⟩
      | exact ⟨tup3 (zIu (by assumption) hge (by assumption) hbe (by assumption)), g7.tail⟩
      | (have hce := zGm (bf := l.counts.take i) (by assumption : ¬ (1 ≤ l.counts[i].bits ∧ l.counts[i].bits ≤ allN l.bunches.length))
         exact ⟨tup3 (zGs (x := ((i : Int), 4)) (by assumption) hge (by assumption) hbe (by assumption) (hinv.trans ((zAn hi2 (by rw [hce]; decide)).trans (by rw [hce]))) (by show ¬ (4 : Int) = 0; decide)), g7.tail⟩)
      | (have hce := zGl (bf := l.counts.take i) (by assumption : 1 ≤ l.counts[i].bits ∧ l.counts[i].bits ≤ allN l.bunches.length) (by assumption)
         exact ⟨tup3 (zGs (x := ((i : Int), 7)) (by assumption) hge (by assumption) hbe (by assumption) (hinv.trans ((zAn hi2 (by rw [hce]; decide)).trans (by rw [hce]))) (by show ¬ (7 : Int) = 0; decide)), g7.tail⟩)
      | exact ⟨tup3 (zIs (by assumption) hge (by assumption) hbe (by assumption) (hinv.trans (zBh (by omega) _))), g7.tail⟩
   try simp only [zS] at gn
   refine zAs (zAl (zAb (j7 _ _ (zAa (zAz rfl rfl (w_p (zBg rfl rfl rfl rfl (by omega) (by omega)) rfl (zBe rfl rfl (zAd (zAb (j4 _ _ (nxI (l.counts.length - (i + 1)) (by omega) ?_)))))))))))
   exact ⟨i + 1, rfl, by omega, rfl, hinv.trans (zCe hi2 (count_3 (by assumption) (by assumption))), g7⟩
  try simp only [zS] at gk
  refine zBl (zAm (zAm (zA0 (zAb (j2 _ _ (zAe (fun kc jd => (zAa (zA5 rfl rfl (zA5 rfl rfl (zA5 rfl rfl (zAd (zAb (jd _ _ (zAy (zA1 (l := [.tmp 2, .tmp 3, .tmp 4]) (vs := [_,_,_]) rfl ⟨⟨rfl, (rfl : _ = Value.int _ _)⟩, ⟨rfl, (rfl : _ = Value.int _ _)⟩, ⟨rfl, (rfl : _ = Value.int _ _)⟩, trivial⟩ ?_))))))))))))))))
  first
    | contradiction
    | exact ⟨tup3 (zIt (by assumption)), hs.tail⟩
    | (refine ⟨tup3 (zGr (by assumption) (hinv.trans ((zAn hi2 ?_).trans ?_)) ?_), hs.tail⟩
       · rw [zCy (by assumption)]; assumption
       · rw [zCy (by assumption)]
       · assumption)
    | (refine ⟨tup3 (zGr (by assumption) (hinv.trans ((zAn hi2 ?_).trans ?_)) ?_), hs.tail⟩
       · rw [zB8 (by assumption)]; assumption
       · rw [zB8 (by assumption)]
       · assumption)
    | exact ⟨tup3 (zIv (by assumption) hge (by assumption)), hs.tail⟩
    | exact ⟨tup3 (chk_b (by assumption) hge (by assumption) (hinv.trans (zAn hi2 (by assumption))) (by assumption)), hs.tail⟩
    | exact ⟨tup3 (zIu (by assumption) hge (by assumption) hbe (by assumption)), hs.tail⟩
    | (have hce := zGm (bf := l.counts.take i) (by assumption : ¬ (1 ≤ l.counts[i].bits ∧ l.counts[i].bits ≤ allN l.bunches.length))
       exact ⟨tup3 (zGs (x := ((i : Int), 4)) (by assumption) hge (by assumption) hbe (by assumption) (hinv.trans ((zAn hi2 (by rw [hce]; decide)).trans (by rw [hce]))) (by show ¬ (4 : Int) = 0; decide)), hs.tail⟩)
    | (have hce := zGl (bf := l.counts.take i) (by assumption : 1 ≤ l.counts[i].bits ∧ l.counts[i].bits ≤ allN l.bunches.length) (by assumption)
       exact ⟨tup3 (zGs (x := ((i : Int), 7)) (by assumption) hge (by assumption) hbe (by assumption) (hinv.trans ((zAn hi2 (by rw [hce]; decide)).trans (by rw [hce]))) (by show ¬ (7 : Int) = 0; decide)), hs.tail⟩)
    | exact ⟨tup3 (zIs (by assumption) hge (by assumption) hbe (by assumption) (hinv.trans (zBh (by omega) _))), hs.tail⟩

end Go.Proofs.Hn
/- Plain words of the hand layer: what the document's functions do, step by step. No conditions. -/
namespace Go.Rt.Ha
theorem of_step {gs : List Grade} {h s : Int} {i : Nat} (hi : i < gs.length) (hn : ¬ (gs[i].hands ≤ h ∧ s ≤ gs[i].scars)) : ofG (gs.drop i) i h s = ofG (gs.drop (i + 1)) (i + 1 : Nat) h s := by
  rw [List.drop_eq_getElem_cons hi]; simp only [ofG]; rw [if_neg hn]; rfl
theorem of_here {gs : List Grade} {h s : Int} {i : Nat} (hi : i < gs.length) (hn : gs[i].hands ≤ h ∧ s ≤ gs[i].scars) : ofG (gs.drop i) i h s = i := by
  rw [List.drop_eq_getElem_cons hi]; simp only [ofG]; rw [if_pos hn]
theorem of_end {gs : List Grade} {h s : Int} {i : Nat} (hi : gs.length ≤ i) : ofG (gs.drop i) i h s = -1 := by rw [List.drop_of_length_le hi]; rfl
theorem bit_dec (b n : Nat) : decide ((((b >>> n : Nat) : Int)) % 2 = 1) = decide (bit b n = 1) := by
  unfold bit
  rw [Nat.and_one_is_mod, Bool.eq_iff_iff]
  simp only [decide_eq_true_eq]; omega
theorem counted_yes {bits : Nat} {h : List Int} {i : Nat} (hi : i < h.length) (hb : bit bits i = 1) : counted bits 0 (h.take (i + 1)) = counted bits 0 (h.take i) + h[i] := by rw [zG0 hi, hb]; simp
theorem counted_no {bits : Nat} {h : List Int} {i : Nat} (hi : i < h.length) (hb : ¬ bit bits i = 1) : counted bits 0 (h.take (i + 1)) = counted bits 0 (h.take i) := by
  have := bit01 bits i
  rw [zG0 hi, show bit bits i = 0 by omega]; simp
theorem soR_snoc (but h : List Int) (c : Count) : ∀ (cs : List Count) (i : Nat), soR but h i (cs ++ [c]) = (soR but h i cs && (hasI but ((i + cs.length : Nat) : Int) || decide (counted c.bits.toNat 0 h = c.hands)))
  | [], i => by simp [soR]
  | x :: cs, i => by
    simp only [List.cons_append, soR, soR_snoc but h c cs (i + 1), List.length_cons, Bool.and_assoc]
    rw [show i + 1 + cs.length = i + (cs.length + 1) by omega]
theorem zE1 {but h : List Int} {cs : List Count} {k : Nat} (hk : k < cs.length) : soR but h 0 (cs.take (k + 1)) = (soR but h 0 (cs.take k) && (hasI but (k : Int) || decide (counted cs[k].bits.toNat 0 h = cs[k].hands))) := by
  rw [List.take_succ_eq_append_getElem hk, soR_snoc, Nat.zero_add, List.length_take, Nat.min_eq_left (by omega)]
theorem filt_yes {ws : List (List Int)} {p : List Int → Bool} {i : Nat} (hi : i < ws.length) (h : p ws[i] = true) : (ws.take (i + 1)).filter p = (ws.take i).filter p ++ [ws[i]] := by
  rw [List.take_succ_eq_append_getElem hi, List.filter_append]; simp [h]
theorem filt_no {ws : List (List Int)} {p : List Int → Bool} {i : Nat} (hi : i < ws.length) (h : p ws[i] = false) : (ws.take (i + 1)).filter p = (ws.take i).filter p := by
  rw [List.take_succ_eq_append_getElem hi, List.filter_append]; simp [h]
theorem listL_zero : ∀ n, listL 0 n = []
  | 0 => rfl
  | n + 1 => by rw [listL, listL_zero n]; simp [bit]
theorem waysR_nil (l : Lot) : waysR l [] = ways l 0 := by rw [← ways_same l 0, listL_zero]
def feltTo (l : Lot) (i : Nat) : List (List Int) := felt (l.bunches.take i)
def fNext (b : Bunch) (h : List Int) : List (List Int) := (spanL b.lo b.hi).map fun n => h ++ [n]
def fTo (b : Bunch) (ws : List (List Int)) (k : Nat) : List (List Int) := (ws.take k).flatMap (fNext b)
theorem felt_zero (l : Lot) : feltTo l 0 = [[]] := rfl
theorem felt_step {l : Lot} {i : Nat} (hi : i < l.bunches.length) : fTo l.bunches[i] (feltTo l i) (feltTo l i).length = feltTo l (i + 1) := by
  unfold fTo feltTo
  rw [List.take_length, List.take_succ_eq_append_getElem hi, felt_snoc]; rfl
theorem fTo_succ {b : Bunch} {ws : List (List Int)} {k : Nat} (hk : k < ws.length) : fTo b ws (k + 1) = fTo b ws k ++ fNext b ws[k] := by
  unfold fTo; rw [List.take_succ_eq_append_getElem hk, List.flatMap_append]; simp
def fPart (b : Bunch) (h : List Int) (q : Nat) : List (List Int) := (upto b.lo q).map fun n => h ++ [n]
theorem fPart_succ (b : Bunch) (h : List Int) (q : Nat) : fPart b h (q + 1) = fPart b h q ++ [h ++ [b.lo + q]] := by unfold fPart; rw [upto_snoc, List.map_append]; rfl
theorem fPart_all {b : Bunch} {h : List Int} {q : Nat} (hq : q = (b.hi + 1 - b.lo).toNat) : fPart b h q = fNext b h := by subst hq; rfl
theorem upto_len : ∀ (n : Nat) (lo : Int), (upto lo n).length = n
  | 0, _ => rfl
  | n + 1, lo => by simp [upto, upto_len n]
theorem fPart_len (b : Bunch) (h : List Int) (q : Nat) : (fPart b h q).length = q := by simp [fPart, upto_len]
theorem fTo_len {b : Bunch} {ws : List (List Int)} (hb : b.hi + 1 - b.lo ≤ 4) (k : Nat) : (fTo b ws k).length ≤ 4 * ws.length := by
  have h1 : (fTo b ws k).length ≤ (ws.take k).length * 4 := flat_le _ fun x _ => by unfold fNext spanL; rw [List.length_map, upto_len]; omega
  have h2 : (ws.take k).length ≤ ws.length := by rw [List.length_take]; omega
  have h3 : (ws.take k).length * 4 ≤ ws.length * 4 := Nat.mul_le_mul_right 4 h2
  omega
theorem zJo {l : Lot} (hok : l.Ok) {i : Nat} (hi : i ≤ l.bunches.length) : (feltTo l i).length ≤ 4096 := by
  have h1 := felt_len (bs := l.bunches.take i) (fun b hb => by have := hok.bunch b (List.mem_of_mem_take hb); omega)
  have h2 : (l.bunches.take i).length ≤ 6 := by have := hok.lb; rw [List.length_take]; omega
  have h3 : 4 ^ (l.bunches.take i).length ≤ 4 ^ 6 := Nat.pow_le_pow_right (by omega) h2
  have h4 := ways_max
  unfold feltTo; omega
theorem feltTo_in {l : Lot} {i : Nat} (hi : i ≤ l.bunches.length) {h : List Int} (hh : h ∈ feltTo l i) : h.length = i := by
  have := ((zJn _ _).1 hh).1
  rw [List.length_take, Nat.min_eq_left hi] at this; exact this
theorem zJp (l : Lot) : feltTo l l.bunches.length = felt l.bunches := by unfold feltTo; rw [List.take_length]
def kE (l : Lot) (e : Int) : Int := if e ≠ 0 then e else if ways l 0 = [] then 8 else 0
def idxC (l : Lot) (n : Int) (b : Nat) : Int := if (check l).2.2 = 0 then idxE n b else (check l).2.2
end Go.Rt.Ha
/- Plain words that laws of all layers share: numbers by turns, bits. No conditions. -/
namespace Go.Rt
def turnOf (x : List Int) (n : Nat) : Int := if x.length = 0 then 0 else x.getD (n % x.length) 0
theorem turn_in {x : List Int} (h : ∀ z ∈ x, 0 ≤ z ∧ z ≤ 255) (n : Nat) : 0 ≤ turnOf x n ∧ turnOf x n ≤ 255 := by
  unfold turnOf
  split
  · omega
  · rename_i h0
    have hl : n % x.length < x.length := Nat.mod_lt _ (by omega)
    simp only [List.getD, List.getElem?_eq_getElem hl, Option.getD_some]
    exact h _ (List.getElem_mem hl)
theorem turn_at {x : List Int} {n : Nat} (h : 0 < x.length) : x[n % x.length]'(Nat.mod_lt _ h) = turnOf x n := by
  unfold turnOf
  rw [if_neg (by omega)]
  simp [List.getD, Nat.mod_lt _ h]
theorem shr_half (b i : Nat) : (b >>> i : Nat) / 2 = b >>> (i + 1) := by rw [Nat.shiftRight_succ]
theorem shr_le (b i : Nat) : b >>> i ≤ b := by rw [Nat.shiftRight_eq_div_pow]; exact Nat.div_le_self _ _
end Go.Rt
set_option maxRecDepth 20000
namespace Go.Proofs.Hn
open Go.Proofs.Tryz
open Go.Rt Go.Rt.Ha
attribute [local irreducible] WL WC Con Yd At Ats Sl Agree DW

theorem ats_ofR {w0 w : World} {L : List (Nat × Obj)} {i b : Nat} {t : TypeId} {cs vs : List Value} (hs : St w0 w L) (hi : L[i]? = some (b, blk t cs)) (h : (cs.drop 0).take vs.length = vs) : Ats w0 L b 0 vs := zAk hi h
theorem bi2 {a b : Bool} {c d : Int} (h : a = b) (k : c = d) : [Value.bool a, Value.int .i64 c] = [Value.bool b, Value.int .i64 d] := by rw [h, k]
theorem sl_u8 {w0 : World} {F : List (Nat × Obj)} {a : Option Addr} {l : List Int} {i : Nat} (h : Sl w0 F a 1 (l.map fun x => [Value.int .u8 x])) (hi : i < l.length) :
    ∃ b off, a = some ⟨b, off, none⟩ ∧ Ats w0 F b (off + i * 1) [.int .u8 l[i]] := by
  obtain ⟨b, off, ha, _, hat⟩ := h.at (i := i) (row := [.int .u8 l[i]]) (by simp [hi])
  exact ⟨b, off, ha, hat⟩
theorem c73 {w0 w : World} {F : List (Nat × Obj)} (ax : Option Addr) (cx : Nat) (x : List Int) (hxl : x.length ≤ 9223372036854775807) (hxs : Sl w0 F ax 1 (x.map fun n => [Value.int .u8 n])) (hxr : ∀ z ∈ x, 0 ≤ z ∧ z ≤ 255) (n : Nat) (hs : St w0 w F) : Con Tryz.prog 73 [.slice ax x.length cx, .int .i64 (n : Int)] w fun v w' => v = .int .i64 (turnOf x n) ∧ St w0 w' F := by
  refine zAt (n := 16) func73 rfl rfl (zNl rfl) ?_
  refine zAe (fun K2 g0 => (zAa (zA5 rfl rfl (zAd (zAb (g0 _ _ (zAe (fun K4 g3 => (zAe (fun K6 g4 => (zAa (w_p (zAi (v := .slice _ _ _) rfl rfl) rfl ?_))))))))))))
  refine w_p (zA8 underlying33 rfl rfl) rfl (w_p (zB6 rfl rfl rfl rfl) rfl (zAd (zAb (g4 _ _ (zAu rfl rfl (fun h7 => ?_) (fun h7 => ?_))))))
  ·
   try simp only [zS] at h7
   refine zAe (fun K9 g5 => (zAa (zA5 rfl rfl (zAd (zAb (g5 _ _ (zAy (zAg (zA1 (l := [.tmp 4]) (vs := [_]) rfl ⟨⟨rfl, (rfl : _ = Value.int _ _)⟩, trivial⟩ ?_)))))))))
   first
     | exact ⟨congrArg (Value.int .i64) (by unfold turnOf; rw [if_pos (by omega)]), hs⟩
     | exact ⟨congrArg (Value.int .i64) (turn_at hx0), hs⟩
  try simp only [zS] at h7
  refine zAs (zAb (g3 _ _ (zAe (fun g7 g6 => ?_))))
  have hx0 : 0 < x.length := by omega
  have hm := Nat.mod_lt n hx0
  obtain ⟨bx, ox, rfl, hx⟩ := sl_u8 hxs hm
  have hr := hxr _ (List.getElem_mem hm)
  refine zAa (w_p (zAi (v := .slice _ _ _) rfl rfl) rfl (zAz rfl rfl (w_p (zAi (v := .slice _ _ _) rfl rfl) rfl (w_p (zA8 underlying33 rfl rfl) rfl (w_p (y_rem rfl rfl rfl rfl (by omega) (by omega)) rfl ?_)))))
  refine w_p (zA3 underlying33 sizeOf5 rfl rfl rfl rfl (i := n % x.length) (by simp) hm) rfl ?_
  refine w_p (zAj isAgg5 hs rfl rfl hx) rfl (w_p (y_u8int (by rw [underlying5]; rfl) underlying3 rfl rfl (by omega) (by omega)) rfl ?_)
  refine zBe rfl rfl (zAd (zAb (g6 _ _ (zAy (zA1 (l := [.tmp 4]) (vs := [_]) rfl ⟨⟨rfl, (rfl : _ = Value.int _ _)⟩, trivial⟩ ?_)))))
  first
    | exact ⟨congrArg (Value.int .i64) (by unfold turnOf; rw [if_pos (by omega)]), hs⟩
    | exact ⟨congrArg (Value.int .i64) (turn_at hx0), hs⟩

theorem c52 {w0 w : World} {F : List (Nat × Obj)} (b n : Nat) (hb : b ≤ 9223372036854775807) (hn : n ≤ 9223372036854775807) (hs : St w0 w F) : Con Tryz.prog 52 [.int .i64 (b : Int), .int .i64 (n : Int)] w fun v w' => v = .bool (decide ((((b >>> n : Nat) : Int)) % 2 = 1)) ∧ St w0 w' F := by
  refine zAt (n := 16) func52 rfl rfl (zNl rfl) ?_
  refine zAe (fun K2 g3 => (zAa (zA5 rfl rfl (zAd (zAb (g3 _ _ (zAe (fun K4 g4 => (zAe (fun K6 g5 => (zAa (zA5 rfl rfl (zAd (zAb (g5 _ _ (zAw ?_))))))))))))))))
  refine zBs [0,5,6,7,8,9,10,11,12] [0,5] (fun k vs w => ∃ i : Nat, vs = [.int .i64 ((b >>> i : Nat) : Int), .int .i64 i] ∧ i ≤ n ∧ k = n - i ∧ St w0 w F) (n) ?_ ?_
  ·
   exact ⟨0, rfl, by omega, by omega, hs⟩
  intro k vs μ w9 hI K8 g6
  obtain ⟨i, rfl, hia, rfl, hs⟩ := hI
  have hsl := shr_le b i
  have hsl0 : (0 : Int) ≤ ((b >>> i : Nat) : Int) := Int.natCast_nonneg _
  refine zAe (fun gb g7 => (zAe (fun gc g8 => (zAa (zAz rfl rfl (zAz rfl rfl (w_p (zBw rfl rfl rfl rfl) rfl (zAd (zAb (g8 _ _ (zAu rfl rfl (fun g0 => ?_) (fun g0 => ?_))))))))))))
  ·
   try simp only [zS] at g0
   refine zAs (zAb (g7 _ _ (zAe (fun gd g9 => (zAw ?_)))))
   refine zAa (zAz rfl rfl (w_p (y_quo rfl rfl rfl rfl (by omega) (by omega) (by omega)) rfl (zBe rfl rfl (zAd (zAl (zAb (g9 _ _ (zAa (zAz rfl rfl (w_p (zBg rfl rfl rfl rfl (by omega) (by omega)) rfl ?_))))))))))
   refine zBe rfl rfl (zAd (zAb (g6 _ _ (nxI (n - (i + 1)) (by omega) ?_))))
   exact ⟨i + 1, by rw [← shr_half]; rfl, by omega, rfl, hs⟩
  try simp only [zS] at g0
  refine zBl (zAm (zAm (zA0 (zAb (g4 _ _ (zAe (fun gf ga => (zAa (zAz rfl rfl (w_p (y_rem rfl rfl rfl rfl (by omega) (by omega)) rfl ?_))))))))))
  refine w_p (zB6 rfl rfl rfl rfl) rfl (w_p (zAo (v := .bool _) rfl rfl) rfl (zAd (zAb (ga _ _ (zAy (zA1 (l := [.tmp 4]) (vs := [_]) rfl ⟨⟨rfl, (rfl : _ = Value.bool _)⟩, trivial⟩ ?_))))))
  have hin : i = n := by omega
  subst hin
  exact ⟨rfl, hs⟩

theorem bit_con {w0 w : World} {F : List (Nat × Obj)} (z : Int) (n : Nat) (hz : 0 ≤ z) (hz2 : z ≤ 9223372036854775807) (hn : n ≤ 9223372036854775807) (hs : St w0 w F) : Con Tryz.prog 52 [.int .i64 z, .int .i64 (n : Int)] w fun v w' => v = .bool (decide (bit z.toNat n = 1)) ∧ St w0 w' F := by
  have h := c52 z.toNat n (by omega) hn hs
  rw [Int.toNat_of_nonneg hz, bit_dec] at h
  exact h
theorem c21 {w0 w : World} {F : List (Nat × Obj)} (al : Option Addr) (cl : Nat) (l : List Int) (hll : l.length ≤ 9223372036854775807) (hl : Sl w0 F al 1 (l.map fun x => [Value.int .i64 x])) (z : Int) (hs : St w0 w F) :
  Con Tryz.prog 21 [.slice al l.length cl, .int .i64 z] w fun v w' => v = .bool (hasI l z) ∧ St w0 w' F := by
  refine zAt (n := 23) func21 rfl rfl (zNl rfl) ?_
  refine zAe (fun K2 g6 => (zAa (zA5 rfl rfl (zAd (zAb (g6 _ _ (zAe (fun K4 g7 => (zAa (zA5 rfl rfl (zAd (zAb (g7 _ _ (zAe (fun K6 g8 => (zAe (fun K8 g9 => (zAa (zA5 rfl rfl ?_)))))))))))))))))))
  refine zAd (zAb (g9 _ _ (zAw ?_)))
  refine zBs [5,6,7,8,9,10,11,12,13,14,15,16,17,18,19,20,21] [5,6] (fun k vs w => ∃ i : Nat, vs = [.bool (hasI (l.take i) z), .int .i64 i] ∧ i ≤ l.length ∧ k = l.length - i ∧ St w0 w F) (l.length) ?_ ?_
  ·
   exact ⟨0, rfl, by omega, by omega, hs⟩
  intro k vs μ gd hI gf g4
  obtain ⟨i, rfl, hia, rfl, hs⟩ := hI
  generalize hb : hasI (l.take i) z = b
  refine zAe (fun gg ga => (zAe (fun gh gb => (zAa (zAz rfl rfl (w_p (zAi (v := .slice _ _ _) rfl rfl) rfl (w_p (zA8 underlying43 rfl rfl) rfl (w_p (zBw rfl rfl rfl rfl) rfl ?_))))))))
  refine zAd (zAb (gb _ _ (zAu rfl rfl (fun g0 => ?_) (fun g0 => ?_))))
  ·
   try simp only [zS] at g0
   refine zAs (zAb (ga _ _ (zAe (fun gi g5 => (zAw ?_)))))
   have hi2 : i < l.length := by omega
   obtain ⟨bx, ox, hbx, hx⟩ := zC9 hl hi2
   subst hbx
   refine zAa (w_p (zAi (v := .bool _) rfl rfl) rfl (w_p (zAi (v := .bool _) rfl rfl) rfl (zBi (fun g3 => ?_) (fun g3 => ?_))))
   ·
    subst g3
    refine zAh rfl rfl rfl ?_
    refine zAh rfl rfl rfl ?_
    refine zAh rfl rfl rfl ?_
    refine zAh rfl rfl rfl ?_
    refine zAh rfl rfl rfl ?_
    refine zAh rfl rfl rfl ?_
    refine w_p (zAx (v := _) rfl rfl rfl rfl) rfl (w_p (zAo (v := .bool _) rfl rfl) rfl (zAd (zAl (zAb (g5 _ _ (zAa (zAz rfl rfl (w_p (zBg rfl rfl rfl rfl (by omega) (by omega)) rfl ?_))))))))
    refine zBe rfl rfl (zAd (zAb (g4 _ _ (nxI (l.length - (i + 1)) (by omega) ?_))))
    first
      | exact ⟨i + 1, bi2 (by rw [zIn hi2, hb]; simp) rfl, by omega, rfl, hs⟩
      | exact ⟨i + 1, bi2 (by rw [zIn hi2, hb]; rfl) rfl, by omega, rfl, hs⟩
   subst g3
   refine w_y rfl rfl rfl (zAi (v := .slice _ _ _) rfl rfl) rfl ?_
   refine w_y rfl rfl rfl (zA2 rfl rfl) rfl ?_
   refine w_y rfl rfl rfl (zA3 underlying43 sizeOf3 rfl rfl rfl rfl (i := _) rfl (by omega)) rfl ?_
   refine w_y rfl rfl rfl (zAj isAgg3 hs rfl rfl hx) rfl ?_
   refine w_y rfl rfl rfl (zA2 rfl rfl) rfl ?_
   refine w_y rfl rfl rfl (zB6 rfl rfl rfl rfl) rfl ?_
   refine w_p (zA9 (v := .bool _) rfl rfl rfl rfl) rfl (w_p (zAo (v := .bool _) rfl rfl) rfl (zAd (zAl (zAb (g5 _ _ (zAa (zAz rfl rfl (w_p (zBg rfl rfl rfl rfl (by omega) (by omega)) rfl ?_))))))))
   refine zBe rfl rfl (zAd (zAb (g4 _ _ (nxI (l.length - (i + 1)) (by omega) ?_))))
   first
     | exact ⟨i + 1, bi2 (by rw [zIn hi2, hb]; simp) rfl, by omega, rfl, hs⟩
     | exact ⟨i + 1, bi2 (by rw [zIn hi2, hb]; rfl) rfl, by omega, rfl, hs⟩
  try simp only [zS] at g0
  refine zBl (zAm (zAm (zA0 (zAb (g8 _ _ (zAe (fun gj gc => (zAa (w_p (zAi (v := .bool _) rfl rfl) rfl (w_p (zAo (v := .bool _) rfl rfl) rfl ?_))))))))))
  refine zAd (zAb (gc _ _ (zAy (zA1 (l := [.tmp 4]) (vs := [_]) rfl ⟨⟨rfl, (rfl : _ = Value.bool _)⟩, trivial⟩ ?_))))
  exact ⟨congrArg Value.bool (by have hil : i = l.length := (by omega); subst hil; rw [List.take_length] at hb; exact hb.symm), hs⟩

theorem c22 {w0 w : World} {F : List (Nat × Obj)} (c : Count) (hc : 0 ≤ c.bits ∧ c.bits ≤ 63) (ah : Option Addr) (ch : Nat) (h : List Int) (hh6 : h.length ≤ 6) (hh : ∀ z ∈ h, 0 ≤ z ∧ z ≤ 12) (hsl : Sl w0 F ah 1 (h.map fun x => [Value.int .i64 x])) (hs : St w0 w F) :
  Con Tryz.prog 22 [.agg c.cells.toArray, .slice ah h.length ch] w fun v w' => v = .int .i64 (counted c.bits.toNat 0 h) ∧ St w0 w' F := by
  refine zAt (n := 24) func22 rfl rfl (zNl rfl) ?_
  refine zAe (fun K2 g7 => (zAa (zCa (v := .agg #[.int _ _, .int _ _]) (cs := [_,_]) zAc rfl rfl rfl hs (fun b3 w4 g8 => ?_))))
  refine zA5 rfl rfl (zAd (zAb (g7 _ _ (zAe (fun K7 g9 => (zAa (zA5 rfl rfl (zAd (zAb (g9 _ _ (zAe (fun K9 ga => (zAe (fun gh gb => (zAa (zA5 rfl rfl ?_))))))))))))))))
  refine zAd (zAb (gb _ _ (zAw ?_)))
  refine zBs [5,6,7,8,9,10,11,12,13,14,15,16,17,18,19,20,21,22] [5,6] (fun k vs w => ∃ i : Nat, vs = [.int .i64 (counted c.bits.toNat 0 (h.take i)), .int .i64 i] ∧ i ≤ h.length ∧ k = h.length - i ∧ St w0 w ((b3, blk 67 c.cells) :: F)) (h.length) ?_ ?_
  ·
   exact ⟨0, rfl, by omega, by omega, g8⟩
  intro k vs μ gi hI gj g5
  obtain ⟨i, rfl, hia, rfl, hs⟩ := hI
  have hcb := zIr (bits := c.bits.toNat) hh i hh6
  refine zAe (fun gk gc => (zAe (fun gm gd => (zAa (zAz rfl rfl (w_p (zAi (v := .slice _ _ _) rfl rfl) rfl (w_p (zA8 underlying43 rfl rfl) rfl (w_p (zBw rfl rfl rfl rfl) rfl ?_))))))))
  refine zAd (zAb (gd _ _ (zAu rfl rfl (fun g3 => ?_) (fun g3 => ?_))))
  ·
   try simp only [zS] at g3
   refine zAs (zAb (gc _ _ (zAe (fun gn g6 => (zAw ?_)))))
   refine zAe (fun gq gf => ?_)
   have hi2 : i < h.length := by omega
   obtain ⟨bx, ox, hbx, hx⟩ := zC9 hsl hi2
   subst hbx
   have hg := hh _ (List.getElem_mem hi2)
   refine zAa (w_p (zAf (o := 0) (i := 0) underlying67 rfl sizeOf3 rfl rfl rfl) rfl (w_p (zAj isAgg3 hs rfl rfl (zAk (i := 0) (vs := [_]) rfl rfl)) rfl (zAz rfl rfl (zAr zAc call52 rfl rfl rfl rfl (bit_con c.bits i (by omega) (by omega) (by omega) hs) ?_))))
   rintro _ gr ⟨rfl, g0⟩
   refine zAd (zAb (gf _ _ (zAu rfl rfl (fun g4 => ?_) (fun g4 => ?_))))
   ·
    try simp only [zS] at g4
    refine zAa (zAz rfl rfl (w_p (zAi (v := .slice _ _ _) rfl rfl) rfl (zAz rfl rfl (w_p (zA3 underlying43 sizeOf3 rfl rfl rfl rfl (i := _) rfl (by omega)) rfl (w_p (zAj isAgg3 g0.tail rfl rfl hx) rfl (w_p (zBg rfl rfl rfl rfl (by omega) (by omega)) rfl ?_))))))
    refine zBe rfl rfl (zAd (zAl (zAb (g6 _ _ (zAa (zAz rfl rfl (w_p (zBg rfl rfl rfl rfl (by omega) (by omega)) rfl (zBe rfl rfl (zAd (zAb (g5 _ _ (nxI (h.length - (i + 1)) (by omega) ?_))))))))))))
    first
      | exact ⟨i + 1, iv2 (counted_yes hi2 (by assumption)).symm rfl, by omega, rfl, g0⟩
      | exact ⟨i + 1, iv2 (counted_no hi2 (by assumption)).symm rfl, by omega, rfl, g0⟩
   try simp only [zS] at g4
   refine zAs (zAl (zAb (g6 _ _ (zAa (zAz rfl rfl (w_p (zBg rfl rfl rfl rfl (by omega) (by omega)) rfl (zBe rfl rfl (zAd (zAb (g5 _ _ (nxI (h.length - (i + 1)) (by omega) ?_)))))))))))
   first
     | exact ⟨i + 1, iv2 (counted_yes hi2 (by assumption)).symm rfl, by omega, rfl, g0⟩
     | exact ⟨i + 1, iv2 (counted_no hi2 (by assumption)).symm rfl, by omega, rfl, g0⟩
  try simp only [zS] at g3
  refine zBl (zAm (zAm (zA0 (zAb (ga _ _ (zAe (fun gt gg => (zAa (zAz rfl rfl (zBe rfl rfl (zAd (zAb (gg _ _ (zAy (zA1 (l := [.tmp 4]) (vs := [_]) rfl ⟨⟨rfl, (rfl : _ = Value.int _ _)⟩, trivial⟩ ?_)))))))))))))))
  have hil : i = h.length := by omega
  subst hil
  exact ⟨congrArg (Value.int .i64) (by rw [List.take_length]), hs.tail⟩

theorem iv_v {v : Value} {a b : Int} (h : a = b) : [v, Value.int .i64 a] = [v, Value.int .i64 b] := by rw [h]
theorem c40 {w0 w : World} {F : List (Nat × Obj)} (l : Lot) (p : At3) (hm : LIn w0 F l p) (h s : Int) (hs : St w0 w F) :
  Con Tryz.prog 40 [.agg (l.cells p).toArray, .int .i64 h, .int .i64 s] w fun v w' => v = .int .i64 (ofG l.grades 0 h s) ∧ St w0 w' F := by
  refine zAt (n := 34) func40 rfl rfl (zNl rfl) ?_
  obtain ⟨ag, cg, ab, cb, ac, cc⟩ := p
  have hlg := hm.lg
  refine zAe (fun K2 g8 => (zAa (zCa (v := .agg #[.slice _ _ _, .slice _ _ _, .slice _ _ _]) (cs := [_,_,_]) zAc rfl rfl rfl hs (fun b3 w4 g9 => ?_))))
  refine zA5 rfl rfl (zAd (zAb (g8 _ _ (zAe (fun K7 ga => (zAe (fun K9 gb => (zAa (zA5 rfl rfl (zAd (zAb (gb _ _ (zAw ?_)))))))))))))
  refine zBs [6,7,8,9,10,11,12,13,14,15,16,17,18,19,20,21,22,23,24,25,26,27,28,29,30,31,32,33] [7] (fun k vs w => ∃ i : Nat, vs = [.int .i64 i] ∧ i ≤ l.grades.length ∧ k = l.grades.length - i ∧ ofG l.grades 0 h s = ofG (l.grades.drop i) i h s ∧ St w0 w ((b3, blk 26 (l.cells ⟨ag, cg, ab, cb, ac, cc⟩)) :: F)) (l.grades.length) ?_ ?_
  ·
   exact ⟨0, rfl, by omega, by omega, rfl, g9⟩
  intro k vs μ gh hI gi g5
  obtain ⟨i, rfl, hia, rfl, hinv, hs⟩ := hI
  refine zAe (fun gj gc => (zAe (fun gk gd => (zAa (zAz rfl rfl (w_p (zAf (o := 0) (i := 0) underlying26 rfl sizeOf22 rfl rfl rfl) rfl (w_p (zAj isAgg22 hs rfl rfl (zAk (i := 0) (vs := [_]) rfl rfl)) rfl ?_)))))))
  refine w_p (zA8 underlying22 rfl rfl) rfl (w_p (zBw rfl rfl rfl rfl) rfl (zAd (zAb (gd _ _ (zAu rfl rfl (fun g0 => ?_) (fun g0 => ?_))))))
  ·
   try simp only [zS] at g0
   refine zAs (zAb (gc _ _ (zAe (fun gm g6 => (zAw ?_)))))
   refine zAe (fun gn g7 => ?_)
   have hi2 : i < l.grades.length := by omega
   obtain ⟨bx, ox, hbx, hx⟩ := zEk hm.g hi2
   subst hbx
   refine zAa (zAz rfl rfl (w_p (zAf (o := 0) (i := 0) underlying26 rfl sizeOf22 rfl rfl rfl) rfl (w_p (zAj isAgg22 hs rfl rfl (zAk (i := 0) (vs := [_]) rfl rfl)) rfl (zAz rfl rfl (w_p (zA3 underlying22 sizeOf61 rfl rfl rfl rfl (i := _) rfl (by omega)) rfl ?_)))))
   refine w_p (zAf (o := 1) (i := 1) underlying61 rfl sizeOf3 rfl rfl rfl) rfl (w_p (zAj isAgg3 hs.tail rfl rfl (show Ats _ _ _ _ [_] from Ats.part hx 1 1)) rfl (w_p (zKa rfl rfl rfl rfl) rfl (w_p (zAi (v := .bool _) rfl rfl) rfl (zBi (fun g3 => ?_) (fun g3 => ?_)))))
   ·
    try simp only [zS] at g3
    refine w_y rfl rfl rfl (zA2 rfl rfl) rfl ?_
    refine w_y rfl rfl rfl (zAf (o := 0) (i := 0) underlying26 rfl sizeOf22 rfl rfl rfl) rfl ?_
    refine w_y rfl rfl rfl (zAj isAgg22 hs rfl rfl (zAk (i := 0) (vs := [_]) rfl rfl)) rfl ?_
    refine w_y rfl rfl rfl (zA2 rfl rfl) rfl ?_
    refine w_y rfl rfl rfl (zA3 underlying22 sizeOf61 rfl rfl rfl rfl (i := _) rfl (by omega)) rfl ?_
    refine w_y rfl rfl rfl (zAf (o := 2) (i := 2) underlying61 rfl sizeOf3 rfl rfl rfl) rfl ?_
    refine w_y rfl rfl rfl (zAj isAgg3 hs.tail rfl rfl (show Ats _ _ _ _ [_] from Ats.part hx 2 1)) rfl ?_
    refine w_y rfl rfl rfl (y_leq rfl rfl rfl rfl) rfl ?_
    refine w_p (zAx (v := .bool _) rfl rfl rfl rfl) rfl (zAd (zAb (g7 _ _ (zAu rfl rfl (fun g4 => ?_) (fun g4 => ?_)))))
    ·
     try simp only [zS] at g4
     refine zAe (fun gq gf => (zAa (zAz rfl rfl (zBe rfl rfl (zAd (zAb (gf _ _ (zAy (zAv (zAg (zAg (zAv (zAg (zA1 (l := [.tmp 6]) (vs := [_]) rfl ⟨⟨rfl, (rfl : _ = Value.int _ _)⟩, trivial⟩ ?_))))))))))))))
     first
       | exact ⟨congrArg (Value.int .i64) (hinv.trans (of_here hi2 (by omega))).symm, hs.tail⟩
       | exact ⟨congrArg (Value.int .i64) (hinv.trans (of_end (by omega))).symm, hs.tail⟩
    try simp only [zS] at g4
    refine zAs (zAl (zAb (g6 _ _ (zAa (zAz rfl rfl (w_p (zBg rfl rfl rfl rfl (by omega) (by omega)) rfl (zBe rfl rfl (zAd (zAb (g5 _ _ (nxI (l.grades.length - (i + 1)) (by omega) ?_)))))))))))
    exact ⟨i + 1, rfl, by omega, rfl, hinv.trans (of_step hi2 (by omega)), hs⟩
   try simp only [zS] at g3
   refine zAh rfl rfl rfl ?_
   refine zAh rfl rfl rfl ?_
   refine zAh rfl rfl rfl ?_
   refine zAh rfl rfl rfl ?_
   refine zAh rfl rfl rfl ?_
   refine zAh rfl rfl rfl ?_
   refine zAh rfl rfl rfl ?_
   refine zAh rfl rfl rfl ?_
   refine w_p (zA9 (v := _) rfl rfl rfl rfl) rfl (zAd (zAb (g7 _ _ (zBx rfl rfl ?_))))
   refine zAs (zAl (zAb (g6 _ _ (zAa (zAz rfl rfl (w_p (zBg rfl rfl rfl rfl (by omega) (by omega)) rfl (zBe rfl rfl (zAd (zAb (g5 _ _ (nxI (l.grades.length - (i + 1)) (by omega) ?_)))))))))))
   exact ⟨i + 1, rfl, by omega, rfl, hinv.trans (of_step hi2 (by omega)), hs⟩
  try simp only [zS] at g0
  refine zBl (zAm (zAm (zA0 (zAb (ga _ _ (zAe (fun gr gg => (zAa (zA5 rfl rfl (zAd (zAb (gg _ _ (zAy (zA1 (l := [.tmp 6]) (vs := [_]) rfl ⟨⟨rfl, (rfl : _ = Value.int _ _)⟩, trivial⟩ ?_))))))))))))))
  first
    | exact ⟨congrArg (Value.int .i64) (hinv.trans (of_here hi2 (by omega))).symm, hs.tail⟩
    | exact ⟨congrArg (Value.int .i64) (hinv.trans (of_end (by omega))).symm, hs.tail⟩

end Go.Proofs.Hn
/- Plain law of the hand layer: a lot that is told by a way denies nothing. No conditions. -/
namespace Go.Rt.Ha
theorem idx_fine {n : Int} {b : Nat} (h : 0 ≤ n ∧ n < b) : idxE n b = 0 := by
  unfold idxE out
  rw [if_neg (by simp only [Bool.or_eq_true, decide_eq_true_eq, not_or]; omega)]
structure TrueB (l : Lot) (h : List Int) (b : Nat) (s : Int) : Prop where
  hands : (handsP (told l h) b).2 = 0 ∧ (handsP (told l h) b).1.1 ≤ at_ h b ∧ at_ h b ≤ (handsP (told l h) b).1.2
  grade : (gradeP (told l h) b).2 = 0 ∧ hasI (gradeP (told l h) b).1 (ofG l.grades 0 (at_ h b) s) = true
  may : ofG l.grades 0 (at_ h b) s = -1 → hasI (refusedP (told l h)).2.1 b = true
  sure : ofG l.grades 0 (at_ h b) s ≠ -1 → hasI (refusedP (told l h)).1 b = false
def ofSum (l : Lot) (h : List Int) (sc : Nat → Int) (g : Int) : Nat → Int
  | 0 => 0
  | k + 1 => ofSum l h sc g k + if ofG l.grades 0 (at_ h k) (sc k) = g then at_ h k else 0
theorem sum_in {l : Lot} {h : List Int} {sc : Nat → Int} (hh : ∀ b, b < l.bunches.length → 0 ≤ at_ h b) (hs : ∀ b, b < l.bunches.length → (bunchOf l b).slo ≤ sc b ∧ sc b ≤ (bunchOf l b).shi) (g : Nat) : ∀ k, k ≤ l.bunches.length → (sumsTo l g h k).1 ≤ ofSum l h sc g k ∧ ofSum l h sc g k ≤ (sumsTo l g h k).2
  | 0, _ => by simp [sumsTo, ofSum]
  | k + 1, hk => by
    have ih := sum_in hh hs g k (by omega)
    have h0 := hh k (by omega)
    have hsk := hs k (by omega)
    have e3 : (2 : Nat) <<< g = 2 ^ (g + 1) := by rw [Nat.shiftLeft_eq, Nat.pow_succ, Nat.mul_comm]
    have hin : sc k ∈ scarsOf l k := zKf.2 hsk
    have hne : scarsOf l k ≠ [] := List.ne_nil_of_mem hin
    have h1 := orG_one (gs := l.grades) (h := at_ h k) (g := (g : Int)) hne (by omega)
    rw [show ((g : Int) + 1).toNat = g + 1 by omega] at h1
    have h2 := grades_has (gs := l.grades) (h := at_ h k) (g := (g : Int)) (by omega) (scarsOf l k)
    rw [show ((g : Int) + 1).toNat = g + 1 by omega] at h2
    simp only [sumsTo, ofSum, e3]
    have ez : gradesB l (bunchOf l k) (at_ h k) = orG l.grades (at_ h k) (scarsOf l k) := rfl
    rw [ez]
    split
    · rename_i hz
      rw [if_pos (h1.1 hz _ hin)]
      simp only; omega
    · split
      · simp only; split <;> omega
      · rename_i hz
        rw [if_neg]
        · omega
        · intro e
          exact hz ((bit_iff _ _).2 (by rw [← h2]; exact hasI_mem.2 (gradesL_mem.2 ⟨sc k, hin, e⟩)))
theorem tot_facts (l : Lot) (g : Nat) : ∀ (ws : List (List Int)) (s : Int × Int), (ws.foldl (fun s h => (min s.1 (sums l g h).1, max s.2 (sums l g h).2)) s).1 ≤ s.1 ∧ s.2 ≤ (ws.foldl (fun s h => (min s.1 (sums l g h).1, max s.2 (sums l g h).2)) s).2 ∧
    ∀ h ∈ ws, (ws.foldl (fun s h => (min s.1 (sums l g h).1, max s.2 (sums l g h).2)) s).1 ≤ (sums l g h).1 ∧ (sums l g h).2 ≤ (ws.foldl (fun s h => (min s.1 (sums l g h).1, max s.2 (sums l g h).2)) s).2
  | [], s => by simp
  | h :: ws, s => by
    have ih := tot_facts l g ws (min s.1 (sums l g h).1, max s.2 (sums l g h).2)
    rw [List.foldl_cons]
    obtain ⟨i1, i2, i3⟩ := ih
    simp only at i1 i2
    refine ⟨by omega, by omega, fun x hx => ?_⟩
    cases hx with
    | head => constructor <;> omega
    | tail _ hx => exact i3 x hx
def allSum (h : List Int) : Nat → Int
  | 0 => 0
  | k + 1 => allSum h k + at_ h k
def gradeSums (l : Lot) (h : List Int) (sc : Nat → Int) (k : Nat) : Nat → Int
  | 0 => 0
  | n + 1 => gradeSums l h sc k n + ofSum l h sc n k
end Go.Rt.Ha
/- Plain law of the hand layer: one more count. No conditions. -/
namespace Go.Rt.Ha
def moreL (l : Lot) (c : Count) : Lot := { l with counts := l.counts ++ [c] }
end Go.Rt.Ha
/- Plain law of the hand layer: with one more count nothing is wider. No conditions. -/
namespace Go.Rt.Ha
structure LessB (l l' : Lot) (b : Nat) : Prop where
  e1 : (handsP l b).2 = 0
  e2 : (handsP l' b).2 = 0
  e3 : (gradeP l b).2 = 0
  e4 : (gradeP l' b).2 = 0
  hands : (handsP l b).1.1 ≤ (handsP l' b).1.1 ∧ (handsP l' b).1.2 ≤ (handsP l b).1.2
  grade : ∀ z ∈ (gradeP l' b).1, z ∈ (gradeP l b).1
end Go.Rt.Ha
/- Plain law of the hand layer: the fewest counts that must be wrong. No conditions. -/
namespace Go.Rt.Ha
def butC (but : List Int) : Nat → List Count → List Count
  | _, [] => []
  | i, c :: l => if hasI but i then butC but (i + 1) l else c :: butC but (i + 1) l
def butL (l : Lot) (but : List Int) : Lot := { l with counts := butC but 0 l.counts }
structure FewF (l : Lot) (x : Nat) : Prop where
  e : (wrongP l).2 = 0
  is : ∃ b, b < 2 ^ l.counts.length ∧ (wrongP l).1 = listL b l.counts.length
  f : (refusedP (butL l (wrongP l).1)).2.2 = 0
  g : (refusedP (butL l (listL x l.counts.length))).2.2 = 8 ∨ ((refusedP (butL l (listL x l.counts.length))).2.2 = 0 ∧ before (listL x l.counts.length) (wrongP l).1 = false)
end Go.Rt.Ha
/- Plain help of the hand layer's laws: rising lists, fewer, counts left out. No conditions. -/
namespace Go.Rt.Ha
def rising (n : Int) : Int → List Int → Bool
  | _, [] => true
  | p, x :: l => !(decide (x ≤ p) || decide (n ≤ x)) && rising n x l
theorem rising_snoc {n x : Int} : ∀ (l : List Int) (p : Int), (∀ y ∈ l, y < x) → p < x → x < n → rising n p l = true → rising n p (l ++ [x]) = true
  | [], p, _, h1, h2, _ => by
    simp only [List.nil_append, rising, Bool.and_true, Bool.not_eq_true', Bool.or_eq_false_iff, decide_eq_false_iff_not]; omega
  | y :: l, p, h, h1, h2, h3 => by
    simp only [List.cons_append, rising, Bool.and_eq_true] at h3 ⊢
    exact ⟨h3.1, rising_snoc l y (fun z hz => h z (.tail _ hz)) (h y (.head _)) h2 h3.2⟩
theorem listL_lt (b : Nat) : ∀ n, ∀ y ∈ listL b n, 0 ≤ y ∧ y < (n : Int)
  | 0, y, h => by simp [listL] at h
  | n + 1, y, h => by
    rw [listL, List.mem_append] at h
    rcases h with h | h
    · have := listL_lt b n y h; omega
    · split at h
      · simp at h; omega
      · simp at h
theorem zFl {m : Int} (b : Nat) : ∀ n : Nat, (n : Int) ≤ m → rising m (-1) (listL b n) = true
  | 0, _ => rfl
  | n + 1, h => by
    rw [listL]
    split
    · exact rising_snoc _ _ (fun y hy => (listL_lt b n y hy).2) (by omega) (by omega) (zFl b n (by omega))
    · rw [List.append_nil]; exact zFl b n (by omega)
end Go.Rt.Ha
set_option maxRecDepth 20000
namespace Go.Proofs.Hn
open Go.Proofs.Tryz
open Go.Rt Go.Rt.Ha
attribute [local irreducible] WL WC Con Yd At Ats Sl Agree DW

theorem zIe {t : TypeId} {sz n : Nat} {v : Value} {xs : List Value} {B : List (Nat × Obj)} (h : Rt.Own v t sz n xs B) (hn : 0 < n) : ∃ b cap cs, v = .slice (some ⟨b, 0, none⟩) n cap ∧ B = [(b, blk t cs)] ∧ n ≤ cap ∧ cap ≤ maxLen ∧ cs.length = cap * sz ∧ cs.take (n * sz) = xs := by
  rcases h.2 with ⟨_, h0, _⟩ | ⟨b, cap, cs, h1, h2, h3, h4, h5, h6⟩
  · omega
  · exact ⟨b, cap, cs, h1, h2, h3, h4, h5, h6⟩
theorem own_rows1 {w0 : World} {a : Option Addr} {t : TypeId} {sz n c : Nat} {rows : List (List Value)} {B : List (Nat × Obj)} (h : Rt.Own (.slice a n c) t sz n rows.flatten B) (hr : ∀ row ∈ rows, row.length = sz) (hn : rows.length = n) : Sl w0 B a sz rows ∧ n ≤ c := by
  rcases h.2 with ⟨h2, h0, rfl⟩ | ⟨b, cap, cs, h2, rfl, h4, _,_, h5⟩
  · injection h2 with e1 e2 e3
    have : rows = [] := List.length_eq_zero_iff.1 (by omega)
    subst this
    exact ⟨Sl.nil _ _, by omega⟩
  · injection h2 with e1 e2 e3
    subst e1
    exact ⟨zBt (i := 0) rfl hr (by rw [hn]; exact h5), by omega⟩
end Go.Proofs.Hn
set_option maxRecDepth 20000
namespace Go.Proofs.Hn
open Go.Proofs.Tryz
open Go.Rt Go.Rt.Ha
attribute [local irreducible] WL WC Con Yd At Ats Sl Agree DW
theorem Try_HV_fb5 (x0 : Option Addr) (l0 c0 : Nat) (w : World) : (Instr.buildSlice 40 1 [(0, .slice x0 l0 c0)].toArray).run Tryz.prog w = .ok (.slice (some ⟨w.heap.size, 0, none⟩) 1 1) (w.alloc (Go.Rt.blk 43 [.slice x0 l0 c0])) := by kernel_rfl
theorem Try_HV_fb6  (w : World) : (Instr.buildSlice 43 0 [].toArray).run Tryz.prog w = .ok (.slice (some ⟨w.heap.size, 0, none⟩) 0 0) (w.alloc (Go.Rt.blk 3 [])) := by kernel_rfl
theorem Try_HV_fb7 (x0 : Int) (w : World) : (Instr.buildSlice 43 1 [(0, .int .i64 x0)].toArray).run Tryz.prog w = .ok (.slice (some ⟨w.heap.size, 0, none⟩) 1 1) (w.alloc (Go.Rt.blk 3 [.int .i64 x0])) := by kernel_rfl
theorem Try_info43 : Tryz.prog.info? 43 = some Tryz.t43 := by kernel_rfl
theorem c20 {w0 w : World} {F : List (Nat × Obj)} (l : Lot) (p : At3) (hm : LIn w0 F l p) (hok : l.Ok) (hs : St w0 w F) :
  Con Tryz.prog 20 [.agg (l.cells p).toArray] w fun v w' => ∃ (B : List (Nat × Obj)) (vs : List Value) (a : Option Addr) (c : Nat), v = .slice a (felt l.bunches).length c ∧ Sl w0 B a 1 (vs.map fun v => [v]) ∧ EL w0 B vs (felt l.bunches) ∧ St w0 w' (B ++ F) := by
  refine zAt (n := 54) func20 rfl rfl (zNl rfl) ?_
  have hlb := hok.lb
  
  refine zAe (fun K2 gc => (zAa (zCa (v := .agg #[.slice _ _ _, .slice _ _ _, .slice _ _ _]) (cs := [_,_,_]) zAc rfl rfl rfl hs (fun b3 w4 g9 => ?_))))
  refine zA5 rfl rfl (zAd (zAb (gc _ _ (zAe (fun K7 gd => ?_)))))
  have hbx := ats_ofR (i := 0) (vs := l.cells p) g9 rfl rfl
  refine zAa (zBb (ps := [(0, _)]) (pv := [(0, .slice _ _ _)]) (cs := [_]) zAc rfl rfl (fun w => Try_HV_fb5 _ _ _ w) g9 (fun b8 w9 gf => ?_))
  refine w_p (zAo (v := .slice _ _ _) rfl rfl) rfl (zAd (zAb (gd _ _ (zAe (fun gL gg => (zAe (fun gM gh => (zAa (zA5 rfl rfl (zAd (zAb (gh _ _ (zAw ?_)))))))))))))
  refine zBs [3,4,5,6,7,9,10,11,12,13,14,15,16,17,18,19,20,21,22,23,24,25,26,27,28,29,30,31,32,33,34,35,36,37,38,39,40,41,42,43,44,45,46,47,48,49,50,51,52] [3,4] (fun kk vs0 w => ∃ (i : Nat) (vO : Value) (OB E : List (Nat × Obj)) (vs : List Value), vs0 = [vO, .int .i64 i] ∧ i ≤ l.bunches.length ∧ kk = l.bunches.length - i ∧ Rt.Own vO 43 1 (feltTo l i).length vs OB ∧ EL w0 E vs (feltTo l i) ∧ St w0 w (OB ++ (E ++ ((b3, blk 26 (l.cells p)) :: F)))) (l.bunches.length) ?_ ?_
  ·
   exact ⟨0, _, [_], [], [.slice none 0 0], rfl, by omega, by omega, own_lit rfl (by simp [maxLen]), ⟨rfl, fun k hk => ⟨none, 0, by simp [felt_zero] at hk; subst hk; rfl, by simp [felt_zero] at hk; subst hk; exact Sl.nil _ _, fun _ => rfl⟩⟩, gf⟩
  intro k vs μ gN hI gP gi
  obtain ⟨i, vO, OB, E, vs, rfl, hia, rfl, hown0, hel, hs⟩ := hI
  refine zAe (fun gQ gj => (zAe (fun gR gk => (zAa (zAz rfl rfl (w_p (zAf (o := 1) (i := 1) underlying26 rfl sizeOf23 rfl rfl rfl) rfl (w_p (zAj isAgg23 hs.drop.drop rfl rfl (show Ats _ _ _ _ [_] from Ats.part hbx 1 1)) rfl ?_)))))))
  refine w_p (zA8 underlying23 rfl rfl) rfl (w_p (zBw rfl rfl rfl rfl) rfl (zAd (zAb (gk _ _ (zAu rfl rfl (fun g3 => ?_) (fun g3 => ?_))))))
  ·
   try simp only [zS] at g3
   refine zAs (zAb (gj _ _ (zAe (fun gS gm => (zAw ?_)))))
   refine zAe (fun gU gn => ?_)
   have hi2 : i < l.bunches.length := by omega
   have hwl := zJo hok (Nat.le_of_lt hi2)
   have hbb := hok.bunch _ (List.getElem_mem hi2)
   obtain ⟨aO, cO, rfl, hslO⟩ := own_sl_id (w0 := w0) hown0 hel.1 (E ++ ((b3, blk 26 (l.cells p)) :: F))
   obtain ⟨by_, oy, hby, hy⟩ := zG7 hm.b hi2
   refine zAa (zA5 rfl rfl (zAd (zAb (gn _ _ (zAe (fun gV gq => (zAe (fun gW gr => (zAa (zA5 rfl rfl (zAd (zAb (gr _ _ (zAw ?_))))))))))))))
   refine zBs [5,6,7,16,17,18,19,20,21,22,23,24,25,26,27,28,29,30,31,32,33,34,35,36,37,38,39,40,41,42,43,44,45,46,47,48,49,50,51] [5,6] (fun kk vs0 w => ∃ (k : Nat) (vN : Value) (NB E1 : List (Nat × Obj)) (ws : List Value), vs0 = [vN, .int .i64 k] ∧ k ≤ (feltTo l i).length ∧ kk = (feltTo l i).length - k ∧ Rt.Own vN 43 1 (fTo (l.bunches[i]'hi2) (feltTo l i) k).length ws NB ∧ EL w0 E1 ws (fTo (l.bunches[i]'hi2) (feltTo l i) k) ∧ St w0 w (NB ++ (E1 ++ (OB ++ (E ++ ((b3, blk 26 (l.cells p)) :: F)))))) ((feltTo l i).length) ?_ ?_
   ·
    exact ⟨0, _, [], [], [], rfl, by omega, by omega, zEm 43 1, EL.nil _ _, hs⟩
   intro k vs μ gX hI gY gt
   obtain ⟨k, vN, NB, E1, ws, rfl, hka, rfl, hown1, hel1, hs⟩ := hI
   refine zAe (fun gZ gu => (zAe (fun hD gv => (zAa (zAz rfl rfl (w_p (zAi (v := .slice _ _ _) rfl rfl) rfl (w_p (zA8 underlying40 rfl rfl) rfl (w_p (zBw rfl rfl rfl rfl) rfl ?_))))))))
   refine zAd (zAb (gv _ _ (zAu rfl rfl (fun g4 => ?_) (fun g4 => ?_))))
   ·
    try simp only [zS] at g4
    refine zAs (zAb (gu _ _ (zAe (fun hG gw => (zAw ?_)))))
    refine zAe (fun hH gx => ?_)
    have hk2 : k < (feltTo l i).length := by omega
    obtain ⟨bx, ox, b2, c2, haO, hx, hsx0, hnx⟩ := el_at hslO (hel.mono fun _ h => h.drop.front) hk2
    subst haO
    have hxl := feltTo_in (Nat.le_of_lt hi2) (List.getElem_mem hk2)
    refine zAa (w_p (zAf (o := 1) (i := 1) underlying26 rfl sizeOf23 rfl rfl rfl) rfl (w_p (zG5 hby (zAj isAgg23 hs.drop.drop.drop.drop rfl rfl (show Ats _ _ _ _ [_] from Ats.part hbx 1 1))) rfl ?_))
    refine zAz rfl rfl (w_p (zA3 underlying23 sizeOf65 rfl rfl rfl rfl (i := _) rfl (by omega)) rfl (w_p (zAf (o := 0) (i := 0) underlying65 rfl sizeOf46 rfl rfl rfl) rfl (w_p (zAf (o := 0) (i := 0) underlying46 rfl sizeOf3 rfl rfl rfl) rfl ?_)))
    refine w_p (zAj isAgg3 hs.drop.drop.drop.drop.tail rfl rfl (show Ats _ _ _ _ [_] from Ats.part hy 0 1)) rfl (zBe rfl rfl (zAd (zAb (gx _ _ (zAw ?_)))))
    refine zBs [5,7,29,30,31,32,33,34,35,36,37,38,39,40,41,42,43,44,45,46,47,48,49,50,51] [5,7] (fun kk vs0 w => ∃ (q : Nat) (vN : Value) (NB E1 : List (Nat × Obj)) (ws : List Value), vs0 = [vN, .int .i64 ((l.bunches[i]'hi2).lo + q)] ∧ (q : Int) ≤ (l.bunches[i]'hi2).hi + 1 - (l.bunches[i]'hi2).lo ∧ kk = ((l.bunches[i]'hi2).hi + 1 - (l.bunches[i]'hi2).lo).toNat - q ∧ Rt.Own vN 43 1 (fTo (l.bunches[i]'hi2) (feltTo l i) k ++ fPart (l.bunches[i]'hi2) ((feltTo l i)[k]'hk2) q).length ws NB ∧ EL w0 E1 ws (fTo (l.bunches[i]'hi2) (feltTo l i) k ++ fPart (l.bunches[i]'hi2) ((feltTo l i)[k]'hk2) q) ∧ St w0 w (NB ++ (E1 ++ (OB ++ (E ++ ((b3, blk 26 (l.cells p)) :: F)))))) (((l.bunches[i]'hi2).hi + 1 - (l.bunches[i]'hi2).lo).toNat) ?_ ?_
    ·
     exact ⟨0, vN, NB, E1, ws, iv_v (by omega), by omega, by omega, by rw [show fPart _ _ 0 = [] from rfl, List.append_nil]; exact hown1, by rw [show fPart _ _ 0 = [] from rfl, List.append_nil]; exact hel1, hs⟩
    intro k vs μ hO hI hX gy
    obtain ⟨q, vN, NB, E1, ws, rfl, hqa, rfl, hown2, hel2, hs⟩ := hI
    refine zAe (fun hY gz => (zAe (fun j0 gA => (zAa (zAz rfl rfl (w_p (zAf (o := 1) (i := 1) underlying26 rfl sizeOf23 rfl rfl rfl) rfl (w_p (zG5 hby (zAj isAgg23 hs.drop.drop.drop.drop rfl rfl (show Ats _ _ _ _ [_] from Ats.part hbx 1 1))) rfl ?_)))))))
    refine zAz rfl rfl (w_p (zA3 underlying23 sizeOf65 rfl rfl rfl rfl (i := _) rfl (by omega)) rfl (w_p (zAf (o := 0) (i := 0) underlying65 rfl sizeOf46 rfl rfl rfl) rfl (w_p (zAf (o := 1) (i := 1) underlying46 rfl sizeOf3 rfl rfl rfl) rfl ?_)))
    refine w_p (zAj isAgg3 hs.drop.drop.drop.drop.tail rfl rfl (show Ats _ _ _ _ [_] from Ats.part hy 1 1)) rfl (w_p (y_leq rfl rfl rfl rfl) rfl (zAd (zAb (gA _ _ (zAu rfl rfl (fun g5 => ?_) (fun g5 => ?_))))))
    ·
     try simp only [zS] at g5
     refine zAs (zAb (gz _ _ (zAe (fun j1 gB => (zAw ?_)))))
     have hgl := fTo_len (b := (l.bunches[i]'hi2)) (ws := (feltTo l i)) (by omega) k
     have hgq := fPart_len (l.bunches[i]'hi2) ((feltTo l i)[k]'hk2) q
     refine zAa (w_p (zAi (v := vN) rfl rfl) rfl (zBb (ps := []) (pv := []) (cs := []) zAc rfl rfl (fun w => Try_HV_fb6  w) hs (fun j2 j3 ga => ?_)))
     refine w_p (zAi (v := .slice _ _ _) rfl rfl) rfl (zAz rfl rfl (w_p (zA3 underlying40 sizeOf43 rfl rfl rfl rfl (i := _) rfl (by omega)) rfl (w_p (zAj isAgg43 ga.tail.drop.drop rfl rfl hx) rfl (zCk (X := ([])) (B := [_]) (rows := (((feltTo l i)[k]'hk2).map fun x => [Value.int .i64 x])) (sz := 1) (bytes := 8) zAc underlying43 zDb rfl rfl rfl rfl rfl rfl rfl rfl rfl ga zFq hsx0.app.app.cons (by simp) hnx (ints_one _) (by simp only [maxLen]; omega) (by omega) (fun j4 j5 gb gC g6 => ?_)))))
     replace g6 := (show St _ _ (gb ++ (NB ++ (E1 ++ (OB ++ (E ++ (_ :: F)))))) from g6)
     refine zAz rfl rfl (zBb (ps := [(0, _)]) (pv := [(0, .int _ _)]) (cs := [_]) zAc rfl rfl (fun w => Try_HV_fb7 _ w) g6 (fun j6 j7 gE => ?_))
     refine zCk (X := (_ :: [])) (B := gb) (rows := [[_]]) (sz := 1) (bytes := 8) zAc underlying43 zDb rfl rfl rfl rfl rfl rfl rfl rfl rfl gE gC (zBt (i := 0) rfl (by simp) rfl) rfl (by simp) (by simp [Value.oneCell']) (by simp only [maxLen]; omega) (by omega) (fun j8 j9 g0 gF g7 => ?_)
     replace g7 := (show St _ _ (_ :: g0 ++ (NB ++ (E1 ++ (OB ++ (E ++ (_ :: F)))))) from g7)
     obtain ⟨a3, c3, rfl, hsl3, hn3, _⟩ := zGg (w0 := w0) (own_ints1 gF)
     refine zBb (ps := [(0, _)]) (pv := [(0, .slice _ _ _)]) (cs := [_]) zAc rfl rfl (fun w => Try_HV_fb5 _ _ _ w) g7 (fun ja jb gG => ?_)
     refine zCk (X := (_ :: _ :: g0)) (B := NB) (rows := [[_]]) (sz := 1) (bytes := 24) zAc underlying40 Try_info43 rfl rfl rfl rfl rfl rfl rfl rfl rfl gG hown2 (zBt (i := 0) rfl (by simp) rfl) rfl (by simp) (by simp [Value.oneCell']) (by simp only [maxLen, List.length_append]; omega) (by simp only [List.length_append]; omega) (fun gH jc gI gJ g8 => ?_)
     replace g8 := (show St _ _ (_ :: _ :: g0 ++ (gI ++ (E1 ++ (OB ++ (E ++ (_ :: F)))))) from g8)
     refine w_p (zAo (v := gH) rfl rfl) rfl (zAd (zAl (zAb (gB _ _ (zAa (zAz rfl rfl (w_p (zBg rfl rfl rfl rfl (by omega) (by omega)) rfl ?_)))))))
     refine zBe rfl rfl (zAd (zAb (gy _ _ (nxI (((l.bunches[i]'hi2).hi + 1 - (l.bunches[i]'hi2).lo).toNat - (q + 1)) (by omega) ?_))))
     exact ⟨q + 1, _,_, g0 ++ E1, _, iv_v (by omega), by omega, rfl, by rw [fPart_succ, ← List.append_assoc]; exact own_el gJ, by rw [fPart_succ, ← List.append_assoc]; exact el_more hel2 hsl3 hn3, el_perm g8⟩
    try simp only [zS] at g5
    refine zBl (zAm (zAm (zA0 (zAl (zAb (gw _ _ (zAa (zAz rfl rfl (w_p (zBg rfl rfl rfl rfl (by omega) (by omega)) rfl ?_)))))))))
    refine zBe rfl rfl (zAd (zAb (gt _ _ (nxI ((feltTo l i).length - (k + 1)) (by omega) ?_))))
    have hqb : q = ((l.bunches[i]'hi2).hi + 1 - (l.bunches[i]'hi2).lo).toNat := by omega
    rw [fPart_all hqb, ← fTo_succ hk2] at hown2 hel2
    exact ⟨k + 1, vN, NB, E1, ws, rfl, by omega, by omega, hown2, hel2, hs⟩
   try simp only [zS] at g4
   refine zBl (zAm (zAm (zA0 (zAb (gq _ _ (zAa (w_p (zAi (v := vN) rfl rfl) rfl (w_p (zAo (v := vN) rfl rfl) rfl ?_))))))))
   refine zAd (zAl (zAb (gm _ _ (zAa (zAz rfl rfl (w_p (zBg rfl rfl rfl rfl (by omega) (by omega)) rfl (zBe rfl rfl (zAd (zAb (gi _ _ (nxI (l.bunches.length - (i + 1)) (by omega) ?_)))))))))))
   have hkn : k = (feltTo l i).length := by omega
   rw [hkn, felt_step hi2] at hown1 hel1
   exact ⟨i + 1, vN, NB, E1, ws, rfl, by omega, rfl, hown1, hel1, (hs.perm (el_drop2 NB E1 OB E _)).drop⟩
  try simp only [zS] at g3
  refine zBl (zAm (zAm (zA0 (zAb (gg _ _ (zAe (fun jd gK => (zAa (w_p (zAi (v := vO) rfl rfl) rfl (w_p (zAo (v := vO) rfl rfl) rfl ?_))))))))))
  refine zAd (zAb (gK _ _ (zAy (zA1 (l := [.tmp 2]) (vs := [_]) rfl ⟨⟨rfl, show _ = (vO : Value) from rfl⟩, trivial⟩ ?_))))
  have hin : i = l.bunches.length := by omega
  subst hin
  rw [zJp] at hown0 hel
  obtain ⟨aO, cO, rfl, hslO⟩ := own_sl_id (w0 := w0) hown0 hel.1 E
  exact ⟨OB ++ E, vs, aO, cO, rfl, hslO, hel.app, zEg (by rw [List.append_assoc]; exact hs)⟩

end Go.Proofs.Hn
/- Plain help of HandTrue: scars by turns, counts told one by one, sums by grade. No conditions. -/
namespace Go.Rt.Ha
def scOf (l : Lot) (x : List Int) (k : Nat) : Int := (bunchOf l k).slo + turnOf x k % ((bunchOf l k).shi - (bunchOf l k).slo + 1)
def scTo (l : Lot) (x : List Int) : Nat → List Int
  | 0 => []
  | k + 1 => scTo l x k ++ [scOf l x k]
theorem sc_len (l : Lot) (x : List Int) : ∀ k, (scTo l x k).length = k
  | 0 => rfl
  | k + 1 => by rw [scTo, List.length_append, sc_len l x k]; rfl
theorem sc_at {l : Lot} {x : List Int} {i : Nat} : ∀ {n : Nat} (h : i < (scTo l x n).length), (scTo l x n)[i] = scOf l x i
  | 0, h => by simp [scTo] at h
  | n + 1, h => by
    have hl := sc_len l x n
    have hl2 := sc_len l x (n + 1)
    simp only [scTo]
    by_cases e : i < n
    · rw [List.getElem_append_left (by omega)]; exact sc_at _
    · have : i = n := by omega
      subst this
      rw [List.getElem_append_right (by omega)]
      simp [hl]
theorem sc_in {l : Lot} (hok : l.Ok) {x : List Int} {b : Nat} (hb : b < l.bunches.length) : (bunchOf l b).slo ≤ scOf l x b ∧ scOf l x b ≤ (bunchOf l b).shi := by
  have h1 := hok.bunch _ (List.getElem_mem hb)
  rw [← zIx hb] at h1
  unfold scOf
  have h2 := Int.emod_nonneg (turnOf x b) (show (bunchOf l b).shi - (bunchOf l b).slo + 1 ≠ 0 by omega)
  have h3 := Int.emod_lt_of_pos (turnOf x b) (show 0 < (bunchOf l b).shi - (bunchOf l b).slo + 1 by omega)
  omega
def tdTo (l : Lot) (h : List Int) (i : Nat) : List Count := (l.counts.take i).map (toldC h) ++ l.counts.drop i
def smTo (l : Lot) (h : List Int) (sc : Nat → Int) (k : Nat) : List Int := (List.range (l.grades.length + 1)).map fun j : Nat => ofSum l h sc ((j : Int) - 1) k
theorem of_sum_in {l : Lot} {h : List Int} {sc : Nat → Int} (hh : ∀ b, b < l.bunches.length → 0 ≤ at_ h b ∧ at_ h b ≤ 12) (g : Int) : ∀ k, k ≤ l.bunches.length → 0 ≤ ofSum l h sc g k ∧ ofSum l h sc g k ≤ 12 * k
  | 0, _ => by simp [ofSum]
  | k + 1, hk => by
    have ih := of_sum_in (sc := sc) hh g k (by omega)
    have := hh k (by omega)
    simp only [ofSum]
    split <;> omega
theorem felt_at {l : Lot} (hok : l.Ok) {h : List Int} (hf : h ∈ felt l.bunches) : h.length = l.bunches.length ∧ ∀ b, b < l.bunches.length → 0 ≤ at_ h b ∧ at_ h b ≤ 12 := by
  have h1 := zKo hok hf
  refine ⟨h1.1, fun b hb => ?_⟩
  have hb2 : b < h.length := by omega
  have h2 := h1.2 _ (List.getElem_mem hb2)
  have e : at_ h b = h[b] := by unfold at_; simp [List.getD, hb2]
  rw [e]; omega
theorem at_g {h : List Int} {b : Nat} (hb : b < h.length) : at_ h b = h[b] := by simp [at_, List.getD, hb]
end Go.Rt.Ha
/- Rows of cells, one of which is set anew. No conditions. -/
namespace Go.Rt
theorem setMany_mid : ∀ (vs old pre post : List Value), old.length = vs.length → setMany (pre ++ (old ++ post)) pre.length vs = pre ++ (vs ++ post)
  | [], [], pre, post, _ => by simp [setMany]
  | v :: vs, o :: old, pre, post, h => by
    have ih := setMany_mid vs old (pre ++ [v]) post (by simpa using h)
    simp only [setMany]
    rw [List.set_append_right _ _ (Nat.le_refl _), Nat.sub_self, List.cons_append, List.set_cons_zero]
    simpa using ih
  | [], _ :: _,_,_, h => by simp at h
  | _ :: _, [], _,_, h => by simp at h
theorem zHt {rows : List (List Value)} {sz : Nat} (hr : ∀ row ∈ rows, row.length = sz) : rows.flatten.length = rows.length * sz := by
  induction rows with
  | nil => simp
  | cons r l ih => rw [List.flatten_cons, List.length_append, hr r (.head _), ih fun x hx => hr x (.tail _ hx), List.length_cons, Nat.succ_mul]; omega
theorem setMany_rows {rows : List (List Value)} {sz i n : Nat} {row cs : List Value} (hn : rows.length = n) (hr : ∀ row ∈ rows, row.length = sz) (hi : i < rows.length) (hrow : row.length = sz) (h : cs.take (n * sz) = rows.flatten) : (setMany cs (i * sz) row).take (n * sz) = (rows.set i row).flatten := by
  have hpre : (rows.take i).flatten.length = i * sz := by
    rw [zHt (fun x hx => hr x (List.mem_of_mem_take hx)), List.length_take, Nat.min_eq_left (by omega)]
  have e1 : rows.flatten = (rows.take i).flatten ++ (rows[i] ++ (rows.drop (i + 1)).flatten) := by
    rw [← List.flatten_cons, ← List.drop_eq_getElem_cons hi, ← List.flatten_append, List.take_append_drop]
  have e2 : cs = (rows.take i).flatten ++ (rows[i] ++ ((rows.drop (i + 1)).flatten ++ cs.drop (n * sz))) := by
    have := List.take_append_drop (n * sz) cs
    rw [h, e1] at this
    simpa [List.append_assoc] using this.symm
  have e3 := setMany_mid row rows[i] (rows.take i).flatten ((rows.drop (i + 1)).flatten ++ cs.drop (n * sz)) (by rw [hrow, hr _ (List.getElem_mem hi)])
  rw [← e2, hpre] at e3
  rw [e3]
  have e4 : (rows.set i row).flatten = (rows.take i).flatten ++ (row ++ (rows.drop (i + 1)).flatten) := by
    rw [List.set_eq_take_append_cons_drop, if_pos hi, List.flatten_append, List.flatten_cons]
  have e5 : (rows.set i row).flatten.length = n * sz := by
    rw [zHt, List.length_set, hn]
    intro x hx
    rcases List.mem_or_eq_of_mem_set hx with h | h
    · exact hr x h
    · rw [h]; exact hrow
  have e6 : (rows.take i).flatten ++ (row ++ ((rows.drop (i + 1)).flatten ++ cs.drop (n * sz))) = (rows.set i row).flatten ++ cs.drop (n * sz) := by rw [e4]; simp [List.append_assoc]
  rw [e6, List.take_append_of_le_length (Nat.le_of_eq e5.symm), List.take_of_length_le (Nat.le_of_eq e5)]
theorem setMany_len : ∀ (vs cs : List Value) (off : Nat), (setMany cs off vs).length = cs.length
  | [], cs, off => rfl
  | v :: vs, cs, off => by simp only [setMany]; rw [setMany_len vs]; simp
theorem own_put {α : Type} {row : α → List Value} {t : TypeId} {sz b cap n i : Nat} (hr : ∀ x, (row x).length = sz) {cs : List Value} {l : List α} {y : α} (hi : i < l.length) (hn : l.length = n) (h1 : n ≤ cap) (h2 : cap ≤ maxLen) (h3 : cs.length = cap * sz) (h : cs.take (n * sz) = (l.map row).flatten) : Own (.slice (some ⟨b, 0, none⟩) n cap) t sz n ((l.set i y).map row).flatten [(b, blk t (setMany cs (i * sz) (row y)))] := by
  have h4 : ∀ x ∈ l.map row, x.length = sz := by intro x hx; obtain ⟨q, _, rfl⟩ := List.mem_map.1 hx; exact hr q
  refine ⟨?_, .inr ⟨b, cap, _, rfl, rfl, h1, h2, by rw [setMany_len]; exact h3, ?_⟩⟩
  · rw [zHt (sz := sz) (by intro x hx; obtain ⟨q, _, rfl⟩ := List.mem_map.1 hx; exact hr q), List.length_map, List.length_set, hn]
  · have := setMany_rows (row := row y) (i := i) (by simpa using hn) h4 (by simpa using hi) (hr y) h
    rw [this, List.map_set]
end Go.Rt
/- The walking engine, part 17: a number of sixteen bits as an int. No conditions. -/
namespace Go.Rt
open Go.RowKit
variable {P : Program} {n : Nat} {ρ : Nat → Value} {ds : List Deferred} {w : World} {d : Option Tmp} {ty : TypeId} {p : String} {e : Array Edge} {g : Option (Nat × Bool)}
theorem y_u16int {s t : TypeId} {x : Operand} {a : Int} (hs : (P.underlying s).isSome = true) (ht : P.underlying t = some (.int .i64)) (ho : okO n x = true) (hx : ev ρ x = .int .u16 a) (h0 : 0 ≤ a) (h1 : a ≤ 65535) :
    Yd P (A n ρ ds) ⟨d, .convert s t x, ty, p, e, g⟩ w (.int .i64 a) := by
  obtain ⟨q, hq⟩ := Option.isSome_iff_exists.1 hs
  have hw : IntKind.i64.wrap a = a := zFt (by omega) (by omega)
  simp [Yd, execOp, zB3 ho, hx, Sem.run_bind, convert, run_underlying hq, run_underlying ht, Result.andThen, Conv.intToInt, hw]
end Go.Rt
set_option maxRecDepth 20000
namespace Go.Proofs.Hn
open Go.Proofs.Tryz
open Go.Rt Go.Rt.Ha
attribute [local irreducible] WL WC Con Yd At Ats Sl Agree DW
theorem Try_HLc_fb6 (x0 : Int) (w : World) : (Instr.buildSlice 43 1 [(0, .int .i64 x0)].toArray).run Tryz.prog w = .ok (.slice (some ⟨w.heap.size, 0, none⟩) 1 1) (w.alloc (Go.Rt.blk 3 [.int .i64 x0])) := by kernel_rfl
theorem c39 {w0 w : World} {F : List (Nat × Obj)} (l : Lot) (p : At3) (hm : LIn w0 F l p) (hok : l.Ok) (ax : Option Addr) (cx : Nat) (x : List Int) (hxl : x.length ≤ 9223372036854775807) (hxs : Sl w0 F ax 1 (x.map fun n => [Value.int .u8 n])) (hxr : ∀ z ∈ x, 0 ≤ z ∧ z ≤ 255) (hs : St w0 w F) :
  Con Tryz.prog 39 [.agg (l.cells p).toArray, .slice ax x.length cx] w fun v w' => ∃ B a c, v = .slice a (scTo l x l.bunches.length).length c ∧ Sl w0 B a 1 ((scTo l x l.bunches.length).map fun x => [Value.int .i64 x]) ∧ St w0 w' (B ++ F) := by
  refine zAt (n := 38) func39 rfl rfl (zNl rfl) ?_
  obtain ⟨ag, cg, ab, cb, ac, cc⟩ := p
  have hlb := hok.lb
  refine zAe (fun K2 g7 => (zAa (zCa (v := .agg #[.slice _ _ _, .slice _ _ _, .slice _ _ _]) (cs := [_,_,_]) zAc rfl rfl rfl hs (fun b3 w4 g8 => ?_))))
  refine zA5 rfl rfl (zAd (zAb (g7 _ _ (zAe (fun K7 g9 => (zAa (zA5 rfl rfl (zAd (zAb (g9 _ _ (zAe (fun K9 ga => (zAe (fun gt gb => (zAa (zA5 rfl rfl ?_))))))))))))))))
  refine zAd (zAb (gb _ _ (zAw ?_)))
  refine zBs [5,6,7,8,9,10,11,12,13,14,15,16,17,18,19,20,21,22,23,24,25,26,27,28,29,30,31,32,33,34,35,36] [5,6] (fun k vs w => ∃ (i : Nat) (v : Value) (B : List (Nat × Obj)), vs = [v, .int .i64 i] ∧ i ≤ l.bunches.length ∧ k = l.bunches.length - i ∧ Rt.Own v 3 1 (scTo l x i).length (iv (scTo l x i)) B ∧ St w0 w ((b3, blk 26 (l.cells ⟨ag, cg, ab, cb, ac, cc⟩)) :: (B ++ F))) (l.bunches.length) ?_ ?_
  ·
   exact ⟨0, _, [], rfl, by omega, by omega, zEm 3 1, g8⟩
  intro k vs μ gu hI gv gc
  obtain ⟨i, v, B, rfl, hia, rfl, hown, hs⟩ := hI
  refine zAe (fun gw gd => (zAe (fun gx gf => (zAa (zAz rfl rfl (w_p (zAf (o := 1) (i := 1) underlying26 rfl sizeOf23 rfl rfl rfl) rfl (w_p (zAj isAgg23 hs rfl rfl (zAk (i := 0) (vs := [_]) rfl rfl)) rfl ?_)))))))
  refine w_p (zA8 underlying23 rfl rfl) rfl (w_p (zBw rfl rfl rfl rfl) rfl (zAd (zAb (gf _ _ (zAu rfl rfl (fun g4 => ?_) (fun g4 => ?_))))))
  ·
   try simp only [zS] at g4
   refine zAs (zAb (gd _ _ (zAe (fun gy gg => (zAw ?_)))))
   refine zAe (fun gz gh => ?_)
   have hi2 : i < l.bunches.length := by omega
   obtain ⟨bx, ox, hbx, hx1⟩ := zG7 hm.b hi2
   subst hbx
   have hbu := hok.bunch _ (List.getElem_mem hi2)
   have hti := turn_in hxr i
   have hsl := sc_len l x i
   have hr0 := Int.emod_nonneg (turnOf x i) (show (l.bunches[i]'hi2).shi - (l.bunches[i]'hi2).slo + 1 ≠ 0 by omega)
   have hr1 := Int.emod_lt_of_pos (turnOf x i) (show 0 < (l.bunches[i]'hi2).shi - (l.bunches[i]'hi2).slo + 1 by omega)
   refine zAa (w_p (zAf (o := 1) (i := 1) underlying26 rfl sizeOf23 rfl rfl rfl) rfl (w_p (zAj isAgg23 hs rfl rfl (zAk (i := 0) (vs := [_]) rfl rfl)) rfl (zAz rfl rfl (w_p (zA3 underlying23 sizeOf65 rfl rfl rfl rfl (i := _) rfl (by omega)) rfl ?_))))
   refine w_p (zAf (o := 2) (i := 1) underlying65 rfl sizeOf46 rfl rfl rfl) rfl (w_p (zA4 (vs := [_,_]) isAgg46 sizeOf46 hs.tail.drop rfl rfl (show Ats _ _ _ _ [_,_] from Ats.part hx1 2 2)) rfl (zBf (cs := [_,_]) zAc zeroValue46 rfl hs (fun gi gA gj => ?_)))
   refine zA6 (i := 0) (v := .agg #[.int _ _, .int _ _]) (vs := [_,_]) zAc sizeOf46 rfl rfl rfl rfl rfl (by simp [Value.oneCell']) gj rfl (zNl rfl) (fun gB gk => ?_)
   refine zAd (zAb (gh _ _ (w_drawD (C0 := fun w => St w0 w _) (C := fun w => ∃ B9 : List (Nat × Obj), St w0 w ((gi, blk 46 [.int .i64 (l.bunches[i]'hi2).slo, .int .i64 (l.bunches[i]'hi2).shi]) :: (b3, blk 26 (l.cells ⟨ag, cg, some ⟨bx, ox, none⟩, cb, ac, cc⟩)) :: (B9 ++ F))) [] [(0,0),(1,0),(2,1),(3,0),(4,0),(6,0),(7,1),(8,0),(9,1),(10,0),(11,0),(5,2),(12,0),(13,0),(14,2),(15,2),(16,0)] zCb (zEn (by kernel_rfl)) gk (fun _ h => ⟨_, h⟩) (fun _ h => h.drew) (fun gC g0 => ?_))))
   refine d_w rfl (fun _ => zAi (v := v) rfl rfl) rfl ?_
   refine d_w rfl (fun _ => zAf (o := 0) (i := 0) underlying46 rfl sizeOf3 rfl rfl rfl) rfl ?_
   refine zEo rfl zAc rfl ⟨_, g0⟩ (fun _ ⟨B9, hq⟩ => (zAj isAgg3 hq rfl rfl (zAk (i := 0) (vs := [_]) rfl rfl))) ?_
   refine d_w rfl (fun _ => zAi (v := .slice _ _ _) rfl rfl) rfl ?_
   refine d_w rfl (fun _ => zA2 rfl rfl) rfl ?_
   refine d_w rfl (fun _ => zAf (o := 1) (i := 1) underlying46 rfl sizeOf3 rfl rfl rfl) rfl ?_
   refine zEo rfl zAc rfl ⟨_, g0⟩ (fun _ ⟨B9, hq⟩ => (zAj isAgg3 hq rfl rfl (zAk (i := 0) (vs := [_]) rfl rfl))) ?_
   refine d_w rfl (fun _ => zAf (o := 0) (i := 0) underlying46 rfl sizeOf3 rfl rfl rfl) rfl ?_
   refine zEo rfl zAc rfl ⟨_, g0⟩ (fun _ ⟨B9, hq⟩ => (zAj isAgg3 hq rfl rfl (zAk (i := 0) (vs := [_]) rfl rfl))) ?_
   refine d_w rfl (fun _ => zE0 rfl rfl rfl rfl (by omega) (by omega)) rfl ?_
   refine d_w rfl (fun _ => zBg rfl rfl rfl rfl (by omega) (by omega)) rfl ?_
   refine zCq rfl ?_
   refine zAr zAc call73 rfl rfl rfl rfl (c73 _ _ x hxl hxs.app.cons.cons hxr i g0) ?_
   rintro _ gE ⟨rfl, g5⟩
   refine zAd (qn ⟨⟨_, g5⟩, ?_⟩)
   refine d_w rfl (fun _ => y_rem rfl rfl rfl rfl (by omega) (by omega)) rfl ?_
   refine d_w rfl (fun _ => zBg rfl rfl rfl rfl (by omega) (by omega)) rfl ?_
   refine zCq rfl ?_
   refine zBb (ps := [(0, _)]) (pv := [(0, .int _ _)]) (cs := [_]) zAc rfl rfl (fun w => Try_HLc_fb6 _ w) g5 (fun gF gG g6 => ?_)
   refine zAd (qn ⟨⟨_, g6.tail⟩, ?_⟩)
   refine zCq rfl ?_
   refine zCk (X := (_ :: _ :: _ :: [])) (B := B) (rows := [[_]]) (sz := 1) (bytes := 8) zAc underlying43 zDb rfl rfl rfl rfl rfl rfl rfl rfl rfl g6 hown (zBt (i := 0) rfl (by simp) rfl) rfl (by simp) (by simp [Value.oneCell']) (by simp only [maxLen]; omega) (by omega) (fun gm gH gn gq g3 => ?_)
   replace g3 := (show St _ _ (_ :: _ :: _ :: gn ++ (F)) from g3)
   refine zAd (qn ⟨⟨_, g3.tail⟩, ?_⟩)
   refine d_w rfl (fun _ => zAo (v := gm) rfl rfl) rfl ?_
   refine zCf ?_
   refine zAl (zAb (gg _ _ (zAa (zAz rfl rfl (w_p (zBg rfl rfl rfl rfl (by omega) (by omega)) rfl (zBe rfl rfl (zAd (zAb (gc _ _ (nxI (l.bunches.length - (i + 1)) (by omega) ?_))))))))))
   exact ⟨i + 1, _,_, rfl, by omega, rfl, by rw [show scTo l x (i + 1) = scTo l x i ++ [(l.bunches[i]'hi2).slo + turnOf x i % ((l.bunches[i]'hi2).shi - (l.bunches[i]'hi2).slo + 1)] from by simp only [scTo, scOf, zIx hi2]]; exact zE3 gq, g3.tail.tail⟩
  try simp only [zS] at g4
  refine zBl (zAm (zAm (zA0 (zAb (ga _ _ (zAe (fun gI gr => (zAa (w_p (zAi (v := v) rfl rfl) rfl (w_p (zAo (v := v) rfl rfl) rfl ?_))))))))))
  refine zAd (zAb (gr _ _ (zAy (zA1 (l := [.tmp 4]) (vs := [_]) rfl ⟨⟨rfl, show _ = (v : Value) from rfl⟩, trivial⟩ ?_))))
  have hil : i = l.bunches.length := by omega
  subst hil
  obtain ⟨aS, cS, rfl, hsg, _, _⟩ := zGg (w0 := w0) hown
  exact ⟨B, aS, cS, rfl, hsg, hs.tail⟩

end Go.Proofs.Hn
