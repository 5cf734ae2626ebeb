/- Own texts of this claim, joined. No conditions. -/
import GoSem.Core.Value
import Derived.Test.YtpbchcophgpchaaGreatHTopGradeda
import Derived.Test.YtpbchcophgpchaaGreatHTopGradedb
import Derived.Test.YtpbchcophgpchaaGreatHTopGradedc
import Derived.Test.YtpbchcophgpchaaGreatHTopGradedd
import Derived.Test.YtpbchcophgpchaaGreatHTopGradede
set_option linter.unusedVariables false
set_option linter.unusedSimpArgs false
set_option maxRecDepth 20000
namespace Go.Proofs.Hn
open Go.Proofs.Tryz
open Go.Rt Go.Rt.Ha
attribute [local irreducible] WL WC Con Yd At Ats Sl Agree DW
theorem Try_HS_fb3 (x0 : Int) (x1 : Int) (w : World) : (Instr.build 28 [(0, .int .i64 x0), (1, .int .i64 x1)].toArray).run Tryz.prog w = .ok (.agg #[.int .i64 x0, .int .i64 x1]) w := by kernel_rfl
theorem Try_HS_fb4 (x0 : ByteArray) (x1 : Int) (x2 : Int) (w : World) : (Instr.build 57 [(0, .string x0), (1, .int .i64 x1), (2, .int .i64 x2)].toArray).run Tryz.prog w = .ok (.agg #[.string x0, .int .i64 x1, .int .i64 x2]) w := by kernel_rfl
theorem Try_HS_fb5 (x0 : ByteArray) (x1 : Int) (x2 : Int) (x3 : ByteArray) (x4 : Int) (x5 : Int) (x6 : ByteArray) (x7 : Int) (x8 : Int) (w : World) : (Instr.buildSlice 22 3 [(0, .agg #[.string x0, .int .i64 x1, .int .i64 x2]), (1, .agg #[.string x3, .int .i64 x4, .int .i64 x5]), (2, .agg #[.string x6, .int .i64 x7, .int .i64 x8])].toArray).run Tryz.prog w = .ok (.slice (some ⟨w.heap.size, 0, none⟩) 3 3) (w.alloc (Go.Rt.blk 57 [.string x0, .int .i64 x1, .int .i64 x2, .string x3, .int .i64 x4, .int .i64 x5, .string x6, .int .i64 x7, .int .i64 x8])) := by kernel_rfl
theorem Try_HS_fb6 (x0 : Int) (x1 : Int) (w : World) : (Instr.build 61 [(0, .agg #[.int .i64 x0, .int .i64 x1])].toArray).run Tryz.prog w = .ok (.agg #[.int .i64 x0, .int .i64 x1, .int .i64 0, .int .i64 0]) w := by kernel_rfl
theorem Try_HS_fb7 (x0 : Int) (x1 : Int) (x2 : Int) (x3 : Int) (w : World) : (Instr.build 61 [(0, .agg #[.int .i64 x0, .int .i64 x1]), (1, .agg #[.int .i64 x2, .int .i64 x3])].toArray).run Tryz.prog w = .ok (.agg #[.int .i64 x0, .int .i64 x1, .int .i64 x2, .int .i64 x3]) w := by kernel_rfl
theorem Try_HS_fb8 (x0 : Int) (x1 : Int) (x2 : Int) (x3 : Int) (x4 : Int) (x5 : Int) (x6 : Int) (x7 : Int) (x8 : Int) (x9 : Int) (x10 : Int) (x11 : Int) (x12 : Int) (x13 : Int) (x14 : Int) (x15 : Int) (w : World) : (Instr.buildSlice 23 4 [(0, .agg #[.int .i64 x0, .int .i64 x1, .int .i64 x2, .int .i64 x3]), (1, .agg #[.int .i64 x4, .int .i64 x5, .int .i64 x6, .int .i64 x7]), (2, .agg #[.int .i64 x8, .int .i64 x9, .int .i64 x10, .int .i64 x11]), (3, .agg #[.int .i64 x12, .int .i64 x13, .int .i64 x14, .int .i64 x15])].toArray).run Tryz.prog w = .ok (.slice (some ⟨w.heap.size, 0, none⟩) 4 4) (w.alloc (Go.Rt.blk 61 [.int .i64 x0, .int .i64 x1, .int .i64 x2, .int .i64 x3, .int .i64 x4, .int .i64 x5, .int .i64 x6, .int .i64 x7, .int .i64 x8, .int .i64 x9, .int .i64 x10, .int .i64 x11, .int .i64 x12, .int .i64 x13, .int .i64 x14, .int .i64 x15])) := by kernel_rfl
theorem Try_HS_fb9 (x0 : Int) (x1 : Int) (w : World) : (Instr.build 63 [(0, .int .i64 x0), (1, .int .i64 x1)].toArray).run Tryz.prog w = .ok (.agg #[.int .i64 x0, .int .i64 x1]) w := by kernel_rfl
theorem Try_HS_fb10 (x0 : Int) (x1 : Int) (w : World) : (Instr.buildSlice 24 1 [(0, .agg #[.int .i64 x0, .int .i64 x1])].toArray).run Tryz.prog w = .ok (.slice (some ⟨w.heap.size, 0, none⟩) 1 1) (w.alloc (Go.Rt.blk 63 [.int .i64 x0, .int .i64 x1])) := by kernel_rfl
theorem Try_info63 : Tryz.prog.info? 63 = some Tryz.t63 := by kernel_rfl
theorem Try_HS_fb12 (x0 : Option Addr) (l0 c0 : Nat) (x1 : Option Addr) (l1 c1 : Nat) (x2 : Option Addr) (l2 c2 : Nat) (w : World) : (Instr.build 26 [(0, .slice x0 l0 c0), (1, .slice x1 l1 c1), (2, .slice x2 l2 c2)].toArray).run Tryz.prog w = .ok (.agg #[.slice x0 l0 c0, .slice x1 l1 c1, .slice x2 l2 c2]) w := by kernel_rfl
theorem Try_flat28 : flatInts Tryz.prog 28 2 = true := by kernel_rfl
theorem Try_HS_fb14 (x0 : Int) (x1 : Int) (x2 : Int) (w : World) : (Instr.buildSlice 43 3 [(0, .int .i64 x0), (1, .int .i64 x1), (2, .int .i64 x2)].toArray).run Tryz.prog w = .ok (.slice (some ⟨w.heap.size, 0, none⟩) 3 3) (w.alloc (Go.Rt.blk 3 [.int .i64 x0, .int .i64 x1, .int .i64 x2])) := by kernel_rfl
theorem Try_HS_fb15 (x0 : Int) (w : World) : (Instr.buildSlice 43 1 [(0, .int .i64 x0)].toArray).run Tryz.prog w = .ok (.slice (some ⟨w.heap.size, 0, none⟩) 1 1) (w.alloc (Go.Rt.blk 3 [.int .i64 x0])) := by kernel_rfl
theorem Try_HS_fb16 (x0 : Int) (x1 : Int) (w : World) : (Instr.buildSlice 43 2 [(0, .int .i64 x0), (1, .int .i64 x1)].toArray).run Tryz.prog w = .ok (.slice (some ⟨w.heap.size, 0, none⟩) 2 2) (w.alloc (Go.Rt.blk 3 [.int .i64 x0, .int .i64 x1])) := by kernel_rfl
theorem ats_of {w0 w : World} {L : List (Nat × Obj)} {i b : Nat} {t : TypeId} {cs vs : List Value} (hs : St w0 w L) (hi : L[i]? = some (b, blk t cs)) (h : (cs.drop 0).take vs.length = vs) : Ats w0 L b 0 vs := zAj hi h
theorem gen_Z {w0 w : World} {L : List (Nat × Obj)} (hs : St w0 w L) : ∃ Z, Z = L ∧ St w0 w Z := ⟨L, rfl, hs⟩
theorem con_true {k : FuncId} {args : List Value} {w : World} {x : Bool} {S : World → Prop} (h : Con Tryz.prog k args w fun v w' => v = .bool x ∧ S w') (hx : x = true) : Con Tryz.prog k args w fun v w' => v = .bool true ∧ S w' := by subst hx; exact h
theorem con_false {k : FuncId} {args : List Value} {w : World} {x : Bool} {S : World → Prop} (h : Con Tryz.prog k args w fun v w' => v = .bool x ∧ S w') (hx : x = false) : Con Tryz.prog k args w fun v w' => v = .bool false ∧ S w' := by subst hx; exact h
theorem own_rows {w0 : World} {v : Value} {t : TypeId} {sz n : Nat} {xs : List Value} {B : List (Nat × Obj)} {rows : List (List Value)} (h : Rt.Own v t sz n xs B) (hr : ∀ row ∈ rows, row.length = sz) (hn : rows.length = n) (hx : xs = rows.flatten) (h0 : 0 < n) : ∃ a c, v = .slice a n c ∧ Sl w0 B a sz rows ∧ n ≤ c := by
  obtain ⟨a, c, hv, hs⟩ := h.sl (w0 := w0) hr hn hx []
  rw [List.append_nil] at hs
  subst hn
  refine ⟨a, c, hv, hs, ?_⟩
  rcases h.2 with ⟨_, h3, _⟩ | ⟨b, cap, cs, h2, _, h4, _⟩
  · omega
  · rw [h2] at hv; injection hv with _ _ h5; omega
theorem crows_one (m : List Count) : ∀ row ∈ crows m, ∀ u ∈ row, u.oneCell' = true := by
  intro row hr u hu
  obtain ⟨c, _, rfl⟩ := List.mem_map.1 hr
  simp only [Count.cells, List.mem_cons, List.not_mem_nil, or_false] at hu
  rcases hu with rfl | rfl <;> rfl
theorem ex_lin {w0 : World} {B : List (Nat × Obj)} {m : List Count} {bb bg : Nat} {a : Option Addr} {c : Nat} (hm : m.length ≤ 1) (hc : Sl w0 B a 2 (crows (⟨3, 18⟩ :: m))) (hcc : 1 + m.length ≤ c) :
    LIn w0 ((bb, blk 61 (brows (exL m).bunches).flatten) :: (bg, blk 57 (grows (exL m).grades).flatten) :: B) (exL m) ⟨some ⟨bg, 0, none⟩, 3, some ⟨bb, 0, none⟩, 4, a, c⟩ where
  g := zBr (i := 1) rfl (by intro row h; obtain ⟨q, _, rfl⟩ := List.mem_map.1 h; rfl) rfl
  b := zBr (i := 0) rfl (by intro row h; obtain ⟨q, _, rfl⟩ := List.mem_map.1 h; rfl) rfl
  c := hc.cons.cons
  lg := by simp [exL]
  lb := by simp [exL]
  lc := by simp [exL]; omega
  cg := by simp [exL]
  cb := by simp [exL]
  cc := by simp [exL]; omega
  ng := by intro q hq; simp only [exL, List.mem_cons, List.not_mem_nil, or_false] at hq; rcases hq with rfl | rfl | rfl <;> (dsimp only; decide)
theorem c30 {w0 w : World} {F : List (Nat × Obj)} (x y : Int) (hs : St w0 w F) :
  Con Tryz.prog 30 [.int .i64 x, .int .i64 y] w fun v w' => v = .agg #[.int .i64 x, .int .i64 y] ∧ St w0 w' F := by
  refine zAw (n := 8) func30 rfl rfl (Nat.le_of_ble_eq_true rfl) ?_
  refine zAg (fun K2 hK1 => ?_)
  refine zAb (zA9 (cs := [_, _]) zAa zeroValue28 rfl hs (fun b3 w4 hs5 => ?_))
  refine zAf (zAd (hK1 _ _ ?_))
  refine zAg (fun K7 hK6 => ?_)
  refine zAb (w_p (zAe (v := .int _ _) rfl rfl) rfl ?_)
  refine w_p (zAe (v := .int _ _) rfl rfl) rfl ?_
  refine w_p (zBs (ps := [(0, _), (1, _)]) (pv := [(0, .int _ _), (1, .int _ _)]) rfl rfl (fun w => Try_HS_fb3 _ _ w)) rfl ?_
  refine zA5 (i := 0) (v := .agg #[.int _ _, .int _ _]) (vs := [_, _]) zAa sizeOf28 rfl rfl rfl rfl rfl (by simp [Value.oneCell']) hs5 rfl (Nat.le_of_ble_eq_true rfl) (fun w8 hs9 => ?_)
  refine zAf (zAd (hK6 _ _ ?_))
  refine zA2 (zA3 (l := [.cell 4 28]) (vs := [_]) rfl ⟨⟨rfl, _, rfl, zBx (vs := [_, _]) isAgg28 sizeOf28 hs9 (zAj (i := 0) (vs := [_, _]) rfl rfl)⟩, trivial⟩ ?_)
  exact ⟨rfl, hs9.tail⟩

theorem c23 {w0 w : World} {F : List (Nat × Obj)} (a : Option Addr) (c : Nat) (m : List Count) (hm : m.length ≤ 1) (ha : Sl w0 F a 2 (crows m)) (hn : a = none → c = 0) (hs : St w0 w F) :
  Con Tryz.prog 23 [.slice a m.length c] w fun v w' => ∃ p B, v = .agg ((exL m).cells p).toArray ∧ LIn w0 B (exL m) p ∧ St w0 w' (B ++ F) := by
  refine zAw (n := 24) func23 rfl rfl (Nat.le_of_ble_eq_true rfl) ?_
  refine zAg (fun K2 hK1 => ?_)
  refine zAb (zA9 (cs := [_, _, _]) zAa zeroValue26 rfl hs (fun b3 w4 hs5 => ?_))
  refine zAf (zAd (hK1 _ _ ?_))
  refine zAg (fun K7 hK6 => ?_)
  refine zAb (w_p (zBs (ps := [(0, _), (1, _), (2, _)]) (pv := [(0, .string _), (1, .int _ _), (2, .int _ _)]) rfl rfl (fun w => Try_HS_fb4 _ _ _ w)) rfl ?_)
  refine w_p (zBs (ps := [(0, _), (1, _), (2, _)]) (pv := [(0, .string _), (1, .int _ _), (2, .int _ _)]) rfl rfl (fun w => Try_HS_fb4 _ _ _ w)) rfl ?_
  refine w_p (zBs (ps := [(0, _), (1, _), (2, _)]) (pv := [(0, .string _), (1, .int _ _), (2, .int _ _)]) rfl rfl (fun w => Try_HS_fb4 _ _ _ w)) rfl ?_
  refine zBh (ps := [(0, _), (1, _), (2, _)]) (pv := [(0, .agg #[.string _, .int _ _, .int _ _]), (1, .agg #[.string _, .int _ _, .int _ _]), (2, .agg #[.string _, .int _ _, .int _ _])]) (cs := [_, _, _, _, _, _, _, _, _]) zAa rfl rfl (fun w => Try_HS_fb5 _ _ _ _ _ _ _ _ _ w) hs5 (fun b8 w9 hs10 => ?_)
  refine zAt zAa call30 rfl rfl rfl rfl (c30 _ _ hs10) ?_
  rintro _ w12 ⟨rfl, hs13⟩
  refine w_p (zBs (ps := [(0, _)]) (pv := [(0, .agg #[.int _ _, .int _ _])]) rfl rfl (fun w => Try_HS_fb6 _ _ w)) rfl ?_
  refine zAt zAa call30 rfl rfl rfl rfl (c30 _ _ hs13) ?_
  rintro _ w15 ⟨rfl, hs16⟩
  refine zAt zAa call30 rfl rfl rfl rfl (c30 _ _ hs16) ?_
  rintro _ w18 ⟨rfl, hs19⟩
  refine w_p (zBs (ps := [(0, _), (1, _)]) (pv := [(0, .agg #[.int _ _, .int _ _]), (1, .agg #[.int _ _, .int _ _])]) rfl rfl (fun w => Try_HS_fb7 _ _ _ _ w)) rfl ?_
  refine zAt zAa call30 rfl rfl rfl rfl (c30 _ _ hs19) ?_
  rintro _ w21 ⟨rfl, hs22⟩
  refine zAt zAa call30 rfl rfl rfl rfl (c30 _ _ hs22) ?_
  rintro _ w24 ⟨rfl, hs25⟩
  refine w_p (zBs (ps := [(0, _), (1, _)]) (pv := [(0, .agg #[.int _ _, .int _ _]), (1, .agg #[.int _ _, .int _ _])]) rfl rfl (fun w => Try_HS_fb7 _ _ _ _ w)) rfl ?_
  refine zAt zAa call30 rfl rfl rfl rfl (c30 _ _ hs25) ?_
  rintro _ w27 ⟨rfl, hs28⟩
  refine zAt zAa call30 rfl rfl rfl rfl (c30 _ _ hs28) ?_
  rintro _ w30 ⟨rfl, hs31⟩
  refine w_p (zBs (ps := [(0, _), (1, _)]) (pv := [(0, .agg #[.int _ _, .int _ _]), (1, .agg #[.int _ _, .int _ _])]) rfl rfl (fun w => Try_HS_fb7 _ _ _ _ w)) rfl ?_
  refine zBh (ps := [(0, _), (1, _), (2, _), (3, _)]) (pv := [(0, .agg #[.int _ _, .int _ _, .int _ _, .int _ _]), (1, .agg #[.int _ _, .int _ _, .int _ _, .int _ _]), (2, .agg #[.int _ _, .int _ _, .int _ _, .int _ _]), (3, .agg #[.int _ _, .int _ _, .int _ _, .int _ _])]) (cs := [_, _, _, _, _, _, _, _, _, _, _, _, _, _, _, _]) zAa rfl rfl (fun w => Try_HS_fb8 _ _ _ _ _ _ _ _ _ _ _ _ _ _ _ _ w) hs31 (fun b32 w33 hs34 => ?_)
  refine w_p (zBs (ps := [(0, _), (1, _)]) (pv := [(0, .int _ _), (1, .int _ _)]) rfl rfl (fun w => Try_HS_fb9 _ _ w)) rfl ?_
  refine zBh (ps := [(0, _)]) (pv := [(0, .agg #[.int _ _, .int _ _])]) (cs := [_, _]) zAa rfl rfl (fun w => Try_HS_fb10 _ _ w) hs34 (fun b35 w36 hs37 => ?_)
  refine w_p (zAe (v := .slice _ _ _) rfl rfl) rfl ?_
  refine zCw (X := ([])) (B := [_]) (rows := crows m) (sz := 2) (bytes := 16) zAa underlying24 Try_info63 rfl rfl rfl rfl rfl rfl rfl rfl rfl hs37 (own_lit rfl (by simp [maxLen])) ha.cons.cons.cons.cons (by simp [crows]) hn (crows_one m) (by simp only [maxLen]; omega) (by omega) (fun v38 w39 B40 ho41 hs42 => ?_)
  replace hs42 := (show St _ _ (B40 ++ (_ :: _ :: _ :: F)) from hs42)
  have hs43 := St.perm (L := B40 ++ ([_, _, _] ++ F)) hs42 (zBe B40 [_, _, _] F)
  replace hs43 := (show St _ _ (_ :: _ :: _ :: (B40 ++ F)) from hs43)
  obtain ⟨aC, cC, rfl, hslC, hcC⟩ := own_rows (w0 := w0) (rows := crows (⟨3, 18⟩ :: m)) ho41 (by intro row h; obtain ⟨q, _, rfl⟩ := List.mem_map.1 h; rfl) (by simp [crows]; omega) (by simp [crows, Count.cells]) (by omega)
  refine w_p (zBs (ps := [(0, _), (1, _), (2, _)]) (pv := [(0, .slice _ _ _), (1, .slice _ _ _), (2, .slice _ _ _)]) rfl rfl (fun w => Try_HS_fb12 _ _ _ _ _ _ _ _ _ w)) rfl ?_
  refine zA5 (i := 2) (v := .agg #[.slice _ _ _, .slice _ _ _, .slice _ _ _]) (vs := [_, _, _]) zAa sizeOf26 rfl rfl rfl rfl rfl (by simp [Value.oneCell']) hs43 rfl (Nat.le_of_ble_eq_true rfl) (fun w44 hs45 => ?_)
  refine zAf (zAd (hK6 _ _ ?_))
  refine zA2 (zA3 (l := [.cell 2 26]) (vs := [_]) rfl ⟨⟨rfl, _, rfl, zBx (vs := [_, _, _]) isAgg26 sizeOf26 hs45 (zAj (i := 2) (vs := [_, _, _]) rfl rfl)⟩, trivial⟩ ?_)
  exact ⟨⟨_, 3, _, 4, aC, cC⟩, _ :: _ :: B40, by show _ = Value.agg #[_, _, .slice aC (exL m).counts.length cC]; rw [show (exL m).counts.length = 1 + m.length by simp [exL]; omega]; rfl, ex_lin hm hslC hcC, (St.perm (L := [_, _] ++ ([_] ++ (B40 ++ F))) hs45 (zBe [_, _] [_] _)).tail⟩

theorem c7 {w0 w : World} {F : List (Nat × Obj)}  (hs : St w0 w F) :
  Con Tryz.prog 7 [] w fun v w' => v = .bool true ∧ St w0 w' F := by
  refine zAw (n := 162) func7 rfl rfl (Nat.le_of_ble_eq_true rfl) ?_
  refine zAg (fun K2 hK1 => ?_)
  refine zAb (w_p (zAc (v := _) rfl rfl) rfl ?_)
  refine zAf (zAd (hK1 _ _ ?_))
  refine zAg (fun K4 hK3 => ?_)
  refine zAb (zAt zAa call23 rfl rfl rfl rfl (c23 none 0 [] (by decide) (Sl.nil _ _) (fun _ => rfl) hs) ?_)
  rintro _ w6 ⟨p1, L1, rfl, hq1, hs7⟩
  replace hs7 := (show St _ _ (L1 ++ (F)) from hs7)
  refine w_p (zBs (ps := [(0, _), (1, _)]) (pv := [(0, .int _ _), (1, .int _ _)]) rfl rfl (fun w => Try_HS_fb9 _ _ w)) rfl ?_
  refine zBh (ps := [(0, _)]) (pv := [(0, .agg #[.int _ _, .int _ _])]) (cs := [_, _]) zAa rfl rfl (fun w => Try_HS_fb10 _ _ w) hs7 (fun b8 w9 hs10 => ?_)
  refine zAt zAa call23 rfl rfl rfl rfl (c23 _ _ [⟨12, 13⟩] (by decide) (zBr (i := 0) (rows := [[_, _]]) rfl (by simp) rfl) (by simp) hs10) ?_
  rintro _ w12 ⟨p2, L2, rfl, hq2, hs13⟩
  replace hs13 := (show St _ _ (L2 ++ (_ :: L1 ++ (F))) from hs13)
  refine w_p (zBs (ps := [(0, _), (1, _)]) (pv := [(0, .int _ _), (1, .int _ _)]) rfl rfl (fun w => Try_HS_fb9 _ _ w)) rfl ?_
  refine zBh (ps := [(0, _)]) (pv := [(0, .agg #[.int _ _, .int _ _])]) (cs := [_, _]) zAa rfl rfl (fun w => Try_HS_fb10 _ _ w) hs13 (fun b14 w15 hs16 => ?_)
  refine zAt zAa call23 rfl rfl rfl rfl (c23 _ _ [⟨1, 8⟩] (by decide) (zBr (i := 0) (rows := [[_, _]]) rfl (by simp) rfl) (by simp) hs16) ?_
  rintro _ w18 ⟨p3, L3, rfl, hq3, hs19⟩
  replace hs19 := (show St _ _ (L3 ++ (_ :: L2 ++ (_ :: L1 ++ (F)))) from hs19)
  refine zA9 (cs := [_, _, _]) zAa zeroValue26 rfl hs19 (fun b20 w21 hs22 => ?_)
  refine zA9 (cs := [_, _, _]) zAa zeroValue26 rfl hs22 (fun b23 w24 hs25 => ?_)
  refine zA9 (cs := [_, _, _]) zAa zeroValue26 rfl hs25 (fun b26 w27 hs28 => ?_)
  refine zA5 (i := 2) (v := .agg #[.slice _ _ _, .slice _ _ _, .slice _ _ _]) (vs := [_, _, _]) zAa sizeOf26 rfl rfl rfl rfl rfl (by simp [Value.oneCell']) hs28 rfl (Nat.le_of_ble_eq_true rfl) (fun w29 hs30 => ?_)
  refine zA5 (i := 1) (v := .agg #[.slice _ _ _, .slice _ _ _, .slice _ _ _]) (vs := [_, _, _]) zAa sizeOf26 rfl rfl rfl rfl rfl (by simp [Value.oneCell']) hs30 rfl (Nat.le_of_ble_eq_true rfl) (fun w31 hs32 => ?_)
  refine zA5 (i := 0) (v := .agg #[.slice _ _ _, .slice _ _ _, .slice _ _ _]) (vs := [_, _, _]) zAa sizeOf26 rfl rfl rfl rfl rfl (by simp [Value.oneCell']) hs32 rfl (Nat.le_of_ble_eq_true rfl) (fun w33 hs34 => ?_)
  refine zAf (zAd (hK3 _ _ ?_))
  refine zAg (fun K36 hK35 => ?_)
  obtain ⟨Z, hZ, hsZ⟩ := gen_Z hs34
  have hP1 : Ats w0 Z b20 0 ((exL []).cells p1) := by rw [hZ]; exact zAj (i := 2) (vs := (exL []).cells p1) rfl rfl
  have hM1 : LIn w0 Z (exL []) p1 := by rw [hZ]; exact LIn.mono hq1 (fun w h => h.tail.tail.tail.drop.tail.drop.tail.front)
  have hP2 : Ats w0 Z b23 0 ((exL [⟨12, 13⟩]).cells p2) := by rw [hZ]; exact zAj (i := 1) (vs := (exL [⟨12, 13⟩]).cells p2) rfl rfl
  have hM2 : LIn w0 Z (exL [⟨12, 13⟩]) p2 := by rw [hZ]; exact LIn.mono hq2 (fun w h => h.tail.tail.tail.drop.tail.front)
  have hP3 : Ats w0 Z b26 0 ((exL [⟨1, 8⟩]).cells p3) := by rw [hZ]; exact zAj (i := 0) (vs := (exL [⟨1, 8⟩]).cells p3) rfl rfl
  have hM3 : LIn w0 Z (exL [⟨1, 8⟩]) p3 := by rw [hZ]; exact LIn.mono hq3 (fun w h => h.tail.tail.tail.front)
  refine zAb (w_p (zA6 (vs := [_, _, _]) isAgg26 sizeOf26 hsZ rfl rfl hP1) rfl ?_)
  refine zAt zAa call24 rfl rfl rfl rfl ((c24 (exL []) p1 hM1 0 hsZ).mono (fun v w' h => by rw [ex_hands1] at h; exact h)) ?_
  rintro _ w38 ⟨rfl, hs39⟩
  refine w_p (zAe (v := .tuple _) rfl rfl) rfl ?_
  refine w_p (zAq (v := .agg _) rfl rfl rfl) rfl ?_
  refine w_p (zAq (v := .int _ _) rfl rfl rfl) rfl ?_
  refine zA9 (cs := [_, _]) zAa zeroValue28 rfl hs39 (fun b40 w41 hs42 => ?_)
  refine zA5 (i := 0) (v := .agg #[.int _ _, .int _ _]) (vs := [_, _]) zAa sizeOf28 rfl rfl rfl rfl rfl (by simp [Value.oneCell']) hs42 rfl (Nat.le_of_ble_eq_true rfl) (fun w43 hs44 => ?_)
  refine w_p (zAc (v := .int _ _) rfl rfl) rfl ?_
  refine zAf (zAd (hK35 _ _ ?_))
  refine zAg (fun K46 hK45 => ?_)
  have hx4 := ats_of (i := 0) (vs := [_, _]) hs44 rfl rfl
  refine zAb (w_p (zA6 (vs := [_, _, _]) isAgg26 sizeOf26 hs44.tail rfl rfl hP1) rfl ?_)
  refine zAt zAa call25 rfl rfl rfl rfl ((c25 (exL []) p1 hM1.cons 2 hs44).mono (fun v w' h => by rw [ex_grade1] at h; exact h)) ?_
  rintro _ w48 ⟨B1, a1, c1, rfl, hr1, hs49⟩
  replace hs49 := (show St _ _ (B1 ++ (_ :: Z)) from hs49)
  refine w_p (zAe (v := .tuple _) rfl rfl) rfl ?_
  refine w_p (zAq (v := .slice _ _ _) rfl rfl rfl) rfl ?_
  refine w_p (zAq (v := .int _ _) rfl rfl rfl) rfl ?_
  refine w_p (zAc (v := .slice _ _ _) rfl rfl) rfl ?_
  refine w_p (zAc (v := .int _ _) rfl rfl) rfl ?_
  refine zAf (zAd (hK45 _ _ ?_))
  refine zAg (fun K51 hK50 => ?_)
  refine zAb (w_p (zA6 (vs := [_, _, _]) isAgg26 sizeOf26 hs49.drop.tail rfl rfl hP1) rfl ?_)
  refine zAt zAa call10 rfl rfl rfl rfl ((c10 (exL []) p1 hM1.cons.app 0 hs49).mono (fun v w' h => by rw [ex_total1] at h; exact h)) ?_
  rintro _ w53 ⟨rfl, hs54⟩
  refine w_p (zAe (v := .tuple _) rfl rfl) rfl ?_
  refine w_p (zAq (v := .agg _) rfl rfl rfl) rfl ?_
  refine w_p (zAq (v := .int _ _) rfl rfl rfl) rfl ?_
  refine zA9 (cs := [_, _]) zAa zeroValue28 rfl hs54 (fun b55 w56 hs57 => ?_)
  refine zA5 (i := 0) (v := .agg #[.int _ _, .int _ _]) (vs := [_, _]) zAa sizeOf28 rfl rfl rfl rfl rfl (by simp [Value.oneCell']) hs57 rfl (Nat.le_of_ble_eq_true rfl) (fun w58 hs59 => ?_)
  refine w_p (zAc (v := .int _ _) rfl rfl) rfl ?_
  refine zAf (zAd (hK50 _ _ ?_))
  refine zAg (fun K61 hK60 => ?_)
  have hx8 := ats_of (i := 0) (vs := [_, _]) hs59 rfl rfl
  refine zAb (w_p (zA6 (vs := [_, _, _]) isAgg26 sizeOf26 hs59.tail.drop.tail rfl rfl hP2) rfl ?_)
  refine zAt zAa call26 rfl rfl rfl rfl ((c26 (exL [⟨12, 13⟩]) p2 hM2.cons.app.cons hs59).mono (fun v w' h => by rw [ex_ref1] at h; exact h)) ?_
  rintro _ w63 ⟨B2, a2, c2, a3, c3, rfl, hr2, hr3, hs64⟩
  replace hs64 := (show St _ _ (B2 ++ (_ :: B1 ++ (_ :: Z))) from hs64)
  refine w_p (zAe (v := .tuple _) rfl rfl) rfl ?_
  refine w_p (zAq (v := .slice _ _ _) rfl rfl rfl) rfl ?_
  refine w_p (zAq (v := .slice _ _ _) rfl rfl rfl) rfl ?_
  refine w_p (zAq (v := .int _ _) rfl rfl rfl) rfl ?_
  refine w_p (zAc (v := .slice _ _ _) rfl rfl) rfl ?_
  refine w_p (zAc (v := .slice _ _ _) rfl rfl) rfl ?_
  refine w_p (zAc (v := .int _ _) rfl rfl) rfl ?_
  refine zAf (zAd (hK60 _ _ ?_))
  refine zAg (fun K66 hK65 => ?_)
  refine zAb (w_p (zA6 (vs := [_, _, _]) isAgg26 sizeOf26 hs64.drop.tail.drop.tail rfl rfl hP1) rfl ?_)
  refine zAt zAa call27 rfl rfl rfl rfl ((c27 (exL []) p1 hM1.cons.app.cons.app 1 18 hs64).mono (fun v w' h => by rw [ex_pick1] at h; exact h)) ?_
  rintro _ w68 ⟨B4, a4, c4, rfl, hr4, hs69⟩
  replace hs69 := (show St _ _ (B4 ++ (B2 ++ (_ :: B1 ++ (_ :: Z)))) from hs69)
  refine w_p (zAe (v := .tuple _) rfl rfl) rfl ?_
  refine w_p (zAq (v := .slice _ _ _) rfl rfl rfl) rfl ?_
  refine w_p (zAq (v := .int _ _) rfl rfl rfl) rfl ?_
  refine w_p (zAc (v := .slice _ _ _) rfl rfl) rfl ?_
  refine w_p (zAc (v := .int _ _) rfl rfl) rfl ?_
  refine zAf (zAd (hK65 _ _ ?_))
  refine zAg (fun K71 hK70 => ?_)
  refine zAb (w_p (zA6 (vs := [_, _, _]) isAgg26 sizeOf26 hs69.drop.drop.tail.drop.tail rfl rfl hP1) rfl ?_)
  refine zAt zAa call27 rfl rfl rfl rfl ((c27 (exL []) p1 hM1.cons.app.cons.app.app 1 19 hs69).mono (fun v w' h => by rw [ex_pick2] at h; exact h)) ?_
  rintro _ w73 ⟨B5, a5, c5, rfl, hr5, hs74⟩
  replace hs74 := (show St _ _ (B5 ++ (B4 ++ (B2 ++ (_ :: B1 ++ (_ :: Z))))) from hs74)
  refine w_p (zAe (v := .tuple _) rfl rfl) rfl ?_
  refine w_p (zAq (v := .slice _ _ _) rfl rfl rfl) rfl ?_
  refine w_p (zAq (v := .int _ _) rfl rfl rfl) rfl ?_
  refine w_p (zAc (v := .slice _ _ _) rfl rfl) rfl ?_
  refine w_p (zAc (v := .int _ _) rfl rfl) rfl ?_
  refine zAf (zAd (hK70 _ _ ?_))
  refine zAg (fun K76 hK75 => ?_)
  refine zAb (w_p (zA6 (vs := [_, _, _]) isAgg26 sizeOf26 hs74.drop.drop.drop.tail.drop.tail rfl rfl hP1) rfl ?_)
  refine zAt zAa call28 rfl rfl rfl rfl ((c28 (exL []) p1 hM1.cons.app.cons.app.app.app hs74).mono (fun v w' h => by rw [ex_next1] at h; exact h)) ?_
  rintro _ w78 ⟨rfl, hs79⟩
  refine w_p (zAe (v := .tuple _) rfl rfl) rfl ?_
  refine w_p (zAq (v := .int _ _) rfl rfl rfl) rfl ?_
  refine w_p (zAq (v := .int _ _) rfl rfl rfl) rfl ?_
  refine w_p (zAq (v := .int _ _) rfl rfl rfl) rfl ?_
  refine w_p (zAc (v := .int _ _) rfl rfl) rfl ?_
  refine w_p (zAc (v := .int _ _) rfl rfl) rfl ?_
  refine w_p (zAc (v := .int _ _) rfl rfl) rfl ?_
  refine zAf (zAd (hK75 _ _ ?_))
  refine zAg (fun K81 hK80 => ?_)
  refine zAb (w_p (zA6 (vs := [_, _, _]) isAgg26 sizeOf26 hs79.drop.drop.drop.tail.drop.tail rfl rfl hP3) rfl ?_)
  refine zAt zAa call29 rfl rfl rfl rfl ((c29 (exL [⟨1, 8⟩]) p3 hM3.cons.app.cons.app.app.app hs79).mono (fun v w' h => by rw [ex_wrong1] at h; exact h)) ?_
  rintro _ w83 ⟨B6, a6, c6, rfl, hr6, hs84⟩
  replace hs84 := (show St _ _ (B6 ++ (B5 ++ (B4 ++ (B2 ++ (_ :: B1 ++ (_ :: Z)))))) from hs84)
  refine w_p (zAe (v := .tuple _) rfl rfl) rfl ?_
  refine w_p (zAq (v := .slice _ _ _) rfl rfl rfl) rfl ?_
  refine w_p (zAq (v := .int _ _) rfl rfl rfl) rfl ?_
  refine w_p (zAc (v := .slice _ _ _) rfl rfl) rfl ?_
  refine w_p (zAc (v := .int _ _) rfl rfl) rfl ?_
  refine zAf (zAd (hK80 _ _ ?_))
  refine zAg (fun K86 hK85 => ?_)
  refine zAb (w_p (zA6 (vs := [_, _, _]) isAgg26 sizeOf26 hs84.drop.drop.drop.drop.tail.drop.tail rfl rfl hP3) rfl ?_)
  refine zAt zAa call24 rfl rfl rfl rfl ((c24 (exL [⟨1, 8⟩]) p3 hM3.cons.app.cons.app.app.app.app 0 hs84).mono (fun v w' h => by rw [ex_hands2] at h; exact h)) ?_
  rintro _ w88 ⟨rfl, hs89⟩
  refine w_p (zAe (v := .tuple _) rfl rfl) rfl ?_
  refine w_p (zAq (v := .agg _) rfl rfl rfl) rfl ?_
  refine w_p (zAq (v := .int _ _) rfl rfl rfl) rfl ?_
  refine zA9 (cs := [_, _]) zAa zeroValue28 rfl hs89 (fun b90 w91 hs92 => ?_)
  refine zA5 (i := 0) (v := .agg #[.int _ _, .int _ _]) (vs := [_, _]) zAa sizeOf28 rfl rfl rfl rfl rfl (by simp [Value.oneCell']) hs92 rfl (Nat.le_of_ble_eq_true rfl) (fun w93 hs94 => ?_)
  refine w_p (zAc (v := .int _ _) rfl rfl) rfl ?_
  refine zAf (zAd (hK85 _ _ ?_))
  refine zAg (fun K96 hK95 => ?_)
  refine zB7 [] [(0, 0), (1, 0), (2, 0), (3, 0), (4, 0), (5, 0), (6, 0), (7, 0), (8, 0), (9, 0), (10, 0), (11, 0), (12, 0), (13, 0), (14, 0), (15, 0), (16, 0), (17, 0), (18, 0), (19, 0), (20, 0), (21, 0), (22, 0), (23, 0), (24, 0), (25, 0), (26, 0), (27, 0), (28, 0), (29, 0), (30, 0), (31, 0), (32, 0), (33, 0), (34, 0), (35, 1), (36, 2), (37, 0), (38, 0), (39, 0), (40, 0), (41, 2), (42, 2), (43, 0), (44, 0), (45, 1), (46, 2), (47, 0), (48, 0), (49, 0), (50, 0), (51, 2), (52, 2), (53, 0), (54, 0), (55, 0), (56, 2), (57, 2), (58, 0), (59, 0), (60, 0), (61, 2), (62, 2), (63, 0), (64, 0), (65, 0), (66, 0), (67, 0), (68, 0), (69, 0), (70, 0), (71, 0), (72, 0), (73, 0), (74, 2), (75, 2), (76, 0), (77, 0), (78, 2), (79, 0), (80, 0), (81, 2), (82, 0), (83, 0), (84, 0)] zBu (drawOK_of (by kernel_rfl)) hs94 (fun w97 hs98 => ?_)
  refine zAp rfl zAa rfl (fun _ => (zAe (v := .int _ _) rfl rfl)) ?_
  refine zAp rfl zAa rfl (fun _ => (zBy rfl rfl rfl rfl)) ?_
  refine zAp rfl zAa rfl (fun _ => (zAe (v := .bool _) rfl rfl)) ?_
  refine zAp rfl (zAn rfl rfl rfl) rfl (fun _ => (zAe (v := .int _ _) rfl rfl)) ?_
  refine zAp rfl (zAn rfl rfl rfl) rfl (fun _ => (zBy rfl rfl rfl rfl)) ?_
  refine zAp rfl zAa rfl (fun _ => (zA0 (v := .bool _) rfl rfl rfl rfl)) ?_
  refine zAp rfl zAa rfl (fun _ => (zAe (v := .bool _) rfl rfl)) ?_
  refine zAp rfl (zAn rfl rfl rfl) rfl (fun _ => (zAe (v := .int _ _) rfl rfl)) ?_
  refine zAp rfl (zAn rfl rfl rfl) rfl (fun _ => (zBy rfl rfl rfl rfl)) ?_
  refine zAp rfl zAa rfl (fun _ => (zA0 (v := .bool _) rfl rfl rfl rfl)) ?_
  refine zAp rfl zAa rfl (fun _ => (zAe (v := .bool _) rfl rfl)) ?_
  refine zAp rfl (zAn rfl rfl rfl) rfl (fun _ => (zAe (v := .int _ _) rfl rfl)) ?_
  refine zAp rfl (zAn rfl rfl rfl) rfl (fun _ => (zBy rfl rfl rfl rfl)) ?_
  refine zAp rfl zAa rfl (fun _ => (zA0 (v := .bool _) rfl rfl rfl rfl)) ?_
  refine zAp rfl zAa rfl (fun _ => (zAe (v := .bool _) rfl rfl)) ?_
  refine zAp rfl (zAn rfl rfl rfl) rfl (fun _ => (zAe (v := .int _ _) rfl rfl)) ?_
  refine zAp rfl (zAn rfl rfl rfl) rfl (fun _ => (zBy rfl rfl rfl rfl)) ?_
  refine zAp rfl zAa rfl (fun _ => (zA0 (v := .bool _) rfl rfl rfl rfl)) ?_
  refine zAp rfl zAa rfl (fun _ => (zAe (v := .bool _) rfl rfl)) ?_
  refine zAp rfl (zAn rfl rfl rfl) rfl (fun _ => (zAe (v := .int _ _) rfl rfl)) ?_
  refine zAp rfl (zAn rfl rfl rfl) rfl (fun _ => (zBy rfl rfl rfl rfl)) ?_
  refine zAp rfl zAa rfl (fun _ => (zA0 (v := .bool _) rfl rfl rfl rfl)) ?_
  refine zAp rfl zAa rfl (fun _ => (zAe (v := .bool _) rfl rfl)) ?_
  refine zAp rfl (zAn rfl rfl rfl) rfl (fun _ => (zAe (v := .int _ _) rfl rfl)) ?_
  refine zAp rfl (zAn rfl rfl rfl) rfl (fun _ => (zBy rfl rfl rfl rfl)) ?_
  refine zAp rfl zAa rfl (fun _ => (zA0 (v := .bool _) rfl rfl rfl rfl)) ?_
  refine zAp rfl zAa rfl (fun _ => (zAe (v := .bool _) rfl rfl)) ?_
  refine zAp rfl (zAn rfl rfl rfl) rfl (fun _ => (zAe (v := .int _ _) rfl rfl)) ?_
  refine zAp rfl (zAn rfl rfl rfl) rfl (fun _ => (zBy rfl rfl rfl rfl)) ?_
  refine zAp rfl zAa rfl (fun _ => (zA0 (v := .bool _) rfl rfl rfl rfl)) ?_
  refine zAp rfl zAa rfl (fun _ => (zAe (v := .bool _) rfl rfl)) ?_
  refine zAp rfl (zAn rfl rfl rfl) rfl (fun _ => (zAe (v := .int _ _) rfl rfl)) ?_
  refine zAp rfl (zAn rfl rfl rfl) rfl (fun _ => (zBy rfl rfl rfl rfl)) ?_
  refine zAp rfl zAa rfl (fun _ => (zA0 (v := .bool _) rfl rfl rfl rfl)) ?_
  refine zAp rfl zAa rfl (fun _ => (zAe (v := .bool _) rfl rfl)) ?_
  refine zBa rfl (zAn rfl rfl rfl) rfl hs98 (fun _ hq => (zA6 (vs := [_, _]) isAgg28 sizeOf28 hq.tail.drop.drop.drop.drop.tail.drop rfl rfl hx4)) ?_
  refine zCl rfl ?_
  refine zAt (zAn rfl rfl rfl) call30 rfl rfl rfl rfl (c30 _ _ hs98) ?_
  rintro _ w100 ⟨rfl, hs101⟩
  refine zAf (qn ⟨hs101, ?_⟩)
  refine zAp rfl (zAn rfl rfl rfl) rfl (fun _ => (y_eqFlat (l := [_, _]) (m := [_, _]) eqGuardType28 Try_flat28 (by first | omega | rfl | (simp only [List.length_map, List.length_set, List.length_append, List.length_take, List.length_drop, List.length_replicate, List.length_cons, List.length_nil] <;> omega)) (by first | omega | rfl | (simp only [List.length_map, List.length_set, List.length_append, List.length_take, List.length_drop, List.length_replicate, List.length_cons, List.length_nil] <;> omega)) rfl rfl rfl rfl rfl rfl)) ?_
  refine zAp rfl zAa rfl (fun _ => (zA0 (v := .bool _) rfl rfl rfl rfl)) ?_
  refine zAp rfl zAa rfl (fun _ => (zAe (v := .bool _) rfl rfl)) ?_
  refine zDk (fun h102 => ?_) (fun h102 => ?_)
  ·
   try simp only [zS] at h102
   refine zAp rfl (zAn rfl rfl rfl) rfl (fun _ => (zAe (v := .slice _ _ _) rfl rfl)) ?_
   refine zCl rfl ?_
   refine zBh (ps := [(0, _), (1, _), (2, _)]) (pv := [(0, .int _ _), (1, .int _ _), (2, .int _ _)]) (cs := [_, _, _]) (zAn rfl rfl rfl) rfl rfl (fun w => Try_HS_fb14 _ _ _ w) hs101 (fun b103 w104 hs105 => ?_)
   refine zAf (qn ⟨hs105.tail, ?_⟩)
   refine zCl rfl ?_
   refine zAt (zAn rfl rfl rfl) call31 rfl rfl rfl rfl (con_true (c31 _ _ [-1, 1, 2] [-1, 1, 2] _ _ (by decide) hr1.top.cons.app.app.app.app.cons.cons (zBr (i := 0) (rows := [[_], [_], [_]]) rfl (by simp) rfl) hs105) (by decide)) ?_
   rintro _ w107 ⟨rfl, hs108⟩
   refine zAf (qn ⟨hs108.tail, ?_⟩)
   refine zAp rfl zAa rfl (fun _ => (zA0 (v := .bool _) rfl rfl rfl rfl)) ?_
   refine zAp rfl zAa rfl (fun _ => (zAe (v := .bool _) rfl rfl)) ?_
   refine zBa rfl (zAn rfl rfl rfl) rfl hs108.tail (fun _ hq => (zA6 (vs := [_, _]) isAgg28 sizeOf28 hq.tail.drop.drop.drop.drop rfl rfl hx8)) ?_
   refine zCl rfl ?_
   refine zAt (zAn rfl rfl rfl) call30 rfl rfl rfl rfl (c30 _ _ hs108) ?_
   rintro _ w110 ⟨rfl, hs111⟩
   refine zAf (qn ⟨hs111.tail, ?_⟩)
   refine zAp rfl (zAn rfl rfl rfl) rfl (fun _ => (y_eqFlat (l := [_, _]) (m := [_, _]) eqGuardType28 Try_flat28 (by first | omega | rfl | (simp only [List.length_map, List.length_set, List.length_append, List.length_take, List.length_drop, List.length_replicate, List.length_cons, List.length_nil] <;> omega)) (by first | omega | rfl | (simp only [List.length_map, List.length_set, List.length_append, List.length_take, List.length_drop, List.length_replicate, List.length_cons, List.length_nil] <;> omega)) rfl rfl rfl rfl rfl rfl)) ?_
   refine zAp rfl zAa rfl (fun _ => (zA0 (v := .bool _) rfl rfl rfl rfl)) ?_
   refine zAp rfl zAa rfl (fun _ => (zAe (v := .bool _) rfl rfl)) ?_
   refine zDk (fun h112 => ?_) (fun h112 => ?_)
   ·
    try simp only [zS] at h112
    refine zAp rfl (zAn rfl rfl rfl) rfl (fun _ => (zAe (v := .slice _ _ _) rfl rfl)) ?_
    refine zCl rfl ?_
    refine zBh (ps := [(0, _)]) (pv := [(0, .int _ _)]) (cs := [_]) (zAn rfl rfl rfl) rfl rfl (fun w => Try_HS_fb15 _ w) hs111 (fun b113 w114 hs115 => ?_)
    refine zAf (qn ⟨hs115.tail.tail, ?_⟩)
    refine zCl rfl ?_
    refine zAt (zAn rfl rfl rfl) call31 rfl rfl rfl rfl (con_true (c31 _ _ [3] [3] _ _ (by decide) hr2.top.app.app.app.cons.cons.cons (zBr (i := 0) (rows := [[_]]) rfl (by simp) rfl) hs115) (by decide)) ?_
    rintro _ w117 ⟨rfl, hs118⟩
    refine zAf (qn ⟨hs118.tail.tail, ?_⟩)
    refine zAp rfl zAa rfl (fun _ => (zA0 (v := .bool _) rfl rfl rfl rfl)) ?_
    refine zAp rfl zAa rfl (fun _ => (zAe (v := .bool _) rfl rfl)) ?_
    refine zAp rfl (zAn rfl rfl rfl) rfl (fun _ => (zAe (v := .slice _ _ _) rfl rfl)) ?_
    refine zCl rfl ?_
    refine zBh (ps := [(0, _), (1, _)]) (pv := [(0, .int _ _), (1, .int _ _)]) (cs := [_, _]) (zAn rfl rfl rfl) rfl rfl (fun w => Try_HS_fb16 _ _ w) hs118 (fun b119 w120 hs121 => ?_)
    refine zAf (qn ⟨hs121.tail.tail.tail, ?_⟩)
    refine zCl rfl ?_
    refine zAt (zAn rfl rfl rfl) call31 rfl rfl rfl rfl (con_true (c31 _ _ [2, 3] [2, 3] _ _ (by decide) hr3.top.app.app.app.cons.cons.cons.cons (zBr (i := 0) (rows := [[_], [_]]) rfl (by simp) rfl) hs121) (by decide)) ?_
    rintro _ w123 ⟨rfl, hs124⟩
    refine zAf (qn ⟨hs124.tail.tail.tail, ?_⟩)
    refine zAp rfl zAa rfl (fun _ => (zA0 (v := .bool _) rfl rfl rfl rfl)) ?_
    refine zAp rfl zAa rfl (fun _ => (zAe (v := .bool _) rfl rfl)) ?_
    refine zAp rfl (zAn rfl rfl rfl) rfl (fun _ => (zAe (v := .slice _ _ _) rfl rfl)) ?_
    refine zCl rfl ?_
    refine zBh (ps := [(0, _), (1, _)]) (pv := [(0, .int _ _), (1, .int _ _)]) (cs := [_, _]) (zAn rfl rfl rfl) rfl rfl (fun w => Try_HS_fb16 _ _ w) hs124 (fun b125 w126 hs127 => ?_)
    refine zAf (qn ⟨hs127.tail.tail.tail.tail, ?_⟩)
    refine zCl rfl ?_
    refine zAt (zAn rfl rfl rfl) call31 rfl rfl rfl rfl (con_true (c31 _ _ [0, 1] [0, 1] _ _ (by decide) hr4.top.app.app.cons.cons.cons.cons.cons (zBr (i := 0) (rows := [[_], [_]]) rfl (by simp) rfl) hs127) (by decide)) ?_
    rintro _ w129 ⟨rfl, hs130⟩
    refine zAf (qn ⟨hs130.tail.tail.tail.tail, ?_⟩)
    refine zAp rfl zAa rfl (fun _ => (zA0 (v := .bool _) rfl rfl rfl rfl)) ?_
    refine zAp rfl zAa rfl (fun _ => (zAe (v := .bool _) rfl rfl)) ?_
    refine zAp rfl (zAn rfl rfl rfl) rfl (fun _ => (zAe (v := .int _ _) rfl rfl)) ?_
    refine zAp rfl (zAn rfl rfl rfl) rfl (fun _ => (zBy rfl rfl rfl rfl)) ?_
    refine zAp rfl zAa rfl (fun _ => (zA0 (v := .bool _) rfl rfl rfl rfl)) ?_
    refine zAp rfl zAa rfl (fun _ => (zAe (v := .bool _) rfl rfl)) ?_
    refine zAp rfl (zAn rfl rfl rfl) rfl (fun _ => (zAe (v := .int _ _) rfl rfl)) ?_
    refine zAp rfl (zAn rfl rfl rfl) rfl (fun _ => (zBy rfl rfl rfl rfl)) ?_
    refine zAp rfl zAa rfl (fun _ => (zA0 (v := .bool _) rfl rfl rfl rfl)) ?_
    refine zAp rfl zAa rfl (fun _ => (zAe (v := .bool _) rfl rfl)) ?_
    refine zAp rfl (zAn rfl rfl rfl) rfl (fun _ => (zAe (v := .slice _ _ _) rfl rfl)) ?_
    refine zCl rfl ?_
    refine zBh (ps := [(0, _)]) (pv := [(0, .int _ _)]) (cs := [_]) (zAn rfl rfl rfl) rfl rfl (fun w => Try_HS_fb15 _ w) hs130 (fun b131 w132 hs133 => ?_)
    refine zAf (qn ⟨hs133.tail.tail.tail.tail.tail, ?_⟩)
    refine zCl rfl ?_
    refine zAt (zAn rfl rfl rfl) call31 rfl rfl rfl rfl (con_true (c31 _ _ [1] [1] _ _ (by decide) hr6.top.cons.cons.cons.cons.cons.cons (zBr (i := 0) (rows := [[_]]) rfl (by simp) rfl) hs133) (by decide)) ?_
    rintro _ w135 ⟨rfl, hs136⟩
    refine zAf (qn ⟨hs136.tail.tail.tail.tail.tail, ?_⟩)
    refine zAp rfl zAa rfl (fun _ => (zA0 (v := .bool _) rfl rfl rfl rfl)) ?_
    refine zAp rfl zAa rfl (fun _ => (zAe (v := .bool _) rfl rfl)) ?_
    refine zCl rfl ?_
    refine zAt (zAn rfl rfl rfl) call32 rfl rfl rfl rfl (con_true (c32 _ (by decide) hs136) (by decide)) ?_
    rintro _ w138 ⟨rfl, hs139⟩
    refine zAf (qn ⟨hs139.tail.tail.tail.tail.tail, ?_⟩)
    refine zAp rfl zAa rfl (fun _ => (zA0 (v := .bool _) rfl rfl rfl rfl)) ?_
    refine zAp rfl zAa rfl (fun _ => (zAe (v := .bool _) rfl rfl)) ?_
    refine zCl rfl ?_
    refine zAt (zAn rfl rfl rfl) call32 rfl rfl rfl rfl (con_false (c32 _ (by decide) hs139) (by decide)) ?_
    rintro _ w141 ⟨rfl, hs142⟩
    refine zAf (qn ⟨hs142.tail.tail.tail.tail.tail, ?_⟩)
    refine zAp rfl (zAn rfl rfl rfl) rfl (fun _ => (zDc rfl rfl)) ?_
    refine zAp rfl zAa rfl (fun _ => (zA0 (v := .bool _) rfl rfl rfl rfl)) ?_
    refine zAp rfl zAa rfl (fun _ => (zAc (v := .bool _) rfl rfl)) ?_
    refine zB1 ?_
    refine zAd (hK95 _ _ ?_)
    refine zA2 (zA3 (l := [.tmp 0]) (vs := [_]) rfl ⟨⟨rfl, (rfl : _ = Value.bool _)⟩, trivial⟩ ?_)
    exact ⟨rfl, (St.cast hZ hs142.tail.tail.tail.tail.tail.tail.drop.drop.drop.drop.tail.drop.tail).tail.tail.tail.drop.tail.drop.tail.drop⟩
   exfalso; simp at h112
  exfalso; simp at h102

end Go.Proofs.Hn
set_option maxRecDepth 20000
namespace Go.Proofs.Hn
open Go.Proofs.Tryz
open Go.Rt Go.Rt.Ha
attribute [local irreducible] WL WC Con Yd At Ats Sl Agree DW
theorem Try_HR_fb2 (x0 : ByteArray) (w : World) : (Instr.buildSlice 54 1 [(0, .string x0)].toArray).run Tryz.prog w = .ok (.slice (some ⟨w.heap.size, 0, none⟩) 1 1) (w.alloc (Go.Rt.blk 9 [.string x0])) := by kernel_rfl
theorem Try_info9 : Tryz.prog.info? 9 = some Tryz.t9 := by kernel_rfl
def gradeOwn (bf : List Grade) (g : Grade) : Int := if out 1 12 g.hands || out 0 9 g.scars then 7 else if notBelow bf g then 2 else 0
def freshE (s : ByteArray) (l : List ByteArray) : Int := if nmOk s = false then 6 else if has l s then 5 else 0
theorem zB5 {bf : List Grade} {g : Grade} (h : freshE g.name (bf.map (·.name)) = 0) : gradeE bf g = gradeOwn bf g := by
  unfold gradeE gradeOwn nameE; unfold freshE at h
  cases h1 : nmOk g.name <;> cases h2 : has (bf.map (·.name)) g.name <;> simp [h1, h2] at h ⊢
theorem zCo {bf : List Grade} {g : Grade} (h : ¬ freshE g.name (bf.map (·.name)) = 0) : gradeE bf g = freshE g.name (bf.map (·.name)) := by
  unfold gradeE nameE; unfold freshE at h ⊢
  cases h1 : nmOk g.name <;> cases h2 : has (bf.map (·.name)) g.name <;> simp [h1, h2] at h ⊢
theorem names_snocG {l : List Grade} {i : Nat} (hi : i < l.length) : ((l.take i).map (·.name)).map Value.string ++ [Value.string l[i].name] = ((l.take (i + 1)).map (·.name)).map Value.string := by
  rw [List.take_succ_eq_append_getElem hi]; simp only [List.map_append, List.map_cons, List.map_nil]
theorem names_lenG {l : List Grade} {i : Nat} (hi : i ≤ l.length) : ((l.take i).map (·.name)).length = i := by simp; omega
theorem zCs {lo hi n : Int} (h : lo ≤ n ∧ n ≤ hi) : out lo hi n = false := by unfold out; rw [Bool.or_eq_false_iff]; simp; omega
theorem zDi {lo hi n : Int} (h : ¬ (lo ≤ n ∧ n ≤ hi)) : out lo hi n = true := by unfold out; rw [Bool.or_eq_true]; simp; omega
theorem chk_g0 {l : Lot} (h : ¬ (1 ≤ (l.grades.length : Int) ∧ (l.grades.length : Int) ≤ 4)) : check l = (1, 0, 3) := by unfold check failE; rw [zDi h]; simp
theorem chk_g {l : Lot} {i e : Int} (h : 1 ≤ (l.grades.length : Int) ∧ (l.grades.length : Int) ≤ 4) (h1 : firstE gradeE [] 0 l.grades = (i, e)) (he : ¬ e = 0) : check l = (1, i, e) := by unfold check failE; rw [zCs h]; simp [h1, he]
theorem chk_b0 {l : Lot} (h : 1 ≤ (l.grades.length : Int) ∧ (l.grades.length : Int) ≤ 4) (h1 : firstE gradeE [] 0 l.grades = (0, 0)) (h2 : (6 : Int) < l.bunches.length) : check l = (2, 0, 3) := by unfold check failE; rw [zCs h, zCh, decide_eq_true h2]; simp [h1]
theorem chk_b {l : Lot} {i e : Int} (h : 1 ≤ (l.grades.length : Int) ∧ (l.grades.length : Int) ≤ 4) (h1 : firstE gradeE [] 0 l.grades = (0, 0)) (h2 : (l.bunches.length : Int) ≤ 6) (h3 : firstE bunchE [] 0 l.bunches = (i, e)) (he : ¬ e = 0) : check l = (2, i, e) := by unfold check failE; rw [zCs h, zCh, decide_eq_false (by omega)]; simp [h1, h3, he]
theorem chk_c0 {l : Lot} (h : 1 ≤ (l.grades.length : Int) ∧ (l.grades.length : Int) ≤ 4) (h1 : firstE gradeE [] 0 l.grades = (0, 0)) (h2 : (l.bunches.length : Int) ≤ 6) (h3 : firstE bunchE [] 0 l.bunches = (0, 0)) (h4 : (4 : Int) < l.counts.length) : check l = (3, 0, 3) := by unfold check failE; rw [zCs h, zCh, decide_eq_false (by omega), zCh, decide_eq_true h4]; simp [h1, h3]
theorem chk_c {l : Lot} {x : Int × Int} (h : 1 ≤ (l.grades.length : Int) ∧ (l.grades.length : Int) ≤ 4) (h1 : firstE gradeE [] 0 l.grades = (0, 0)) (h2 : (l.bunches.length : Int) ≤ 6) (h3 : firstE bunchE [] 0 l.bunches = (0, 0)) (h4 : (l.counts.length : Int) ≤ 4) (h5 : firstE (countE l.bunches.length) [] 0 l.counts = x) (he : ¬ x.2 = 0) : check l = (3, x.1, x.2) := by unfold check failE; rw [zCs h, zCh, decide_eq_false (by omega), zCh, decide_eq_false (by omega)]; simp [h1, h3, h5, he]
theorem chk_ok {l : Lot} (h : 1 ≤ (l.grades.length : Int) ∧ (l.grades.length : Int) ≤ 4) (h1 : firstE gradeE [] 0 l.grades = (0, 0)) (h2 : (l.bunches.length : Int) ≤ 6) (h3 : firstE bunchE [] 0 l.bunches = (0, 0)) (h4 : (l.counts.length : Int) ≤ 4) (h5 : firstE (countE l.bunches.length) [] 0 l.counts = (0, 0)) : check l = (0, 0, 0) := by unfold check failE; rw [zCs h, zCh, decide_eq_false (by omega), zCh, decide_eq_false (by omega)]; simp [h1, h3, h5]
theorem count_1 {n : Nat} {bf : List Count} {c : Count} (h : ¬ (1 ≤ c.bits ∧ c.bits ≤ allN n)) : countE n bf c = 4 := by rw [allN_eq] at h; unfold countE; rw [zDi h]; rfl
theorem count_2 {n : Nat} {bf : List Count} {c : Count} (h : 1 ≤ c.bits ∧ c.bits ≤ allN n) (h2 : ¬ (0 ≤ c.hands ∧ c.hands ≤ 72)) : countE n bf c = 7 := by rw [allN_eq] at h; unfold countE; rw [zCs h, zDi h2]; rfl
theorem count_3 {n : Nat} {bf : List Count} {c : Count} (h : 1 ≤ c.bits ∧ c.bits ≤ allN n) (h2 : 0 ≤ c.hands ∧ c.hands ≤ 72) : countE n bf c = 0 := by rw [allN_eq] at h; unfold countE; rw [zCs h, zCs h2]; rfl
theorem allN_in : ∀ n, n ≤ 6 → 0 ≤ allN n ∧ allN n ≤ 63 := by
  intro n h
  have := pow_le n h
  have h2 := pow64 h
  rw [allN_eq]
  have h3 : (1 : Int) ≤ 2 ^ n := by have h5 := pow_all h; omega
  omega
theorem ends_ok {a b lo hi : Int} (h : ends a b lo hi = 0) : lo ≤ a ∧ a ≤ hi ∧ lo ≤ b ∧ b ≤ hi ∧ a ≤ b := by
  unfold ends out at h
  split at h
  · cases h
  · rename_i h1
    simp only [Bool.or_eq_true, decide_eq_true_eq, not_or] at h1
    split at h
    · cases h
    · omega
theorem allN_succ (n : Nat) : allN (n + 1) = 2 * allN n + 1 := by simp only [allN]
theorem c15 {w0 w : World} {F : List (Nat × Obj)} (l : Lot) (p : At3) (hm : LIn w0 F l p) (i : Nat) (hi : i < l.grades.length) (hs : St w0 w F) :
  Con Tryz.prog 15 [.agg (l.cells p).toArray, .int .i64 (i : Int)] w fun v w' => v = .int .i64 (gradeOwn (l.grades.take i) l.grades[i]) ∧ St w0 w' F := by
  refine zAw (n := 47) func15 rfl rfl (Nat.le_of_ble_eq_true rfl) ?_
  obtain ⟨ag, cg, ab, cb, ac, cc⟩ := p
  have hlg := hm.lg
  obtain ⟨bx, ox, hbx, hx⟩ := sl_grows hm.g hi
  subst hbx
  refine zAg (fun K2 hK1 => ?_)
  refine zAb (zB3 (v := .agg #[.slice _ _ _, .slice _ _ _, .slice _ _ _]) (cs := [_, _, _]) zAa rfl rfl rfl hs (fun b3 w4 hs5 => ?_))
  refine w_p (zAc (v := _) rfl rfl) rfl ?_
  refine zAf (zAd (hK1 _ _ ?_))
  refine zAg (fun K7 hK6 => ?_)
  refine zAb (w_p (zAh (o := 0) (i := 0) underlying26 rfl sizeOf22 rfl rfl rfl) rfl ?_)
  refine w_p (zAk isAgg22 hs5 rfl rfl (zAj (i := 0) (vs := [_]) rfl rfl)) rfl ?_
  refine w_p (zAe (v := .int _ _) rfl rfl) rfl ?_
  refine w_p (zA7 underlying22 sizeOf57 rfl rfl rfl rfl (i := _) rfl (by omega)) rfl ?_
  refine w_p (zA6 (vs := [_, _, _]) isAgg57 sizeOf57 hs5.tail rfl rfl hx) rfl ?_
  refine zA9 (cs := [_, _, _]) zAa zeroValue57 rfl hs5 (fun b8 w9 hs10 => ?_)
  refine zA5 (i := 0) (v := .agg #[.string _, .int _ _, .int _ _]) (vs := [_, _, _]) zAa sizeOf57 rfl rfl rfl rfl rfl (by simp [Value.oneCell']) hs10 rfl (Nat.le_of_ble_eq_true rfl) (fun w11 hs12 => ?_)
  refine zAf (zAd (hK6 _ _ ?_))
  refine zAg (fun K14 hK13 => ?_)
  refine zAg (fun K16 hK15 => ?_)
  refine zAb (w_p (zAh (o := 1) (i := 1) underlying57 rfl sizeOf3 rfl rfl rfl) rfl ?_)
  refine w_p (zAk isAgg3 hs12 rfl rfl (zAj (i := 0) (vs := [_]) rfl rfl)) rfl ?_
  refine zAt zAa call12 rfl rfl rfl rfl (c12 _ _ _ hs12) ?_
  rintro _ w18 ⟨rfl, hs19⟩
  refine w_p (zDc rfl rfl) rfl ?_
  refine w_p (zAe (v := .bool _) rfl rfl) rfl ?_
  refine zBi (fun h20 => ?_) (fun h20 => ?_)
  ·
   try simp only [zS] at h20
   refine zAi rfl rfl rfl ?_
   refine zAi rfl rfl rfl ?_
   refine zAi rfl rfl rfl ?_
   refine zAi rfl rfl rfl ?_
   refine w_p (zA0 (v := _) rfl rfl rfl rfl) rfl ?_
   refine zAf (zAd (hK15 _ _ ?_))
   refine zCg rfl rfl ?_
   refine zAg (fun K22 hK21 => ?_)
   refine zAb (w_p (zAc (v := _) rfl rfl) rfl ?_)
   refine zAf (zAd (hK21 _ _ ?_))
   refine zA2 (zAm (zA3 (l := [.tmp 4]) (vs := [_]) rfl ⟨⟨rfl, (rfl : _ = Value.int _ _)⟩, trivial⟩ ?_))
   first
     | exact ⟨congrArg (Value.int .i64) (by unfold gradeOwn; rw [zDi (by assumption)]; simp), hs19.tail.tail⟩
     | exact ⟨congrArg (Value.int .i64) (by unfold gradeOwn; rw [zDi (n := l.grades[i].scars) (by assumption)]; simp), hs19.tail.tail⟩
     | (have hi0 : i = 0 := by omega
        subst hi0
        exact ⟨congrArg (Value.int .i64) (by unfold gradeOwn; rw [zCs (by assumption), zCs (by assumption)]; rfl), hs19.tail.tail⟩)
     | (have hnb := zDb h0 (show i ≤ l.grades.length by omega) l.grades[i]
        exact ⟨congrArg (Value.int .i64) (by unfold gradeOwn; rw [zCs (by assumption), zCs (by assumption), hnb]; simp [h20] <;> omega), hs19.tail.tail⟩)
  try simp only [zS] at h20
  refine w_y rfl rfl rfl (zAh (o := 2) (i := 2) underlying57 rfl sizeOf3 rfl rfl rfl) rfl ?_
  refine w_y rfl rfl rfl (zAk isAgg3 hs19 rfl rfl (zAj (i := 0) (vs := [_]) rfl rfl)) rfl ?_
  refine zAt (zAn rfl rfl rfl) call12 rfl rfl rfl rfl (c12 _ _ _ hs19) ?_
  rintro _ w24 ⟨rfl, hs25⟩
  refine w_y rfl rfl rfl (zDc rfl rfl) rfl ?_
  refine w_p (zBb (v := .bool _) rfl rfl rfl rfl) rfl ?_
  refine zAf (zAd (hK15 _ _ ?_))
  refine zAz rfl rfl (fun h26 => ?_) (fun h26 => ?_)
  ·
   try simp only [zS] at h26
   refine zAg (fun K28 hK27 => ?_)
   refine zAb (w_p (zAc (v := _) rfl rfl) rfl ?_)
   refine zAf (zAd (hK27 _ _ ?_))
   refine zA2 (zAm (zA3 (l := [.tmp 4]) (vs := [_]) rfl ⟨⟨rfl, (rfl : _ = Value.int _ _)⟩, trivial⟩ ?_))
   first
     | exact ⟨congrArg (Value.int .i64) (by unfold gradeOwn; rw [zDi (by assumption)]; simp), hs25.tail.tail⟩
     | exact ⟨congrArg (Value.int .i64) (by unfold gradeOwn; rw [zDi (n := l.grades[i].scars) (by assumption)]; simp), hs25.tail.tail⟩
     | (have hi0 : i = 0 := by omega
        subst hi0
        exact ⟨congrArg (Value.int .i64) (by unfold gradeOwn; rw [zCs (by assumption), zCs (by assumption)]; rfl), hs25.tail.tail⟩)
     | (have hnb := zDb h0 (show i ≤ l.grades.length by omega) l.grades[i]
        exact ⟨congrArg (Value.int .i64) (by unfold gradeOwn; rw [zCs (by assumption), zCs (by assumption), hnb]; simp [h20, h26] <;> omega), hs25.tail.tail⟩)
  try simp only [zS] at h26
  refine zAx (zAd (hK13 _ _ ?_))
  refine zAg (fun K30 hK29 => ?_)
  refine zAg (fun K32 hK31 => ?_)
  refine zB7 [] [(0, 0), (1, 0), (2, 0), (3, 0), (4, 1), (5, 0), (6, 1), (7, 0), (8, 0), (9, 0), (10, 0), (11, 1), (12, 0), (13, 0), (14, 0), (15, 1), (16, 0), (17, 1), (18, 0), (19, 0), (20, 0), (21, 0), (22, 1), (23, 0), (24, 0), (25, 0)] zBu (by kernel_rfl) hs25 (fun w33 hs34 => ?_)
  refine zAp rfl zAa rfl (fun _ => (zAe (v := .int _ _) rfl rfl)) ?_
  refine zAp rfl zAa rfl (fun _ => (y_gtr rfl rfl rfl rfl)) ?_
  refine zAp rfl zAa rfl (fun _ => (zAe (v := .bool _) rfl rfl)) ?_
  refine zDk (fun h35 => ?_) (fun h35 => ?_)
  ·
   try simp only [zS] at h35
   have h0 : 0 < i := by omega
   obtain ⟨by_, oy, hby, hy⟩ := sl_grows hm.g (show i - 1 < l.grades.length by omega)
   cases hby
   refine zAp rfl (zAn rfl rfl rfl) rfl (fun _ => (zAh (o := 1) (i := 1) underlying57 rfl sizeOf3 rfl rfl rfl)) ?_
   refine zBa rfl (zAn rfl rfl rfl) rfl hs34 (fun _ hq => (zAk isAgg3 hq rfl rfl (zAj (i := 0) (vs := [_]) rfl rfl))) ?_
   refine zAp rfl (zAn rfl rfl rfl) rfl (fun _ => (zAh (o := 0) (i := 0) underlying26 rfl sizeOf22 rfl rfl rfl)) ?_
   refine zBa rfl (zAn rfl rfl rfl) rfl hs34 (fun _ hq => (zAk isAgg22 hq rfl rfl (zAj (i := 1) (vs := [_]) rfl rfl))) ?_
   refine zAp rfl (zAn rfl rfl rfl) rfl (fun _ => (zAe (v := .int _ _) rfl rfl)) ?_
   refine zAp rfl (zAn rfl rfl rfl) rfl (fun _ => (y_sub rfl rfl rfl rfl (by omega) (by omega))) ?_
   refine zAp rfl (zAn rfl rfl rfl) rfl (fun _ => (zA7 underlying22 sizeOf57 rfl rfl rfl rfl (i := i - 1) (by omega) (by omega))) ?_
   refine zAp rfl (zAn rfl rfl rfl) rfl (fun _ => (zAh (o := 1) (i := 1) underlying57 rfl sizeOf3 rfl rfl rfl)) ?_
   refine zBa rfl (zAn rfl rfl rfl) rfl hs34 (fun _ hq => (zAk isAgg3 hq.tail.tail rfl rfl (show Ats _ _ _ _ [_] from Ats.part hy 1 1))) ?_
   refine zAp rfl (zAn rfl rfl rfl) rfl (fun _ => (y_geq rfl rfl rfl rfl)) ?_
   refine zAp rfl (zAn rfl rfl rfl) rfl (fun _ => (zAe (v := .bool _) rfl rfl)) ?_
   refine zDk (fun h36 => ?_) (fun h36 => ?_)
   ·
    try simp only [zS] at h36
    refine zBg rfl rfl rfl rfl ?_
    refine zCj rfl rfl rfl rfl hs34 ?_
    refine zBg rfl rfl rfl rfl ?_
    refine zCj rfl rfl rfl rfl hs34 ?_
    refine zBg rfl rfl rfl rfl ?_
    refine zBg rfl rfl rfl rfl ?_
    refine zBg rfl rfl rfl rfl ?_
    refine zBg rfl rfl rfl rfl ?_
    refine zCj rfl rfl rfl rfl hs34 ?_
    refine zBg rfl rfl rfl rfl ?_
    refine zAp rfl (zAn rfl rfl rfl) rfl (fun _ => (zA0 (v := _) rfl rfl rfl rfl)) ?_
    refine zAp rfl zAa rfl (fun _ => (zA0 (v := .bool _) rfl rfl rfl rfl)) ?_
    refine zB1 ?_
    refine zAd (hK31 _ _ ?_)
    refine zCg rfl rfl ?_
    refine zAg (fun K38 hK37 => ?_)
    refine zAb (w_p (zAc (v := _) rfl rfl) rfl ?_)
    refine zAf (zAd (hK37 _ _ ?_))
    refine zA2 (zAm (zA3 (l := [.tmp 4]) (vs := [_]) rfl ⟨⟨rfl, (rfl : _ = Value.int _ _)⟩, trivial⟩ ?_))
    first
      | exact ⟨congrArg (Value.int .i64) (by unfold gradeOwn; rw [zDi (by assumption)]; simp), hs34.tail.tail⟩
      | exact ⟨congrArg (Value.int .i64) (by unfold gradeOwn; rw [zDi (n := l.grades[i].scars) (by assumption)]; simp), hs34.tail.tail⟩
      | (have hi0 : i = 0 := by omega
         subst hi0
         exact ⟨congrArg (Value.int .i64) (by unfold gradeOwn; rw [zCs (by assumption), zCs (by assumption)]; rfl), hs34.tail.tail⟩)
      | (have hnb := zDb h0 (show i ≤ l.grades.length by omega) l.grades[i]
         exact ⟨congrArg (Value.int .i64) (by unfold gradeOwn; rw [zCs (by assumption), zCs (by assumption), hnb]; simp [h20, h26, h35, h36] <;> omega), hs34.tail.tail⟩)
   try simp only [zS] at h36
   refine zAp rfl (zAn rfl rfl rfl) rfl (fun _ => (zAh (o := 2) (i := 2) underlying57 rfl sizeOf3 rfl rfl rfl)) ?_
   refine zBa rfl (zAn rfl rfl rfl) rfl hs34 (fun _ hq => (zAk isAgg3 hq rfl rfl (zAj (i := 0) (vs := [_]) rfl rfl))) ?_
   refine zAp rfl (zAn rfl rfl rfl) rfl (fun _ => (zAh (o := 0) (i := 0) underlying26 rfl sizeOf22 rfl rfl rfl)) ?_
   refine zBa rfl (zAn rfl rfl rfl) rfl hs34 (fun _ hq => (zAk isAgg22 hq rfl rfl (zAj (i := 1) (vs := [_]) rfl rfl))) ?_
   refine zAp rfl (zAn rfl rfl rfl) rfl (fun _ => (zAe (v := .int _ _) rfl rfl)) ?_
   refine zAp rfl (zAn rfl rfl rfl) rfl (fun _ => (y_sub rfl rfl rfl rfl (by omega) (by omega))) ?_
   refine zAp rfl (zAn rfl rfl rfl) rfl (fun _ => (zA7 underlying22 sizeOf57 rfl rfl rfl rfl (i := i - 1) (by omega) (by omega))) ?_
   refine zAp rfl (zAn rfl rfl rfl) rfl (fun _ => (zAh (o := 2) (i := 2) underlying57 rfl sizeOf3 rfl rfl rfl)) ?_
   refine zBa rfl (zAn rfl rfl rfl) rfl hs34 (fun _ hq => (zAk isAgg3 hq.tail.tail rfl rfl (show Ats _ _ _ _ [_] from Ats.part hy 2 1))) ?_
   refine zAp rfl (zAn rfl rfl rfl) rfl (fun _ => (zBt rfl rfl rfl rfl)) ?_
   refine zAp rfl (zAn rfl rfl rfl) rfl (fun _ => (zBb (v := .bool _) rfl rfl rfl rfl)) ?_
   refine zAp rfl zAa rfl (fun _ => (zA0 (v := .bool _) rfl rfl rfl rfl)) ?_
   refine zB1 ?_
   refine zAd (hK31 _ _ ?_)
   refine zAz rfl rfl (fun h39 => ?_) (fun h39 => ?_)
   ·
    try simp only [zS] at h39
    refine zAg (fun K41 hK40 => ?_)
    refine zAb (w_p (zAc (v := _) rfl rfl) rfl ?_)
    refine zAf (zAd (hK40 _ _ ?_))
    refine zA2 (zAm (zA3 (l := [.tmp 4]) (vs := [_]) rfl ⟨⟨rfl, (rfl : _ = Value.int _ _)⟩, trivial⟩ ?_))
    first
      | exact ⟨congrArg (Value.int .i64) (by unfold gradeOwn; rw [zDi (by assumption)]; simp), hs34.tail.tail⟩
      | exact ⟨congrArg (Value.int .i64) (by unfold gradeOwn; rw [zDi (n := l.grades[i].scars) (by assumption)]; simp), hs34.tail.tail⟩
      | (have hi0 : i = 0 := by omega
         subst hi0
         exact ⟨congrArg (Value.int .i64) (by unfold gradeOwn; rw [zCs (by assumption), zCs (by assumption)]; rfl), hs34.tail.tail⟩)
      | (have hnb := zDb h0 (show i ≤ l.grades.length by omega) l.grades[i]
         exact ⟨congrArg (Value.int .i64) (by unfold gradeOwn; rw [zCs (by assumption), zCs (by assumption), hnb]; simp [h20, h26, h35, h36, h39] <;> omega), hs34.tail.tail⟩)
   try simp only [zS] at h39
   refine zAx (zAd (hK29 _ _ ?_))
   refine zAg (fun K43 hK42 => ?_)
   refine zAb (w_p (zAc (v := _) rfl rfl) rfl ?_)
   refine zAf (zAd (hK42 _ _ ?_))
   refine zA2 (zA3 (l := [.tmp 4]) (vs := [_]) rfl ⟨⟨rfl, (rfl : _ = Value.int _ _)⟩, trivial⟩ ?_)
   first
     | exact ⟨congrArg (Value.int .i64) (by unfold gradeOwn; rw [zDi (by assumption)]; simp), hs34.tail.tail⟩
     | exact ⟨congrArg (Value.int .i64) (by unfold gradeOwn; rw [zDi (n := l.grades[i].scars) (by assumption)]; simp), hs34.tail.tail⟩
     | (have hi0 : i = 0 := by omega
        subst hi0
        exact ⟨congrArg (Value.int .i64) (by unfold gradeOwn; rw [zCs (by assumption), zCs (by assumption)]; rfl), hs34.tail.tail⟩)
     | (have hnb := zDb h0 (show i ≤ l.grades.length by omega) l.grades[i]
        exact ⟨congrArg (Value.int .i64) (by unfold gradeOwn; rw [zCs (by assumption), zCs (by assumption), hnb]; simp [h20, h26, h35, h36, h39] <;> omega), hs34.tail.tail⟩)
  try simp only [zS] at h35
  refine zBg rfl rfl rfl rfl ?_
  refine zCj rfl rfl rfl rfl hs34 ?_
  refine zBg rfl rfl rfl rfl ?_
  refine zCj rfl rfl rfl rfl hs34 ?_
  refine zBg rfl rfl rfl rfl ?_
  refine zBg rfl rfl rfl rfl ?_
  refine zBg rfl rfl rfl rfl ?_
  refine zBg rfl rfl rfl rfl ?_
  refine zCj rfl rfl rfl rfl hs34 ?_
  refine zBg rfl rfl rfl rfl ?_
  refine zBg rfl rfl rfl rfl ?_
  refine zCk rfl rfl rfl rfl ?_
  refine d_skip1' rfl rfl rfl rfl hs34 ?_
  refine zCk rfl rfl rfl rfl ?_
  refine d_skip1' rfl rfl rfl rfl hs34 ?_
  refine zCk rfl rfl rfl rfl ?_
  refine zCk rfl rfl rfl rfl ?_
  refine zCk rfl rfl rfl rfl ?_
  refine zCk rfl rfl rfl rfl ?_
  refine d_skip1' rfl rfl rfl rfl hs34 ?_
  refine zCk rfl rfl rfl rfl ?_
  refine zBg rfl rfl rfl rfl ?_
  refine zAp rfl zAa rfl (fun _ => (zBb (v := _) rfl rfl rfl rfl)) ?_
  refine zB1 ?_
  refine zAd (hK31 _ _ ?_)
  refine zB0 rfl rfl ?_
  refine zAx (zAd (hK29 _ _ ?_))
  refine zAg (fun K45 hK44 => ?_)
  refine zAb (w_p (zAc (v := _) rfl rfl) rfl ?_)
  refine zAf (zAd (hK44 _ _ ?_))
  refine zA2 (zA3 (l := [.tmp 4]) (vs := [_]) rfl ⟨⟨rfl, (rfl : _ = Value.int _ _)⟩, trivial⟩ ?_)
  first
    | exact ⟨congrArg (Value.int .i64) (by unfold gradeOwn; rw [zDi (by assumption)]; simp), hs34.tail.tail⟩
    | exact ⟨congrArg (Value.int .i64) (by unfold gradeOwn; rw [zDi (n := l.grades[i].scars) (by assumption)]; simp), hs34.tail.tail⟩
    | (have hi0 : i = 0 := by omega
       subst hi0
       exact ⟨congrArg (Value.int .i64) (by unfold gradeOwn; rw [zCs (by assumption), zCs (by assumption)]; rfl), hs34.tail.tail⟩)
    | (have hnb := zDb h0 (show i ≤ l.grades.length by omega) l.grades[i]
       exact ⟨congrArg (Value.int .i64) (by unfold gradeOwn; rw [zCs (by assumption), zCs (by assumption), hnb]; simp [h20, h26, h35] <;> omega), hs34.tail.tail⟩)

theorem c16 {w0 w : World} {F : List (Nat × Obj)} (b : Bunch) (bf : List Bunch) (hs : St w0 w F) :
  Con Tryz.prog 16 [.agg b.cells.toArray] w fun v w' => v = .int .i64 (bunchE bf b) ∧ St w0 w' F := by
  refine zAw (n := 33) func16 rfl rfl (Nat.le_of_ble_eq_true rfl) ?_
  refine zAg (fun K2 hK1 => ?_)
  refine zAb (zB3 (v := .agg #[.int _ _, .int _ _, .int _ _, .int _ _]) (cs := [_, _, _, _]) zAa rfl rfl rfl hs (fun b3 w4 hs5 => ?_))
  refine w_p (zAc (v := _) rfl rfl) rfl ?_
  refine zAf (zAd (hK1 _ _ ?_))
  refine zAg (fun K7 hK6 => ?_)
  refine zB7 [] [(0, 0), (1, 1), (3, 0), (4, 1), (2, 2), (5, 2), (6, 0), (7, 0)] zBu (by kernel_rfl) hs5 (fun w8 hs9 => ?_)
  refine zAp rfl zAa rfl (fun _ => (zAh (o := 0) (i := 0) underlying61 rfl sizeOf28 rfl rfl rfl)) ?_
  refine zBa rfl zAa rfl hs9 (fun _ hq => (zA6 (vs := [_, _]) isAgg28 sizeOf28 hq rfl rfl (zAj (i := 0) (vs := [_, _]) rfl rfl))) ?_
  refine zAp rfl zAa rfl (fun _ => (zAh (o := 2) (i := 1) underlying61 rfl sizeOf28 rfl rfl rfl)) ?_
  refine zBa rfl zAa rfl hs9 (fun _ hq => (zA6 (vs := [_, _]) isAgg28 sizeOf28 hq rfl rfl (zAj (i := 0) (vs := [_, _]) rfl rfl))) ?_
  refine zCl rfl ?_
  refine zAt zAa call18 rfl rfl rfl rfl (c18 _ _ _ _ hs9) ?_
  rintro _ w11 ⟨rfl, hs12⟩
  refine zAf (qn ⟨hs12, ?_⟩)
  refine zCl rfl ?_
  refine zAt zAa call18 rfl rfl rfl rfl (c18 _ _ _ _ hs12) ?_
  rintro _ w14 ⟨rfl, hs15⟩
  refine zAf (qn ⟨hs15, ?_⟩)
  refine zAp rfl zAa rfl (fun _ => (zAc (v := .int _ _) rfl rfl)) ?_
  refine zAp rfl zAa rfl (fun _ => (zAc (v := .int _ _) rfl rfl)) ?_
  refine zB1 ?_
  refine zAd (hK6 _ _ ?_)
  refine zAg (fun K17 hK16 => ?_)
  refine zAg (fun K19 hK18 => ?_)
  refine zAb (w_p (zAe (v := .int _ _) rfl rfl) rfl ?_)
  refine w_p (zBy rfl rfl rfl rfl) rfl ?_
  refine w_p (zAe (v := .bool _) rfl rfl) rfl ?_
  refine zBi (fun h20 => ?_) (fun h20 => ?_)
  ·
   try simp only [zS] at h20
   refine zAi rfl rfl rfl ?_
   refine zAi rfl rfl rfl ?_
   refine w_p (zA0 (v := _) rfl rfl rfl rfl) rfl ?_
   refine zAf (zAd (hK18 _ _ ?_))
   refine zCg rfl rfl ?_
   refine zAg (fun K22 hK21 => ?_)
   refine zAb (w_p (zAc (v := _) rfl rfl) rfl ?_)
   refine zAf (zAd (hK21 _ _ ?_))
   refine zA2 (zAm (zA3 (l := [.tmp 2]) (vs := [_]) rfl ⟨⟨rfl, (rfl : _ = Value.int _ _)⟩, trivial⟩ ?_))
   exact ⟨congrArg (Value.int .i64) (by rw [← bunch_same bf b]; unfold bunchR; simp [h20] <;> omega), hs15.tail⟩
  try simp only [zS] at h20
  refine w_y rfl rfl rfl (zAe (v := .int _ _) rfl rfl) rfl ?_
  refine w_y rfl rfl rfl (zBy rfl rfl rfl rfl) rfl ?_
  refine w_p (zBb (v := .bool _) rfl rfl rfl rfl) rfl ?_
  refine zAf (zAd (hK18 _ _ ?_))
  refine zAz rfl rfl (fun h23 => ?_) (fun h23 => ?_)
  ·
   try simp only [zS] at h23
   refine zAg (fun K25 hK24 => ?_)
   refine zAb (w_p (zAc (v := _) rfl rfl) rfl ?_)
   refine zAf (zAd (hK24 _ _ ?_))
   refine zA2 (zAm (zA3 (l := [.tmp 2]) (vs := [_]) rfl ⟨⟨rfl, (rfl : _ = Value.int _ _)⟩, trivial⟩ ?_))
   exact ⟨congrArg (Value.int .i64) (by rw [← bunch_same bf b]; unfold bunchR; simp [h20, h23] <;> omega), hs15.tail⟩
  try simp only [zS] at h23
  refine zAx (zAd (hK16 _ _ ?_))
  refine zAg (fun K27 hK26 => ?_)
  refine zAg (fun K29 hK28 => ?_)
  refine zAb (w_p (zAe (v := .int _ _) rfl rfl) rfl ?_)
  refine w_p (zCc rfl rfl rfl rfl) rfl ?_
  refine w_p (zAe (v := .bool _) rfl rfl) rfl ?_
  refine zBi (fun h30 => ?_) (fun h30 => ?_)
  ·
   try simp only [zS] at h30
   refine zAi rfl rfl rfl ?_
   refine zAi rfl rfl rfl ?_
   refine w_p (zA0 (v := _) rfl rfl rfl rfl) rfl ?_
   refine w_p (zAe (v := .bool _) rfl rfl) rfl ?_
   refine zAi rfl rfl rfl ?_
   refine zAi rfl rfl rfl ?_
   refine zAi rfl rfl rfl ?_
   refine zAi rfl rfl rfl ?_
   refine zAi rfl rfl rfl ?_
   refine zAi rfl rfl rfl ?_
   refine zAi rfl rfl rfl ?_
   refine zAi rfl rfl rfl ?_
   refine w_p (zA0 (v := _) rfl rfl rfl rfl) rfl ?_
   refine zAf (zAd (hK28 _ _ ?_))
   refine zCg rfl rfl ?_
   refine zAg (fun K32 hK31 => ?_)
   refine zAb (w_p (zAc (v := _) rfl rfl) rfl ?_)
   refine zAf (zAd (hK31 _ _ ?_))
   refine zA2 (zAm (zA3 (l := [.tmp 2]) (vs := [_]) rfl ⟨⟨rfl, (rfl : _ = Value.int _ _)⟩, trivial⟩ ?_))
   exact ⟨congrArg (Value.int .i64) (by rw [← bunch_same bf b]; unfold bunchR; simp [h20, h23, h30] <;> omega), hs15.tail⟩
  try simp only [zS] at h30
  refine w_y rfl rfl rfl (zAe (v := .int _ _) rfl rfl) rfl ?_
  refine w_y rfl rfl rfl (zCc rfl rfl rfl rfl) rfl ?_
  refine w_p (zBb (v := .bool _) rfl rfl rfl rfl) rfl ?_
  refine w_p (zAe (v := .bool _) rfl rfl) rfl ?_
  refine zBi (fun h33 => ?_) (fun h33 => ?_)
  ·
   try simp only [zS] at h33
   refine zAi rfl rfl rfl ?_
   refine zAi rfl rfl rfl ?_
   refine zAi rfl rfl rfl ?_
   refine zAi rfl rfl rfl ?_
   refine zAi rfl rfl rfl ?_
   refine zAi rfl rfl rfl ?_
   refine zAi rfl rfl rfl ?_
   refine zAi rfl rfl rfl ?_
   refine w_p (zA0 (v := _) rfl rfl rfl rfl) rfl ?_
   refine zAf (zAd (hK28 _ _ ?_))
   refine zCg rfl rfl ?_
   refine zAg (fun K35 hK34 => ?_)
   refine zAb (w_p (zAc (v := _) rfl rfl) rfl ?_)
   refine zAf (zAd (hK34 _ _ ?_))
   refine zA2 (zAm (zA3 (l := [.tmp 2]) (vs := [_]) rfl ⟨⟨rfl, (rfl : _ = Value.int _ _)⟩, trivial⟩ ?_))
   exact ⟨congrArg (Value.int .i64) (by rw [← bunch_same bf b]; unfold bunchR; simp [h20, h23, h30, h33] <;> omega), hs15.tail⟩
  try simp only [zS] at h33
  refine w_y rfl rfl rfl (zAh (o := 0) (i := 0) underlying61 rfl sizeOf28 rfl rfl rfl) rfl ?_
  refine w_y rfl rfl rfl (zAh (o := 1) (i := 1) underlying28 rfl sizeOf3 rfl rfl rfl) rfl ?_
  refine w_y rfl rfl rfl (zAk isAgg3 hs15 rfl rfl (zAj (i := 0) (vs := [_]) rfl rfl)) rfl ?_
  refine w_y rfl rfl rfl (zAh (o := 0) (i := 0) underlying61 rfl sizeOf28 rfl rfl rfl) rfl ?_
  refine w_y rfl rfl rfl (zAh (o := 0) (i := 0) underlying28 rfl sizeOf3 rfl rfl rfl) rfl ?_
  refine w_y rfl rfl rfl (zAk isAgg3 hs15 rfl rfl (zAj (i := 0) (vs := [_]) rfl rfl)) rfl ?_
  have he1 := ends_ok (by assumption : ends b.lo b.hi 1 12 = 0)
  refine w_y rfl rfl rfl (y_sub rfl rfl rfl rfl (by omega) (by omega)) rfl ?_
  refine w_y rfl rfl rfl (y_gtr rfl rfl rfl rfl) rfl ?_
  refine w_p (zBb (v := .bool _) rfl rfl rfl rfl) rfl ?_
  refine zAf (zAd (hK28 _ _ ?_))
  refine zAz rfl rfl (fun h36 => ?_) (fun h36 => ?_)
  ·
   try simp only [zS] at h36
   refine zAg (fun K38 hK37 => ?_)
   refine zAb (w_p (zAc (v := _) rfl rfl) rfl ?_)
   refine zAf (zAd (hK37 _ _ ?_))
   refine zA2 (zAm (zA3 (l := [.tmp 2]) (vs := [_]) rfl ⟨⟨rfl, (rfl : _ = Value.int _ _)⟩, trivial⟩ ?_))
   exact ⟨congrArg (Value.int .i64) (by rw [← bunch_same bf b]; unfold bunchR; simp [h20, h23, h30, h33, h36] <;> omega), hs15.tail⟩
  try simp only [zS] at h36
  refine zAx (zAd (hK26 _ _ ?_))
  refine zAg (fun K40 hK39 => ?_)
  refine zAb (w_p (zAc (v := _) rfl rfl) rfl ?_)
  refine zAf (zAd (hK39 _ _ ?_))
  refine zA2 (zA3 (l := [.tmp 2]) (vs := [_]) rfl ⟨⟨rfl, (rfl : _ = Value.int _ _)⟩, trivial⟩ ?_)
  exact ⟨congrArg (Value.int .i64) (by rw [← bunch_same bf b]; unfold bunchR; simp [h20, h23, h30, h33, h36] <;> omega), hs15.tail⟩

theorem c17 {w0 w : World} {F : List (Nat × Obj)} (n : Nat) (hn : n ≤ 6) (hs : St w0 w F) :
  Con Tryz.prog 17 [.int .i64 (n : Int)] w fun v w' => v = .int .i64 (allN n) ∧ St w0 w' F := by
  refine zAw (n := 14) func17 rfl rfl (Nat.le_of_ble_eq_true rfl) ?_
  refine zAg (fun K2 hK1 => ?_)
  refine zAb (w_p (zAc (v := _) rfl rfl) rfl ?_)
  refine zAf (zAd (hK1 _ _ ?_))
  refine zAg (fun K4 hK3 => ?_)
  refine zAb (w_p (zAc (v := _) rfl rfl) rfl ?_)
  refine zAf (zAd (hK3 _ _ ?_))
  refine zAg (fun K6 hK5 => ?_)
  refine zAg (fun K8 hK7 => ?_)
  refine zAb (w_p (zAc (v := _) rfl rfl) rfl ?_)
  refine zAf (zAd (hK7 _ _ ?_))
  refine zAy ?_
  refine zBp [3, 4, 5, 6, 7, 8, 9, 10, 11, 12] [3, 4] (fun k vs w => ∃ (i : Nat), vs = [.int .i64 (allN i), .int .i64 i] ∧ i ≤ n ∧ k = n - i ∧ St w0 w F) (n) ?_ ?_
  ·
   exact ⟨0, rfl, by omega, by omega, hs⟩
  intro k vs μ w11 hI K10 hN9
  obtain ⟨i, rfl, hia, rfl, hs⟩ := hI
  have hai := allN_in i (by omega)
  refine zAg (fun K13 hK12 => ?_)
  refine zAg (fun K15 hK14 => ?_)
  refine zAb (w_p (zAe (v := .int _ _) rfl rfl) rfl ?_)
  refine w_p (zAe (v := .int _ _) rfl rfl) rfl ?_
  refine w_p (zBt rfl rfl rfl rfl) rfl ?_
  refine zAf (zAd (hK14 _ _ ?_))
  refine zAz rfl rfl (fun h16 => ?_) (fun h16 => ?_)
  ·
   try simp only [zS] at h16
   refine zAx (zAd (hK12 _ _ ?_))
   refine zAg (fun K18 hK17 => ?_)
   refine zAy ?_
   refine zAb (w_p (zAe (v := .int _ _) rfl rfl) rfl ?_)
   refine w_p (y_mul rfl rfl rfl rfl (by omega) (by omega)) rfl ?_
   refine w_p (zBf rfl rfl rfl rfl (by omega) (by omega)) rfl ?_
   refine w_p (zAc (v := .int _ _) rfl rfl) rfl ?_
   refine zAf (zAl (zAd (hK17 _ _ ?_)))
   refine zAb (w_p (zAe (v := .int _ _) rfl rfl) rfl ?_)
   refine w_p (zBf rfl rfl rfl rfl (by omega) (by omega)) rfl ?_
   refine w_p (zAc (v := .int _ _) rfl rfl) rfl ?_
   refine zAf (zAd (hN9 _ _ (Nx.intro (n - (i + 1)) (by omega) (by repeat (first | exact zAv | refine zAu rfl ?_ | refine zAs rfl ?_ _ | refine zAr rfl ?_)) ?_)))
   exact ⟨i + 1, iv2 (by rw [allN_succ]) rfl, by omega, rfl, hs⟩
  try simp only [zS] at h16
  refine zBl (zAo (zAo (zA4 (zAd (hK5 _ _ ?_)))))
  refine zAg (fun K20 hK19 => ?_)
  refine zAb (w_p (zAe (v := .int _ _) rfl rfl) rfl ?_)
  refine w_p (zAc (v := .int _ _) rfl rfl) rfl ?_
  refine zAf (zAd (hK19 _ _ ?_))
  refine zA2 (zA3 (l := [.tmp 2]) (vs := [_]) rfl ⟨⟨rfl, (rfl : _ = Value.int _ _)⟩, trivial⟩ ?_)
  have hin : i = n := by omega
  subst hin
  exact ⟨rfl, hs⟩

theorem c4 {w0 w : World} {F : List (Nat × Obj)} (l : Lot) (p : At3) (hm : LIn w0 F l p)  (hs : St w0 w F) :
  Con Tryz.prog 4 [.agg (l.cells p).toArray] w fun v w' => v = .tuple #[.int .i64 (check l).1, .int .i64 (check l).2.1, .int .i64 (check l).2.2] ∧ St w0 w' F := by
  refine zAw (n := 103) func4 rfl rfl (Nat.le_of_ble_eq_true rfl) ?_
  obtain ⟨ag, cg, ab, cb, ac, cc⟩ := p
  have hlg := hm.lg
  have hlb := hm.lb
  have hlc := hm.lc
  refine zAg (fun K2 hK1 => ?_)
  refine zAb (zB3 (v := .agg #[.slice _ _ _, .slice _ _ _, .slice _ _ _]) (cs := [_, _, _]) zAa rfl rfl rfl hs (fun b3 w4 hs5 => ?_))
  refine w_p (zAc (v := _) rfl rfl) rfl ?_
  refine w_p (zAc (v := _) rfl rfl) rfl ?_
  refine w_p (zAc (v := _) rfl rfl) rfl ?_
  refine zAf (zAd (hK1 _ _ ?_))
  refine zAg (fun K7 hK6 => ?_)
  refine zAg (fun K9 hK8 => ?_)
  refine zAb (w_p (zAh (o := 0) (i := 0) underlying26 rfl sizeOf22 rfl rfl rfl) rfl ?_)
  refine w_p (zAk isAgg22 hs5 rfl rfl (zAj (i := 0) (vs := [_]) rfl rfl)) rfl ?_
  refine w_p (zBd underlying22 rfl rfl) rfl ?_
  refine zAt zAa call12 rfl rfl rfl rfl (c12 _ _ _ hs5) ?_
  rintro _ w11 ⟨rfl, hs12⟩
  refine w_p (zDc rfl rfl) rfl ?_
  refine zAf (zAd (hK8 _ _ ?_))
  refine zAz rfl rfl (fun h13 => ?_) (fun h13 => ?_)
  ·
   try simp only [zS] at h13
   refine zAg (fun K15 hK14 => ?_)
   refine zAb (w_p (zAc (v := _) rfl rfl) rfl ?_)
   refine w_p (zAc (v := _) rfl rfl) rfl ?_
   refine w_p (zAc (v := _) rfl rfl) rfl ?_
   refine zAf (zAd (hK14 _ _ ?_))
   refine zA2 (zAm (zA3 (l := [.tmp 2, .tmp 3, .tmp 4]) (vs := [_, _, _]) rfl ⟨⟨rfl, (rfl : _ = Value.int _ _)⟩, ⟨rfl, (rfl : _ = Value.int _ _)⟩, ⟨rfl, (rfl : _ = Value.int _ _)⟩, trivial⟩ ?_))
   first
     | contradiction
     | exact ⟨tup3 (chk_g0 (by assumption)), hs12.tail⟩
     | (refine ⟨tup3 (chk_g (by assumption) (hinv.trans ((zA8 hi2 ?_).trans ?_)) ?_), hs12.tail⟩
        · rw [zCo (by assumption)]; assumption
        · rw [zCo (by assumption)]
        · assumption)
     | (refine ⟨tup3 (chk_g (by assumption) (hinv.trans ((zA8 hi2 ?_).trans ?_)) ?_), hs12.tail⟩
        · rw [zB5 (by assumption)]; assumption
        · rw [zB5 (by assumption)]
        · assumption)
     | exact ⟨tup3 (chk_b0 (by assumption) hge (by assumption)), hs12.tail⟩
     | exact ⟨tup3 (chk_b (by assumption) hge (by assumption) (hinv.trans (zA8 hi2 (by assumption))) (by assumption)), hs12.tail⟩
     | exact ⟨tup3 (chk_c0 (by assumption) hge (by assumption) hbe (by assumption)), hs12.tail⟩
     | (have hce := count_1 (bf := l.counts.take i) (by assumption : ¬ (1 ≤ l.counts[i].bits ∧ l.counts[i].bits ≤ allN l.bunches.length))
        exact ⟨tup3 (chk_c (x := ((i : Int), 4)) (by assumption) hge (by assumption) hbe (by assumption) (hinv.trans ((zA8 hi2 (by rw [hce]; decide)).trans (by rw [hce]))) (by show ¬ (4 : Int) = 0; decide)), hs12.tail⟩)
     | (have hce := count_2 (bf := l.counts.take i) (by assumption : 1 ≤ l.counts[i].bits ∧ l.counts[i].bits ≤ allN l.bunches.length) (by assumption)
        exact ⟨tup3 (chk_c (x := ((i : Int), 7)) (by assumption) hge (by assumption) hbe (by assumption) (hinv.trans ((zA8 hi2 (by rw [hce]; decide)).trans (by rw [hce]))) (by show ¬ (7 : Int) = 0; decide)), hs12.tail⟩)
     | exact ⟨tup3 (chk_ok (by assumption) hge (by assumption) hbe (by assumption) (hinv.trans (zCe (by omega) _))), hs12.tail⟩
  try simp only [zS] at h13
  refine zAx (zAd (hK6 _ _ ?_))
  refine zAg (fun K17 hK16 => ?_)
  refine zAb (w_p (zAc (v := _) rfl rfl) rfl ?_)
  refine zAf (zAd (hK16 _ _ ?_))
  refine zAg (fun K19 hK18 => ?_)
  refine zAg (fun K21 hK20 => ?_)
  refine zAb (w_p (zAc (v := _) rfl rfl) rfl ?_)
  refine zAf (zAd (hK20 _ _ ?_))
  refine zAy ?_
  refine zBp [2, 3, 4, 5, 6, 7, 16, 17, 18, 19, 20, 21, 22, 23, 24, 25, 26, 27, 28, 29, 30, 31, 32, 33, 34, 35, 36, 37, 38, 39, 40, 41, 42, 43, 44, 45, 46, 47, 48] [5, 6] (fun k vs w => ∃ (i : Nat) (v : Value) (B : List (Nat × Obj)), vs = [v, .int .i64 i] ∧ i ≤ l.grades.length ∧ k = l.grades.length - i ∧ firstE gradeE [] 0 l.grades = firstE gradeE (l.grades.take i) i (l.grades.drop i) ∧ Rt.Own v 9 1 i (((l.grades.take i).map (·.name)).map Value.string) B ∧ St w0 w ((b3, blk 26 (l.cells ⟨ag, cg, ab, cb, ac, cc⟩)) :: (B ++ F))) (l.grades.length) ?_ ?_
  ·
   exact ⟨0, _, [], rfl, by omega, by omega, rfl, own_nil 9 1, hs12⟩
  intro k vs μ w24 hI K23 hN22
  obtain ⟨i, v, B, rfl, hia, rfl, hinv, hown, hs⟩ := hI
  refine zAg (fun K26 hK25 => ?_)
  refine zAg (fun K28 hK27 => ?_)
  refine zAb (w_p (zAe (v := .int _ _) rfl rfl) rfl ?_)
  refine w_p (zAh (o := 0) (i := 0) underlying26 rfl sizeOf22 rfl rfl rfl) rfl ?_
  refine w_p (zAk isAgg22 hs rfl rfl (zAj (i := 0) (vs := [_]) rfl rfl)) rfl ?_
  refine w_p (zBd underlying22 rfl rfl) rfl ?_
  refine w_p (zBt rfl rfl rfl rfl) rfl ?_
  refine zAf (zAd (hK27 _ _ ?_))
  refine zAz rfl rfl (fun h29 => ?_) (fun h29 => ?_)
  ·
   try simp only [zS] at h29
   refine zAx (zAd (hK25 _ _ ?_))
   refine zAg (fun K31 hK30 => ?_)
   refine zAy ?_
   refine zAg (fun K33 hK32 => ?_)
   have hi2 : i < l.grades.length := by omega
   have hn2 := names_lenG hia
   obtain ⟨bx, ox, rfl, hx⟩ := sl_grows hm.g hi2
   obtain ⟨an, cn, rfl, hsn⟩ := own_sl_map (w0 := w0) hown hn2 F
   have hnl : ((l.grades.take i).map (·.name)).length ≤ 1000000 := by omega
   refine zAb (w_p (zAh (o := 0) (i := 0) underlying26 rfl sizeOf22 rfl rfl rfl) rfl ?_)
   refine w_p (zAk isAgg22 hs rfl rfl (zAj (i := 0) (vs := [_]) rfl rfl)) rfl ?_
   refine w_p (zAe (v := .int _ _) rfl rfl) rfl ?_
   refine w_p (zA7 underlying22 sizeOf57 rfl rfl rfl rfl (i := _) rfl (by omega)) rfl ?_
   refine w_p (zAh (o := 0) (i := 0) underlying57 rfl sizeOf9 rfl rfl rfl) rfl ?_
   refine w_p (zAk isAgg9 hs.tail.drop rfl rfl (show Ats _ _ _ _ [_] from Ats.part hx 0 1)) rfl ?_
   refine w_p (zAe (v := .slice _ _ _) rfl rfl) rfl ?_
   refine zAt zAa call14 rfl rfl rfl rfl ((c14 _ _ _ _ (hm.ng _ (List.getElem_mem hi2)) (by omega) hsn.cons hs).mono (fun v w2 h => (show v = .int .i64 (freshE l.grades[i].name ((l.grades.take i).map (·.name))) ∧ _ from h))) ?_
   rintro _ w35 ⟨rfl, hs36⟩
   refine w_p (zAc (v := .int _ _) rfl rfl) rfl ?_
   refine zAf (zAd (hK32 _ _ ?_))
   refine zAg (fun K38 hK37 => ?_)
   refine zAb (w_p (zAe (v := .slice _ _ _) rfl rfl) rfl ?_)
   refine w_p (zAh (o := 0) (i := 0) underlying26 rfl sizeOf22 rfl rfl rfl) rfl ?_
   refine w_p (zAk isAgg22 hs36 rfl rfl (zAj (i := 0) (vs := [_]) rfl rfl)) rfl ?_
   refine w_p (zAe (v := .int _ _) rfl rfl) rfl ?_
   refine w_p (zA7 underlying22 sizeOf57 rfl rfl rfl rfl (i := _) rfl (by omega)) rfl ?_
   refine w_p (zAh (o := 0) (i := 0) underlying57 rfl sizeOf9 rfl rfl rfl) rfl ?_
   refine w_p (zAk isAgg9 hs36.tail.drop rfl rfl (show Ats _ _ _ _ [_] from Ats.part hx 0 1)) rfl ?_
   refine zBh (ps := [(0, _)]) (pv := [(0, .string _)]) (cs := [_]) zAa rfl rfl (fun w => Try_HR_fb2 _ w) hs36 (fun b39 w40 hs41 => ?_)
   refine zCw (X := (_ :: _ :: [])) (B := B) (rows := [[_]]) (sz := 1) (bytes := 16) zAa underlying54 Try_info9 rfl rfl rfl rfl rfl rfl rfl rfl rfl hs41 hown (zBr (i := 0) rfl (by simp) rfl) rfl (by simp) (by simp [Value.oneCell']) (by simp only [maxLen]; omega) (by omega) (fun v42 w43 B44 ho45 hs46 => ?_)
   replace hs46 := (show St _ _ (_ :: _ :: B44 ++ (F)) from hs46)
   refine w_p (zAc (v := v42) rfl rfl) rfl ?_
   refine zAf (zAd (hK37 _ _ ?_))
   refine zAg (fun K48 hK47 => ?_)
   refine zAg (fun K50 hK49 => ?_)
   refine zAb (w_p (zAe (v := .int _ _) rfl rfl) rfl ?_)
   refine w_p (zBy rfl rfl rfl rfl) rfl ?_
   refine zAf (zAd (hK49 _ _ ?_))
   refine zAz rfl rfl (fun h51 => ?_) (fun h51 => ?_)
   ·
    try simp only [zS] at h51
    refine zAb (w_p (zA6 (vs := [_, _, _]) isAgg26 sizeOf26 hs46 rfl rfl (zAj (i := 1) (vs := [_, _, _]) rfl rfl)) rfl ?_)
    refine w_p (zAe (v := .int _ _) rfl rfl) rfl ?_
    refine zAt zAa call15 rfl rfl rfl rfl (c15 l ⟨_, _, _, _, _, _⟩ hm.app.cons.cons i hi2 hs46) ?_
    rintro _ w53 ⟨rfl, hs54⟩
    refine w_p (zAc (v := .int _ _) rfl rfl) rfl ?_
    refine zAf (zAd (hK47 _ _ ?_))
    refine zAg (fun K56 hK55 => ?_)
    refine zAb (w_p (zAe (v := .int _ _) rfl rfl) rfl ?_)
    refine w_p (zCc rfl rfl rfl rfl) rfl ?_
    refine zAf (zAd (hK55 _ _ ?_))
    refine zAz rfl rfl (fun h57 => ?_) (fun h57 => ?_)
    ·
     try simp only [zS] at h57
     refine zAg (fun K59 hK58 => ?_)
     refine zAb (w_p (zAe (v := .int _ _) rfl rfl) rfl ?_)
     refine w_p (zAe (v := .int _ _) rfl rfl) rfl ?_
     refine w_p (zAc (v := _) rfl rfl) rfl ?_
     refine w_p (zAc (v := .int _ _) rfl rfl) rfl ?_
     refine w_p (zAc (v := .int _ _) rfl rfl) rfl ?_
     refine zAf (zAd (hK58 _ _ ?_))
     refine zA2 (zA1 (zAm (zAm (zA1 (zAm (zA3 (l := [.tmp 2, .tmp 3, .tmp 4]) (vs := [_, _, _]) rfl ⟨⟨rfl, (rfl : _ = Value.int _ _)⟩, ⟨rfl, (rfl : _ = Value.int _ _)⟩, ⟨rfl, (rfl : _ = Value.int _ _)⟩, trivial⟩ ?_))))))
     first
       | contradiction
       | exact ⟨tup3 (chk_g0 (by assumption)), hs54.tail.tail.drop⟩
       | (refine ⟨tup3 (chk_g (by assumption) (hinv.trans ((zA8 hi2 ?_).trans ?_)) ?_), hs54.tail.tail.drop⟩
          · rw [zCo (by assumption)]; assumption
          · rw [zCo (by assumption)]
          · assumption)
       | (refine ⟨tup3 (chk_g (by assumption) (hinv.trans ((zA8 hi2 ?_).trans ?_)) ?_), hs54.tail.tail.drop⟩
          · rw [zB5 (by assumption)]; assumption
          · rw [zB5 (by assumption)]
          · assumption)
       | exact ⟨tup3 (chk_b0 (by assumption) hge (by assumption)), hs54.tail.tail.drop⟩
       | exact ⟨tup3 (chk_b (by assumption) hge (by assumption) (hinv.trans (zA8 hi2 (by assumption))) (by assumption)), hs54.tail.tail.drop⟩
       | exact ⟨tup3 (chk_c0 (by assumption) hge (by assumption) hbe (by assumption)), hs54.tail.tail.drop⟩
       | (have hce := count_1 (bf := l.counts.take i) (by assumption : ¬ (1 ≤ l.counts[i].bits ∧ l.counts[i].bits ≤ allN l.bunches.length))
          exact ⟨tup3 (chk_c (x := ((i : Int), 4)) (by assumption) hge (by assumption) hbe (by assumption) (hinv.trans ((zA8 hi2 (by rw [hce]; decide)).trans (by rw [hce]))) (by show ¬ (4 : Int) = 0; decide)), hs54.tail.tail.drop⟩)
       | (have hce := count_2 (bf := l.counts.take i) (by assumption : 1 ≤ l.counts[i].bits ∧ l.counts[i].bits ≤ allN l.bunches.length) (by assumption)
          exact ⟨tup3 (chk_c (x := ((i : Int), 7)) (by assumption) hge (by assumption) hbe (by assumption) (hinv.trans ((zA8 hi2 (by rw [hce]; decide)).trans (by rw [hce]))) (by show ¬ (7 : Int) = 0; decide)), hs54.tail.tail.drop⟩)
       | exact ⟨tup3 (chk_ok (by assumption) hge (by assumption) hbe (by assumption) (hinv.trans (zCe (by omega) _))), hs54.tail.tail.drop⟩
    try simp only [zS] at h57
    refine zAx (zAl (zAd (hK30 _ _ ?_)))
    refine zAb (w_p (zAe (v := .int _ _) rfl rfl) rfl ?_)
    refine w_p (zBf rfl rfl rfl rfl (by omega) (by omega)) rfl ?_
    refine w_p (zAc (v := .int _ _) rfl rfl) rfl ?_
    refine zAf (zAd (hN22 _ _ (Nx.intro (l.grades.length - (i + 1)) (by omega) (by repeat (first | exact zAv | refine zAu rfl ?_ | refine zAs rfl ?_ _ | refine zAr rfl ?_)) ?_)))
    first
      | contradiction
      | exact ⟨i + 1, _, _, rfl, by omega, rfl, hinv.trans (zDj hi2 (by rw [zB5 (by assumption)]; assumption)), by rw [← names_snocG hi2]; exact ho45, hs54.tail⟩
   try simp only [zS] at h51
   refine zAx (zAd (hK47 _ _ ?_))
   refine zAg (fun K61 hK60 => ?_)
   refine zAb (w_p (zAe (v := .int _ _) rfl rfl) rfl ?_)
   refine w_p (zCc rfl rfl rfl rfl) rfl ?_
   refine zAf (zAd (hK60 _ _ ?_))
   refine zAz rfl rfl (fun h62 => ?_) (fun h62 => ?_)
   ·
    try simp only [zS] at h62
    refine zAg (fun K64 hK63 => ?_)
    refine zAb (w_p (zAe (v := .int _ _) rfl rfl) rfl ?_)
    refine w_p (zAe (v := .int _ _) rfl rfl) rfl ?_
    refine w_p (zAc (v := _) rfl rfl) rfl ?_
    refine w_p (zAc (v := .int _ _) rfl rfl) rfl ?_
    refine w_p (zAc (v := .int _ _) rfl rfl) rfl ?_
    refine zAf (zAd (hK63 _ _ ?_))
    refine zA2 (zA1 (zAm (zAm (zA1 (zAm (zA3 (l := [.tmp 2, .tmp 3, .tmp 4]) (vs := [_, _, _]) rfl ⟨⟨rfl, (rfl : _ = Value.int _ _)⟩, ⟨rfl, (rfl : _ = Value.int _ _)⟩, ⟨rfl, (rfl : _ = Value.int _ _)⟩, trivial⟩ ?_))))))
    first
      | contradiction
      | exact ⟨tup3 (chk_g0 (by assumption)), hs46.tail.tail.drop⟩
      | (refine ⟨tup3 (chk_g (by assumption) (hinv.trans ((zA8 hi2 ?_).trans ?_)) ?_), hs46.tail.tail.drop⟩
         · rw [zCo (by assumption)]; assumption
         · rw [zCo (by assumption)]
         · assumption)
      | (refine ⟨tup3 (chk_g (by assumption) (hinv.trans ((zA8 hi2 ?_).trans ?_)) ?_), hs46.tail.tail.drop⟩
         · rw [zB5 (by assumption)]; assumption
         · rw [zB5 (by assumption)]
         · assumption)
      | exact ⟨tup3 (chk_b0 (by assumption) hge (by assumption)), hs46.tail.tail.drop⟩
      | exact ⟨tup3 (chk_b (by assumption) hge (by assumption) (hinv.trans (zA8 hi2 (by assumption))) (by assumption)), hs46.tail.tail.drop⟩
      | exact ⟨tup3 (chk_c0 (by assumption) hge (by assumption) hbe (by assumption)), hs46.tail.tail.drop⟩
      | (have hce := count_1 (bf := l.counts.take i) (by assumption : ¬ (1 ≤ l.counts[i].bits ∧ l.counts[i].bits ≤ allN l.bunches.length))
         exact ⟨tup3 (chk_c (x := ((i : Int), 4)) (by assumption) hge (by assumption) hbe (by assumption) (hinv.trans ((zA8 hi2 (by rw [hce]; decide)).trans (by rw [hce]))) (by show ¬ (4 : Int) = 0; decide)), hs46.tail.tail.drop⟩)
      | (have hce := count_2 (bf := l.counts.take i) (by assumption : 1 ≤ l.counts[i].bits ∧ l.counts[i].bits ≤ allN l.bunches.length) (by assumption)
         exact ⟨tup3 (chk_c (x := ((i : Int), 7)) (by assumption) hge (by assumption) hbe (by assumption) (hinv.trans ((zA8 hi2 (by rw [hce]; decide)).trans (by rw [hce]))) (by show ¬ (7 : Int) = 0; decide)), hs46.tail.tail.drop⟩)
      | exact ⟨tup3 (chk_ok (by assumption) hge (by assumption) hbe (by assumption) (hinv.trans (zCe (by omega) _))), hs46.tail.tail.drop⟩
   try simp only [zS] at h62
   refine zAx (zAl (zAd (hK30 _ _ ?_)))
   refine zAb (w_p (zAe (v := .int _ _) rfl rfl) rfl ?_)
   refine w_p (zBf rfl rfl rfl rfl (by omega) (by omega)) rfl ?_
   refine w_p (zAc (v := .int _ _) rfl rfl) rfl ?_
   refine zAf (zAd (hN22 _ _ (Nx.intro (l.grades.length - (i + 1)) (by omega) (by repeat (first | exact zAv | refine zAu rfl ?_ | refine zAs rfl ?_ _ | refine zAr rfl ?_)) ?_)))
   first
     | contradiction
     | exact ⟨i + 1, _, _, rfl, by omega, rfl, hinv.trans (zDj hi2 (by rw [zB5 (by assumption)]; assumption)), by rw [← names_snocG hi2]; exact ho45, hs46.tail⟩
  try simp only [zS] at h29
  refine zBl (zAo (zAo (zA4 (zAd (hK18 _ _ ?_)))))
  refine zAg (fun K66 hK65 => ?_)
  refine zAg (fun K68 hK67 => ?_)
  have hge : firstE gradeE [] 0 l.grades = (0, 0) := hinv.trans (zCe (by omega) _)
  clear hinv hown
  refine zAb (w_p (zAh (o := 1) (i := 1) underlying26 rfl sizeOf23 rfl rfl rfl) rfl ?_)
  refine w_p (zAk isAgg23 hs rfl rfl (zAj (i := 0) (vs := [_]) rfl rfl)) rfl ?_
  refine w_p (zBd underlying23 rfl rfl) rfl ?_
  refine w_p (y_gtr rfl rfl rfl rfl) rfl ?_
  refine zAf (zAd (hK67 _ _ ?_))
  refine zAz rfl rfl (fun h69 => ?_) (fun h69 => ?_)
  ·
   try simp only [zS] at h69
   refine zAg (fun K71 hK70 => ?_)
   refine zAb (w_p (zAc (v := _) rfl rfl) rfl ?_)
   refine w_p (zAc (v := _) rfl rfl) rfl ?_
   refine w_p (zAc (v := _) rfl rfl) rfl ?_
   refine zAf (zAd (hK70 _ _ ?_))
   refine zA2 (zAm (zA3 (l := [.tmp 2, .tmp 3, .tmp 4]) (vs := [_, _, _]) rfl ⟨⟨rfl, (rfl : _ = Value.int _ _)⟩, ⟨rfl, (rfl : _ = Value.int _ _)⟩, ⟨rfl, (rfl : _ = Value.int _ _)⟩, trivial⟩ ?_))
   first
     | contradiction
     | exact ⟨tup3 (chk_g0 (by assumption)), hs.tail.drop⟩
     | (refine ⟨tup3 (chk_g (by assumption) (hinv.trans ((zA8 hi2 ?_).trans ?_)) ?_), hs.tail.drop⟩
        · rw [zCo (by assumption)]; assumption
        · rw [zCo (by assumption)]
        · assumption)
     | (refine ⟨tup3 (chk_g (by assumption) (hinv.trans ((zA8 hi2 ?_).trans ?_)) ?_), hs.tail.drop⟩
        · rw [zB5 (by assumption)]; assumption
        · rw [zB5 (by assumption)]
        · assumption)
     | exact ⟨tup3 (chk_b0 (by assumption) hge (by assumption)), hs.tail.drop⟩
     | exact ⟨tup3 (chk_b (by assumption) hge (by assumption) (hinv.trans (zA8 hi2 (by assumption))) (by assumption)), hs.tail.drop⟩
     | exact ⟨tup3 (chk_c0 (by assumption) hge (by assumption) hbe (by assumption)), hs.tail.drop⟩
     | (have hce := count_1 (bf := l.counts.take i) (by assumption : ¬ (1 ≤ l.counts[i].bits ∧ l.counts[i].bits ≤ allN l.bunches.length))
        exact ⟨tup3 (chk_c (x := ((i : Int), 4)) (by assumption) hge (by assumption) hbe (by assumption) (hinv.trans ((zA8 hi2 (by rw [hce]; decide)).trans (by rw [hce]))) (by show ¬ (4 : Int) = 0; decide)), hs.tail.drop⟩)
     | (have hce := count_2 (bf := l.counts.take i) (by assumption : 1 ≤ l.counts[i].bits ∧ l.counts[i].bits ≤ allN l.bunches.length) (by assumption)
        exact ⟨tup3 (chk_c (x := ((i : Int), 7)) (by assumption) hge (by assumption) hbe (by assumption) (hinv.trans ((zA8 hi2 (by rw [hce]; decide)).trans (by rw [hce]))) (by show ¬ (7 : Int) = 0; decide)), hs.tail.drop⟩)
     | exact ⟨tup3 (chk_ok (by assumption) hge (by assumption) hbe (by assumption) (hinv.trans (zCe (by omega) _))), hs.tail.drop⟩
  try simp only [zS] at h69
  refine zAx (zAd (hK65 _ _ ?_))
  refine zAg (fun K73 hK72 => ?_)
  refine zAg (fun K75 hK74 => ?_)
  refine zAb (w_p (zAc (v := _) rfl rfl) rfl ?_)
  refine zAf (zAd (hK74 _ _ ?_))
  refine zAy ?_
  refine zBp [2, 3, 4, 8, 9, 53, 54, 55, 56, 57, 58, 59, 60, 61, 62, 63, 64, 65, 66, 67, 68, 69] [8] (fun k vs w => ∃ (i : Nat), vs = [.int .i64 i] ∧ i ≤ l.bunches.length ∧ k = l.bunches.length - i ∧ firstE bunchE [] 0 l.bunches = firstE bunchE (l.bunches.take i) i (l.bunches.drop i) ∧ St w0 w ((b3, blk 26 (l.cells ⟨ag, cg, ab, cb, ac, cc⟩)) :: F)) (l.bunches.length) ?_ ?_
  ·
   exact ⟨0, rfl, by omega, by omega, rfl, (kp_opq hs)⟩
  intro k vs μ w78 hI K77 hN76
  clear hia
  obtain ⟨i, rfl, hia, rfl, hinv, hs⟩ := hI
  refine zAg (fun K80 hK79 => ?_)
  refine zAg (fun K82 hK81 => ?_)
  refine zAb (w_p (zAe (v := .int _ _) rfl rfl) rfl ?_)
  refine w_p (zAh (o := 1) (i := 1) underlying26 rfl sizeOf23 rfl rfl rfl) rfl ?_
  refine w_p (zAk isAgg23 hs rfl rfl (zAj (i := 0) (vs := [_]) rfl rfl)) rfl ?_
  refine w_p (zBd underlying23 rfl rfl) rfl ?_
  refine w_p (zBt rfl rfl rfl rfl) rfl ?_
  refine zAf (zAd (hK81 _ _ ?_))
  refine zAz rfl rfl (fun h83 => ?_) (fun h83 => ?_)
  ·
   try simp only [zS] at h83
   refine zAx (zAd (hK79 _ _ ?_))
   refine zAg (fun K85 hK84 => ?_)
   refine zAy ?_
   refine zAg (fun K87 hK86 => ?_)
   have hi2 : i < l.bunches.length := by omega
   obtain ⟨bx, ox, rfl, hx⟩ := sl_brows hm.b hi2
   refine zAb (w_p (zAh (o := 1) (i := 1) underlying26 rfl sizeOf23 rfl rfl rfl) rfl ?_)
   refine w_p (zAk isAgg23 hs rfl rfl (zAj (i := 0) (vs := [_]) rfl rfl)) rfl ?_
   refine w_p (zAe (v := .int _ _) rfl rfl) rfl ?_
   refine w_p (zA7 underlying23 sizeOf61 rfl rfl rfl rfl (i := _) rfl (by omega)) rfl ?_
   refine w_p (zA6 (vs := [_, _, _, _]) isAgg61 sizeOf61 hs.tail rfl rfl hx) rfl ?_
   refine zAt zAa call16 rfl rfl rfl rfl (c16 l.bunches[i] (l.bunches.take i) hs) ?_
   rintro _ w89 ⟨rfl, hs90⟩
   refine w_p (zAc (v := .int _ _) rfl rfl) rfl ?_
   refine zAf (zAd (hK86 _ _ ?_))
   refine zAg (fun K92 hK91 => ?_)
   refine zAb (w_p (zAe (v := .int _ _) rfl rfl) rfl ?_)
   refine w_p (zCc rfl rfl rfl rfl) rfl ?_
   refine zAf (zAd (hK91 _ _ ?_))
   refine zAz rfl rfl (fun h93 => ?_) (fun h93 => ?_)
   ·
    try simp only [zS] at h93
    refine zAg (fun K95 hK94 => ?_)
    refine zAb (w_p (zAe (v := .int _ _) rfl rfl) rfl ?_)
    refine w_p (zAe (v := .int _ _) rfl rfl) rfl ?_
    refine w_p (zAc (v := _) rfl rfl) rfl ?_
    refine w_p (zAc (v := .int _ _) rfl rfl) rfl ?_
    refine w_p (zAc (v := .int _ _) rfl rfl) rfl ?_
    refine zAf (zAd (hK94 _ _ ?_))
    refine zA2 (zA1 (zAm (zAm (zA1 (zAm (zA3 (l := [.tmp 2, .tmp 3, .tmp 4]) (vs := [_, _, _]) rfl ⟨⟨rfl, (rfl : _ = Value.int _ _)⟩, ⟨rfl, (rfl : _ = Value.int _ _)⟩, ⟨rfl, (rfl : _ = Value.int _ _)⟩, trivial⟩ ?_))))))
    first
      | contradiction
      | exact ⟨tup3 (chk_g0 (by assumption)), hs90.tail⟩
      | (refine ⟨tup3 (chk_g (by assumption) (hinv.trans ((zA8 hi2 ?_).trans ?_)) ?_), hs90.tail⟩
         · rw [zCo (by assumption)]; assumption
         · rw [zCo (by assumption)]
         · assumption)
      | (refine ⟨tup3 (chk_g (by assumption) (hinv.trans ((zA8 hi2 ?_).trans ?_)) ?_), hs90.tail⟩
         · rw [zB5 (by assumption)]; assumption
         · rw [zB5 (by assumption)]
         · assumption)
      | exact ⟨tup3 (chk_b0 (by assumption) hge (by assumption)), hs90.tail⟩
      | exact ⟨tup3 (chk_b (by assumption) hge (by assumption) (hinv.trans (zA8 hi2 (by assumption))) (by assumption)), hs90.tail⟩
      | exact ⟨tup3 (chk_c0 (by assumption) hge (by assumption) hbe (by assumption)), hs90.tail⟩
      | (have hce := count_1 (bf := l.counts.take i) (by assumption : ¬ (1 ≤ l.counts[i].bits ∧ l.counts[i].bits ≤ allN l.bunches.length))
         exact ⟨tup3 (chk_c (x := ((i : Int), 4)) (by assumption) hge (by assumption) hbe (by assumption) (hinv.trans ((zA8 hi2 (by rw [hce]; decide)).trans (by rw [hce]))) (by show ¬ (4 : Int) = 0; decide)), hs90.tail⟩)
      | (have hce := count_2 (bf := l.counts.take i) (by assumption : 1 ≤ l.counts[i].bits ∧ l.counts[i].bits ≤ allN l.bunches.length) (by assumption)
         exact ⟨tup3 (chk_c (x := ((i : Int), 7)) (by assumption) hge (by assumption) hbe (by assumption) (hinv.trans ((zA8 hi2 (by rw [hce]; decide)).trans (by rw [hce]))) (by show ¬ (7 : Int) = 0; decide)), hs90.tail⟩)
      | exact ⟨tup3 (chk_ok (by assumption) hge (by assumption) hbe (by assumption) (hinv.trans (zCe (by omega) _))), hs90.tail⟩
   try simp only [zS] at h93
   refine zAx (zAl (zAd (hK84 _ _ ?_)))
   refine zAb (w_p (zAe (v := .int _ _) rfl rfl) rfl ?_)
   refine w_p (zBf rfl rfl rfl rfl (by omega) (by omega)) rfl ?_
   refine w_p (zAc (v := .int _ _) rfl rfl) rfl ?_
   refine zAf (zAd (hN76 _ _ (Nx.intro (l.bunches.length - (i + 1)) (by omega) (by repeat (first | exact zAv | refine zAu rfl ?_ | refine zAs rfl ?_ _ | refine zAr rfl ?_)) ?_)))
   exact ⟨i + 1, rfl, by omega, rfl, hinv.trans (zDj hi2 (by assumption)), hs90⟩
  try simp only [zS] at h83
  refine zBl (zAo (zAo (zA4 (zAd (hK72 _ _ ?_)))))
  refine zAg (fun K97 hK96 => ?_)
  refine zAg (fun K99 hK98 => ?_)
  have hbe : firstE bunchE [] 0 l.bunches = (0, 0) := hinv.trans (zCe (by omega) _)
  clear hinv
  refine zAb (w_p (zAh (o := 2) (i := 2) underlying26 rfl sizeOf24 rfl rfl rfl) rfl ?_)
  refine w_p (zAk isAgg24 hs rfl rfl (zAj (i := 0) (vs := [_]) rfl rfl)) rfl ?_
  refine w_p (zBd underlying24 rfl rfl) rfl ?_
  refine w_p (y_gtr rfl rfl rfl rfl) rfl ?_
  refine zAf (zAd (hK98 _ _ ?_))
  refine zAz rfl rfl (fun h100 => ?_) (fun h100 => ?_)
  ·
   try simp only [zS] at h100
   refine zAg (fun K102 hK101 => ?_)
   refine zAb (w_p (zAc (v := _) rfl rfl) rfl ?_)
   refine w_p (zAc (v := _) rfl rfl) rfl ?_
   refine w_p (zAc (v := _) rfl rfl) rfl ?_
   refine zAf (zAd (hK101 _ _ ?_))
   refine zA2 (zAm (zA3 (l := [.tmp 2, .tmp 3, .tmp 4]) (vs := [_, _, _]) rfl ⟨⟨rfl, (rfl : _ = Value.int _ _)⟩, ⟨rfl, (rfl : _ = Value.int _ _)⟩, ⟨rfl, (rfl : _ = Value.int _ _)⟩, trivial⟩ ?_))
   first
     | contradiction
     | exact ⟨tup3 (chk_g0 (by assumption)), hs.tail⟩
     | (refine ⟨tup3 (chk_g (by assumption) (hinv.trans ((zA8 hi2 ?_).trans ?_)) ?_), hs.tail⟩
        · rw [zCo (by assumption)]; assumption
        · rw [zCo (by assumption)]
        · assumption)
     | (refine ⟨tup3 (chk_g (by assumption) (hinv.trans ((zA8 hi2 ?_).trans ?_)) ?_), hs.tail⟩
        · rw [zB5 (by assumption)]; assumption
        · rw [zB5 (by assumption)]
        · assumption)
     | exact ⟨tup3 (chk_b0 (by assumption) hge (by assumption)), hs.tail⟩
     | exact ⟨tup3 (chk_b (by assumption) hge (by assumption) (hinv.trans (zA8 hi2 (by assumption))) (by assumption)), hs.tail⟩
     | exact ⟨tup3 (chk_c0 (by assumption) hge (by assumption) hbe (by assumption)), hs.tail⟩
     | (have hce := count_1 (bf := l.counts.take i) (by assumption : ¬ (1 ≤ l.counts[i].bits ∧ l.counts[i].bits ≤ allN l.bunches.length))
        exact ⟨tup3 (chk_c (x := ((i : Int), 4)) (by assumption) hge (by assumption) hbe (by assumption) (hinv.trans ((zA8 hi2 (by rw [hce]; decide)).trans (by rw [hce]))) (by show ¬ (4 : Int) = 0; decide)), hs.tail⟩)
     | (have hce := count_2 (bf := l.counts.take i) (by assumption : 1 ≤ l.counts[i].bits ∧ l.counts[i].bits ≤ allN l.bunches.length) (by assumption)
        exact ⟨tup3 (chk_c (x := ((i : Int), 7)) (by assumption) hge (by assumption) hbe (by assumption) (hinv.trans ((zA8 hi2 (by rw [hce]; decide)).trans (by rw [hce]))) (by show ¬ (7 : Int) = 0; decide)), hs.tail⟩)
     | exact ⟨tup3 (chk_ok (by assumption) hge (by assumption) hbe (by assumption) (hinv.trans (zCe (by omega) _))), hs.tail⟩
  try simp only [zS] at h100
  refine zAx (zAd (hK96 _ _ ?_))
  refine zAg (fun K104 hK103 => ?_)
  refine zAg (fun K106 hK105 => ?_)
  refine zAb (w_p (zAc (v := _) rfl rfl) rfl ?_)
  refine zAf (zAd (hK105 _ _ ?_))
  refine zAy ?_
  refine zBp [2, 3, 4, 10, 74, 75, 76, 77, 78, 79, 80, 81, 82, 83, 84, 85, 86, 87, 88, 89, 90, 91, 92, 93, 94, 95, 96, 97, 98, 99, 100, 101, 102] [10] (fun k vs w => ∃ (i : Nat), vs = [.int .i64 i] ∧ i ≤ l.counts.length ∧ k = l.counts.length - i ∧ firstE (countE l.bunches.length) [] 0 l.counts = firstE (countE l.bunches.length) (l.counts.take i) i (l.counts.drop i) ∧ St w0 w ((b3, blk 26 (l.cells ⟨ag, cg, ab, cb, ac, cc⟩)) :: F)) (l.counts.length) ?_ ?_
  ·
   exact ⟨0, rfl, by omega, by omega, rfl, hs⟩
  intro k vs μ w109 hI K108 hN107
  clear hia
  obtain ⟨i, rfl, hia, rfl, hinv, hs⟩ := hI
  refine zAg (fun K111 hK110 => ?_)
  refine zAg (fun K113 hK112 => ?_)
  refine zAb (w_p (zAe (v := .int _ _) rfl rfl) rfl ?_)
  refine w_p (zAh (o := 2) (i := 2) underlying26 rfl sizeOf24 rfl rfl rfl) rfl ?_
  refine w_p (zAk isAgg24 hs rfl rfl (zAj (i := 0) (vs := [_]) rfl rfl)) rfl ?_
  refine w_p (zBd underlying24 rfl rfl) rfl ?_
  refine w_p (zBt rfl rfl rfl rfl) rfl ?_
  refine zAf (zAd (hK112 _ _ ?_))
  refine zAz rfl rfl (fun h114 => ?_) (fun h114 => ?_)
  ·
   try simp only [zS] at h114
   refine zAx (zAd (hK110 _ _ ?_))
   refine zAg (fun K116 hK115 => ?_)
   refine zAy ?_
   refine zAg (fun K118 hK117 => ?_)
   refine zAg (fun K120 hK119 => ?_)
   have hi2 : i < l.counts.length := by omega
   obtain ⟨bx, ox, rfl, hx⟩ := sl_crows hm.c hi2
   refine zB7 [] [(0, 0), (1, 1), (2, 0), (3, 0), (4, 0), (5, 1), (6, 0), (7, 1), (8, 0), (9, 2), (10, 2), (11, 0)] zBu (by kernel_rfl) hs (fun w121 hs122 => ?_)
   refine zAp rfl zAa rfl (fun _ => (zAh (o := 2) (i := 2) underlying26 rfl sizeOf24 rfl rfl rfl)) ?_
   refine zBa rfl zAa rfl hs122 (fun _ hq => (zAk isAgg24 hq rfl rfl (zAj (i := 0) (vs := [_]) rfl rfl))) ?_
   refine zAp rfl zAa rfl (fun _ => (zAe (v := .int _ _) rfl rfl)) ?_
   refine zAp rfl zAa rfl (fun _ => (zA7 underlying24 sizeOf63 rfl rfl rfl rfl (i := _) rfl (by omega))) ?_
   refine zAp rfl zAa rfl (fun _ => (zAh (o := 0) (i := 0) underlying63 rfl sizeOf3 rfl rfl rfl)) ?_
   refine zBa rfl zAa rfl hs122 (fun _ hq => (zAk isAgg3 hq.tail rfl rfl (show Ats _ _ _ _ [_] from Ats.part hx 0 1))) ?_
   refine zAp rfl zAa rfl (fun _ => (zAh (o := 1) (i := 1) underlying26 rfl sizeOf23 rfl rfl rfl)) ?_
   refine zBa rfl zAa rfl hs122 (fun _ hq => (zAk isAgg23 hq rfl rfl (zAj (i := 0) (vs := [_]) rfl rfl))) ?_
   refine zAp rfl zAa rfl (fun _ => (zBd underlying23 rfl rfl)) ?_
   refine zCl rfl ?_
   refine zAt zAa call17 rfl rfl rfl rfl (c17 _ (by omega) hs122) ?_
   rintro _ w124 ⟨rfl, hs125⟩
   refine zAf (qn ⟨hs125, ?_⟩)
   refine zCl rfl ?_
   refine zAt zAa call12 rfl rfl rfl rfl (c12 _ _ _ hs125) ?_
   rintro _ w127 ⟨rfl, hs128⟩
   refine zAf (qn ⟨hs128, ?_⟩)
   refine zAp rfl zAa rfl (fun _ => (zDc rfl rfl)) ?_
   refine zB1 ?_
   refine zAd (hK119 _ _ ?_)
   refine zAz rfl rfl (fun h129 => ?_) (fun h129 => ?_)
   ·
    try simp only [zS] at h129
    refine zAg (fun K131 hK130 => ?_)
    refine zAb (w_p (zAe (v := .int _ _) rfl rfl) rfl ?_)
    refine w_p (zAc (v := _) rfl rfl) rfl ?_
    refine w_p (zAc (v := .int _ _) rfl rfl) rfl ?_
    refine w_p (zAc (v := _) rfl rfl) rfl ?_
    refine zAf (zAd (hK130 _ _ ?_))
    refine zA2 (zAm (zA1 (zAm (zAm (zA1 (zAm (zA3 (l := [.tmp 2, .tmp 3, .tmp 4]) (vs := [_, _, _]) rfl ⟨⟨rfl, (rfl : _ = Value.int _ _)⟩, ⟨rfl, (rfl : _ = Value.int _ _)⟩, ⟨rfl, (rfl : _ = Value.int _ _)⟩, trivial⟩ ?_)))))))
    first
      | contradiction
      | exact ⟨tup3 (chk_g0 (by assumption)), hs128.tail⟩
      | (refine ⟨tup3 (chk_g (by assumption) (hinv.trans ((zA8 hi2 ?_).trans ?_)) ?_), hs128.tail⟩
         · rw [zCo (by assumption)]; assumption
         · rw [zCo (by assumption)]
         · assumption)
      | (refine ⟨tup3 (chk_g (by assumption) (hinv.trans ((zA8 hi2 ?_).trans ?_)) ?_), hs128.tail⟩
         · rw [zB5 (by assumption)]; assumption
         · rw [zB5 (by assumption)]
         · assumption)
      | exact ⟨tup3 (chk_b0 (by assumption) hge (by assumption)), hs128.tail⟩
      | exact ⟨tup3 (chk_b (by assumption) hge (by assumption) (hinv.trans (zA8 hi2 (by assumption))) (by assumption)), hs128.tail⟩
      | exact ⟨tup3 (chk_c0 (by assumption) hge (by assumption) hbe (by assumption)), hs128.tail⟩
      | (have hce := count_1 (bf := l.counts.take i) (by assumption : ¬ (1 ≤ l.counts[i].bits ∧ l.counts[i].bits ≤ allN l.bunches.length))
         exact ⟨tup3 (chk_c (x := ((i : Int), 4)) (by assumption) hge (by assumption) hbe (by assumption) (hinv.trans ((zA8 hi2 (by rw [hce]; decide)).trans (by rw [hce]))) (by show ¬ (4 : Int) = 0; decide)), hs128.tail⟩)
      | (have hce := count_2 (bf := l.counts.take i) (by assumption : 1 ≤ l.counts[i].bits ∧ l.counts[i].bits ≤ allN l.bunches.length) (by assumption)
         exact ⟨tup3 (chk_c (x := ((i : Int), 7)) (by assumption) hge (by assumption) hbe (by assumption) (hinv.trans ((zA8 hi2 (by rw [hce]; decide)).trans (by rw [hce]))) (by show ¬ (7 : Int) = 0; decide)), hs128.tail⟩)
      | exact ⟨tup3 (chk_ok (by assumption) hge (by assumption) hbe (by assumption) (hinv.trans (zCe (by omega) _))), hs128.tail⟩
   try simp only [zS] at h129
   refine zAx (zAd (hK117 _ _ ?_))
   refine zAg (fun K133 hK132 => ?_)
   refine zAb (w_p (zAh (o := 2) (i := 2) underlying26 rfl sizeOf24 rfl rfl rfl) rfl ?_)
   refine w_p (zAk isAgg24 hs128 rfl rfl (zAj (i := 0) (vs := [_]) rfl rfl)) rfl ?_
   refine w_p (zAe (v := .int _ _) rfl rfl) rfl ?_
   refine w_p (zA7 underlying24 sizeOf63 rfl rfl rfl rfl (i := _) rfl (by omega)) rfl ?_
   refine w_p (zAh (o := 1) (i := 1) underlying63 rfl sizeOf3 rfl rfl rfl) rfl ?_
   refine w_p (zAk isAgg3 hs128.tail rfl rfl (show Ats _ _ _ _ [_] from Ats.part hx 1 1)) rfl ?_
   refine zAt zAa call12 rfl rfl rfl rfl (c12 _ _ _ hs128) ?_
   rintro _ w135 ⟨rfl, hs136⟩
   refine w_p (zDc rfl rfl) rfl ?_
   refine zAf (zAd (hK132 _ _ ?_))
   refine zAz rfl rfl (fun h137 => ?_) (fun h137 => ?_)
   ·
    try simp only [zS] at h137
    refine zAg (fun K139 hK138 => ?_)
    refine zAb (w_p (zAe (v := .int _ _) rfl rfl) rfl ?_)
    refine w_p (zAc (v := _) rfl rfl) rfl ?_
    refine w_p (zAc (v := .int _ _) rfl rfl) rfl ?_
    refine w_p (zAc (v := _) rfl rfl) rfl ?_
    refine zAf (zAd (hK138 _ _ ?_))
    refine zA2 (zA1 (zAm (zAm (zA1 (zAm (zA3 (l := [.tmp 2, .tmp 3, .tmp 4]) (vs := [_, _, _]) rfl ⟨⟨rfl, (rfl : _ = Value.int _ _)⟩, ⟨rfl, (rfl : _ = Value.int _ _)⟩, ⟨rfl, (rfl : _ = Value.int _ _)⟩, trivial⟩ ?_))))))
    first
      | contradiction
      | exact ⟨tup3 (chk_g0 (by assumption)), hs136.tail⟩
      | (refine ⟨tup3 (chk_g (by assumption) (hinv.trans ((zA8 hi2 ?_).trans ?_)) ?_), hs136.tail⟩
         · rw [zCo (by assumption)]; assumption
         · rw [zCo (by assumption)]
         · assumption)
      | (refine ⟨tup3 (chk_g (by assumption) (hinv.trans ((zA8 hi2 ?_).trans ?_)) ?_), hs136.tail⟩
         · rw [zB5 (by assumption)]; assumption
         · rw [zB5 (by assumption)]
         · assumption)
      | exact ⟨tup3 (chk_b0 (by assumption) hge (by assumption)), hs136.tail⟩
      | exact ⟨tup3 (chk_b (by assumption) hge (by assumption) (hinv.trans (zA8 hi2 (by assumption))) (by assumption)), hs136.tail⟩
      | exact ⟨tup3 (chk_c0 (by assumption) hge (by assumption) hbe (by assumption)), hs136.tail⟩
      | (have hce := count_1 (bf := l.counts.take i) (by assumption : ¬ (1 ≤ l.counts[i].bits ∧ l.counts[i].bits ≤ allN l.bunches.length))
         exact ⟨tup3 (chk_c (x := ((i : Int), 4)) (by assumption) hge (by assumption) hbe (by assumption) (hinv.trans ((zA8 hi2 (by rw [hce]; decide)).trans (by rw [hce]))) (by show ¬ (4 : Int) = 0; decide)), hs136.tail⟩)
      | (have hce := count_2 (bf := l.counts.take i) (by assumption : 1 ≤ l.counts[i].bits ∧ l.counts[i].bits ≤ allN l.bunches.length) (by assumption)
         exact ⟨tup3 (chk_c (x := ((i : Int), 7)) (by assumption) hge (by assumption) hbe (by assumption) (hinv.trans ((zA8 hi2 (by rw [hce]; decide)).trans (by rw [hce]))) (by show ¬ (7 : Int) = 0; decide)), hs136.tail⟩)
      | exact ⟨tup3 (chk_ok (by assumption) hge (by assumption) hbe (by assumption) (hinv.trans (zCe (by omega) _))), hs136.tail⟩
   try simp only [zS] at h137
   refine zAx (zAl (zAd (hK115 _ _ ?_)))
   refine zAb (w_p (zAe (v := .int _ _) rfl rfl) rfl ?_)
   refine w_p (zBf rfl rfl rfl rfl (by omega) (by omega)) rfl ?_
   refine w_p (zAc (v := .int _ _) rfl rfl) rfl ?_
   refine zAf (zAd (hN107 _ _ (Nx.intro (l.counts.length - (i + 1)) (by omega) (by repeat (first | exact zAv | refine zAu rfl ?_ | refine zAs rfl ?_ _ | refine zAr rfl ?_)) ?_)))
   exact ⟨i + 1, rfl, by omega, rfl, hinv.trans (zDj hi2 (count_3 (by assumption) (by assumption))), hs136⟩
  try simp only [zS] at h114
  refine zBl (zAo (zAo (zA4 (zAd (hK103 _ _ ?_)))))
  refine zAg (fun K141 hK140 => ?_)
  refine zAb (w_p (zAc (v := _) rfl rfl) rfl ?_)
  refine w_p (zAc (v := _) rfl rfl) rfl ?_
  refine w_p (zAc (v := _) rfl rfl) rfl ?_
  refine zAf (zAd (hK140 _ _ ?_))
  refine zA2 (zA3 (l := [.tmp 2, .tmp 3, .tmp 4]) (vs := [_, _, _]) rfl ⟨⟨rfl, (rfl : _ = Value.int _ _)⟩, ⟨rfl, (rfl : _ = Value.int _ _)⟩, ⟨rfl, (rfl : _ = Value.int _ _)⟩, trivial⟩ ?_)
  first
    | contradiction
    | exact ⟨tup3 (chk_g0 (by assumption)), hs.tail⟩
    | (refine ⟨tup3 (chk_g (by assumption) (hinv.trans ((zA8 hi2 ?_).trans ?_)) ?_), hs.tail⟩
       · rw [zCo (by assumption)]; assumption
       · rw [zCo (by assumption)]
       · assumption)
    | (refine ⟨tup3 (chk_g (by assumption) (hinv.trans ((zA8 hi2 ?_).trans ?_)) ?_), hs.tail⟩
       · rw [zB5 (by assumption)]; assumption
       · rw [zB5 (by assumption)]
       · assumption)
    | exact ⟨tup3 (chk_b0 (by assumption) hge (by assumption)), hs.tail⟩
    | exact ⟨tup3 (chk_b (by assumption) hge (by assumption) (hinv.trans (zA8 hi2 (by assumption))) (by assumption)), hs.tail⟩
    | exact ⟨tup3 (chk_c0 (by assumption) hge (by assumption) hbe (by assumption)), hs.tail⟩
    | (have hce := count_1 (bf := l.counts.take i) (by assumption : ¬ (1 ≤ l.counts[i].bits ∧ l.counts[i].bits ≤ allN l.bunches.length))
       exact ⟨tup3 (chk_c (x := ((i : Int), 4)) (by assumption) hge (by assumption) hbe (by assumption) (hinv.trans ((zA8 hi2 (by rw [hce]; decide)).trans (by rw [hce]))) (by show ¬ (4 : Int) = 0; decide)), hs.tail⟩)
    | (have hce := count_2 (bf := l.counts.take i) (by assumption : 1 ≤ l.counts[i].bits ∧ l.counts[i].bits ≤ allN l.bunches.length) (by assumption)
       exact ⟨tup3 (chk_c (x := ((i : Int), 7)) (by assumption) hge (by assumption) hbe (by assumption) (hinv.trans ((zA8 hi2 (by rw [hce]; decide)).trans (by rw [hce]))) (by show ¬ (7 : Int) = 0; decide)), hs.tail⟩)
    | exact ⟨tup3 (chk_ok (by assumption) hge (by assumption) hbe (by assumption) (hinv.trans (zCe (by omega) _))), hs.tail⟩

end Go.Proofs.Hn
/- Plain words of the hand layer: what the document's functions do, step by step. No conditions. -/
namespace Go.Rt.Ha
theorem of_step {gs : List Grade} {h s : Int} {i : Nat} (hi : i < gs.length) (hn : ¬ (gs[i].hands ≤ h ∧ s ≤ gs[i].scars)) : ofG (gs.drop i) i h s = ofG (gs.drop (i + 1)) (i + 1 : Nat) h s := by
  rw [List.drop_eq_getElem_cons hi]; simp only [ofG]; rw [if_neg hn]; rfl
theorem of_here {gs : List Grade} {h s : Int} {i : Nat} (hi : i < gs.length) (hn : gs[i].hands ≤ h ∧ s ≤ gs[i].scars) : ofG (gs.drop i) i h s = i := by
  rw [List.drop_eq_getElem_cons hi]; simp only [ofG]; rw [if_pos hn]
theorem of_end {gs : List Grade} {h s : Int} {i : Nat} (hi : gs.length ≤ i) : ofG (gs.drop i) i h s = -1 := by rw [List.drop_of_length_le hi]; rfl
theorem bit_dec (b n : Nat) : decide ((((b >>> n : Nat) : Int)) % 2 = 1) = decide (bit b n = 1) := by
  unfold bit
  rw [Nat.and_one_is_mod, Bool.eq_iff_iff]
  simp only [decide_eq_true_eq]; omega
theorem counted_yes {bits : Nat} {h : List Int} {i : Nat} (hi : i < h.length) (hb : bit bits i = 1) : counted bits 0 (h.take (i + 1)) = counted bits 0 (h.take i) + h[i] := by rw [counted_take hi, hb]; simp
theorem counted_no {bits : Nat} {h : List Int} {i : Nat} (hi : i < h.length) (hb : ¬ bit bits i = 1) : counted bits 0 (h.take (i + 1)) = counted bits 0 (h.take i) := by
  have := bit01 bits i
  rw [counted_take hi, show bit bits i = 0 by omega]; simp
theorem soR_snoc (but h : List Int) (c : Count) : ∀ (cs : List Count) (i : Nat), soR but h i (cs ++ [c]) = (soR but h i cs && (hasI but ((i + cs.length : Nat) : Int) || decide (counted c.bits.toNat 0 h = c.hands)))
  | [], i => by simp [soR]
  | x :: cs, i => by
    simp only [List.cons_append, soR, soR_snoc but h c cs (i + 1), List.length_cons, Bool.and_assoc]
    rw [show i + 1 + cs.length = i + (cs.length + 1) by omega]
theorem soR_take {but h : List Int} {cs : List Count} {k : Nat} (hk : k < cs.length) : soR but h 0 (cs.take (k + 1)) = (soR but h 0 (cs.take k) && (hasI but (k : Int) || decide (counted cs[k].bits.toNat 0 h = cs[k].hands))) := by
  rw [List.take_succ_eq_append_getElem hk, soR_snoc, Nat.zero_add, List.length_take, Nat.min_eq_left (by omega)]
theorem filt_yes {ws : List (List Int)} {p : List Int → Bool} {i : Nat} (hi : i < ws.length) (h : p ws[i] = true) : (ws.take (i + 1)).filter p = (ws.take i).filter p ++ [ws[i]] := by
  rw [List.take_succ_eq_append_getElem hi, List.filter_append]; simp [h]
theorem filt_no {ws : List (List Int)} {p : List Int → Bool} {i : Nat} (hi : i < ws.length) (h : p ws[i] = false) : (ws.take (i + 1)).filter p = (ws.take i).filter p := by
  rw [List.take_succ_eq_append_getElem hi, List.filter_append]; simp [h]
theorem listL_zero : ∀ n, listL 0 n = []
  | 0 => rfl
  | n + 1 => by rw [listL, listL_zero n]; simp [bit]
theorem waysR_nil (l : Lot) : waysR l [] = ways l 0 := by rw [← ways_same l 0, listL_zero]
/-! ### All numbers, step by step -/
def feltTo (l : Lot) (i : Nat) : List (List Int) := felt (l.bunches.take i)
def fNext (b : Bunch) (h : List Int) : List (List Int) := (spanL b.lo b.hi).map fun n => h ++ [n]
def fTo (b : Bunch) (ws : List (List Int)) (k : Nat) : List (List Int) := (ws.take k).flatMap (fNext b)
theorem felt_zero (l : Lot) : feltTo l 0 = [[]] := rfl
theorem felt_step {l : Lot} {i : Nat} (hi : i < l.bunches.length) : fTo l.bunches[i] (feltTo l i) (feltTo l i).length = feltTo l (i + 1) := by
  unfold fTo feltTo
  rw [List.take_length, List.take_succ_eq_append_getElem hi, felt_snoc]; rfl
theorem fTo_succ {b : Bunch} {ws : List (List Int)} {k : Nat} (hk : k < ws.length) : fTo b ws (k + 1) = fTo b ws k ++ fNext b ws[k] := by
  unfold fTo; rw [List.take_succ_eq_append_getElem hk, List.flatMap_append]; simp
def fPart (b : Bunch) (h : List Int) (q : Nat) : List (List Int) := (upto b.lo q).map fun n => h ++ [n]
theorem fPart_succ (b : Bunch) (h : List Int) (q : Nat) : fPart b h (q + 1) = fPart b h q ++ [h ++ [b.lo + q]] := by unfold fPart; rw [upto_snoc, List.map_append]; rfl
theorem fPart_all {b : Bunch} {h : List Int} {q : Nat} (hq : q = (b.hi + 1 - b.lo).toNat) : fPart b h q = fNext b h := by subst hq; rfl
theorem upto_len : ∀ (n : Nat) (lo : Int), (upto lo n).length = n
  | 0, _ => rfl
  | n + 1, lo => by simp [upto, upto_len n]
theorem fPart_len (b : Bunch) (h : List Int) (q : Nat) : (fPart b h q).length = q := by simp [fPart, upto_len]
theorem fTo_len {b : Bunch} {ws : List (List Int)} (hb : b.hi + 1 - b.lo ≤ 4) (k : Nat) : (fTo b ws k).length ≤ 4 * ws.length := by
  have h1 : (fTo b ws k).length ≤ (ws.take k).length * 4 := flat_le _ fun x _ => by unfold fNext spanL; rw [List.length_map, upto_len]; omega
  have h2 : (ws.take k).length ≤ ws.length := by rw [List.length_take]; omega
  have h3 : (ws.take k).length * 4 ≤ ws.length * 4 := Nat.mul_le_mul_right 4 h2
  omega
theorem feltTo_len {l : Lot} (hok : l.Ok) {i : Nat} (hi : i ≤ l.bunches.length) : (feltTo l i).length ≤ 4096 := by
  have h1 := felt_len (bs := l.bunches.take i) (fun b hb => by have := hok.bunch b (List.mem_of_mem_take hb); omega)
  have h2 : (l.bunches.take i).length ≤ 6 := by have := hok.lb; rw [List.length_take]; omega
  have h3 : 4 ^ (l.bunches.take i).length ≤ 4 ^ 6 := Nat.pow_le_pow_right (by omega) h2
  have h4 := ways_max
  unfold feltTo; omega
theorem feltTo_in {l : Lot} {i : Nat} (hi : i ≤ l.bunches.length) {h : List Int} (hh : h ∈ feltTo l i) : h.length = i := by
  have := ((felt_in _ _).1 hh).1
  rw [List.length_take, Nat.min_eq_left hi] at this; exact this
theorem feltTo_all (l : Lot) : feltTo l l.bunches.length = felt l.bunches := by unfold feltTo; rw [List.take_length]
/-! ### Errors -/
def kE (l : Lot) (e : Int) : Int := if e ≠ 0 then e else if ways l 0 = [] then 8 else 0
def idxC (l : Lot) (n : Int) (b : Nat) : Int := if (check l).2.2 = 0 then idxE n b else (check l).2.2
end Go.Rt.Ha
/- Plain words that laws of all layers share: numbers by turns, bits. No conditions. -/
namespace Go.Rt
def turnOf (x : List Int) (n : Nat) : Int := if x.length = 0 then 0 else x.getD (n % x.length) 0
theorem turn_in {x : List Int} (h : ∀ z ∈ x, 0 ≤ z ∧ z ≤ 255) (n : Nat) : 0 ≤ turnOf x n ∧ turnOf x n ≤ 255 := by
  unfold turnOf
  split
  · omega
  · rename_i h0
    have hl : n % x.length < x.length := Nat.mod_lt _ (by omega)
    simp only [List.getD, List.getElem?_eq_getElem hl, Option.getD_some]
    exact h _ (List.getElem_mem hl)
theorem turn_at {x : List Int} {n : Nat} (h : 0 < x.length) : x[n % x.length]'(Nat.mod_lt _ h) = turnOf x n := by
  unfold turnOf
  rw [if_neg (by omega)]
  simp [List.getD, Nat.mod_lt _ h]
theorem shr_half (b i : Nat) : (b >>> i : Nat) / 2 = b >>> (i + 1) := by rw [Nat.shiftRight_succ]
theorem shr_le (b i : Nat) : b >>> i ≤ b := by rw [Nat.shiftRight_eq_div_pow]; exact Nat.div_le_self _ _
end Go.Rt
set_option maxRecDepth 20000
namespace Go.Proofs.Hn
open Go.Proofs.Tryz
open Go.Rt Go.Rt.Ha
attribute [local irreducible] WL WC Con Yd At Ats Sl Agree DW

theorem ats_ofR {w0 w : World} {L : List (Nat × Obj)} {i b : Nat} {t : TypeId} {cs vs : List Value} (hs : St w0 w L) (hi : L[i]? = some (b, blk t cs)) (h : (cs.drop 0).take vs.length = vs) : Ats w0 L b 0 vs := zAj hi h
theorem bi2 {a b : Bool} {c d : Int} (h : a = b) (k : c = d) : [Value.bool a, Value.int .i64 c] = [Value.bool b, Value.int .i64 d] := by rw [h, k]
theorem sl_u8 {w0 : World} {F : List (Nat × Obj)} {a : Option Addr} {l : List Int} {i : Nat} (h : Sl w0 F a 1 (l.map fun x => [Value.int .u8 x])) (hi : i < l.length) :
    ∃ b off, a = some ⟨b, off, none⟩ ∧ Ats w0 F b (off + i * 1) [.int .u8 l[i]] := by
  obtain ⟨b, off, ha, _, hat⟩ := h.at (i := i) (row := [.int .u8 l[i]]) (by simp [hi])
  exact ⟨b, off, ha, hat⟩
theorem c78 {w0 w : World} {F : List (Nat × Obj)} (ax : Option Addr) (cx : Nat) (x : List Int) (hxl : x.length ≤ 9223372036854775807) (hxs : Sl w0 F ax 1 (x.map fun n => [Value.int .u8 n])) (hxr : ∀ z ∈ x, 0 ≤ z ∧ z ≤ 255) (n : Nat) (hs : St w0 w F) : Con Tryz.prog 78 [.slice ax x.length cx, .int .i64 (n : Int)] w fun v w' => v = .int .i64 (turnOf x n) ∧ St w0 w' F := by
  refine zAw (n := 16) func78 rfl rfl (Nat.le_of_ble_eq_true rfl) ?_
  refine zAg (fun K2 hK1 => ?_)
  refine zAb (w_p (zAc (v := _) rfl rfl) rfl ?_)
  refine zAf (zAd (hK1 _ _ ?_))
  refine zAg (fun K4 hK3 => ?_)
  refine zAg (fun K6 hK5 => ?_)
  refine zAb (w_p (zAe (v := .slice _ _ _) rfl rfl) rfl ?_)
  refine w_p (zBd underlying33 rfl rfl) rfl ?_
  refine w_p (zBy rfl rfl rfl rfl) rfl ?_
  refine zAf (zAd (hK5 _ _ ?_))
  refine zAz rfl rfl (fun h7 => ?_) (fun h7 => ?_)
  ·
   try simp only [zS] at h7
   refine zAg (fun K9 hK8 => ?_)
   refine zAb (w_p (zAc (v := _) rfl rfl) rfl ?_)
   refine zAf (zAd (hK8 _ _ ?_))
   refine zA2 (zAm (zA3 (l := [.tmp 4]) (vs := [_]) rfl ⟨⟨rfl, (rfl : _ = Value.int _ _)⟩, trivial⟩ ?_))
   first
     | exact ⟨congrArg (Value.int .i64) (by unfold turnOf; rw [if_pos (by omega)]), hs⟩
     | exact ⟨congrArg (Value.int .i64) (turn_at hx0), hs⟩
  try simp only [zS] at h7
  refine zAx (zAd (hK3 _ _ ?_))
  refine zAg (fun K11 hK10 => ?_)
  have hx0 : 0 < x.length := by omega
  have hm := Nat.mod_lt n hx0
  obtain ⟨bx, ox, rfl, hx⟩ := sl_u8 hxs hm
  have hr := hxr _ (List.getElem_mem hm)
  refine zAb (w_p (zAe (v := .slice _ _ _) rfl rfl) rfl ?_)
  refine w_p (zAe (v := .int _ _) rfl rfl) rfl ?_
  refine w_p (zAe (v := .slice _ _ _) rfl rfl) rfl ?_
  refine w_p (zBd underlying33 rfl rfl) rfl ?_
  refine w_p (y_rem rfl rfl rfl rfl (by omega) (by omega)) rfl ?_
  refine w_p (zA7 underlying33 sizeOf5 rfl rfl rfl rfl (i := n % x.length) (by simp) hm) rfl ?_
  refine w_p (zAk isAgg5 hs rfl rfl hx) rfl ?_
  refine w_p (y_u8int (by rw [underlying5]; rfl) underlying3 rfl rfl (by omega) (by omega)) rfl ?_
  refine w_p (zAc (v := .int _ _) rfl rfl) rfl ?_
  refine zAf (zAd (hK10 _ _ ?_))
  refine zA2 (zA3 (l := [.tmp 4]) (vs := [_]) rfl ⟨⟨rfl, (rfl : _ = Value.int _ _)⟩, trivial⟩ ?_)
  first
    | exact ⟨congrArg (Value.int .i64) (by unfold turnOf; rw [if_pos (by omega)]), hs⟩
    | exact ⟨congrArg (Value.int .i64) (turn_at hx0), hs⟩

theorem c57 {w0 w : World} {F : List (Nat × Obj)} (b n : Nat) (hb : b ≤ 9223372036854775807) (hn : n ≤ 9223372036854775807) (hs : St w0 w F) : Con Tryz.prog 57 [.int .i64 (b : Int), .int .i64 (n : Int)] w fun v w' => v = .bool (decide ((((b >>> n : Nat) : Int)) % 2 = 1)) ∧ St w0 w' F := by
  refine zAw (n := 16) func57 rfl rfl (Nat.le_of_ble_eq_true rfl) ?_
  refine zAg (fun K2 hK1 => ?_)
  refine zAb (w_p (zAc (v := _) rfl rfl) rfl ?_)
  refine zAf (zAd (hK1 _ _ ?_))
  refine zAg (fun K4 hK3 => ?_)
  refine zAg (fun K6 hK5 => ?_)
  refine zAb (w_p (zAc (v := _) rfl rfl) rfl ?_)
  refine zAf (zAd (hK5 _ _ ?_))
  refine zAy ?_
  refine zBp [0, 5, 6, 7, 8, 9, 10, 11, 12] [0, 5] (fun k vs w => ∃ i : Nat, vs = [.int .i64 ((b >>> i : Nat) : Int), .int .i64 i] ∧ i ≤ n ∧ k = n - i ∧ St w0 w F) (n) ?_ ?_
  ·
   exact ⟨0, rfl, by omega, by omega, hs⟩
  intro k vs μ w9 hI K8 hN7
  obtain ⟨i, rfl, hia, rfl, hs⟩ := hI
  have hsl := shr_le b i
  have hsl0 : (0 : Int) ≤ ((b >>> i : Nat) : Int) := Int.natCast_nonneg _
  refine zAg (fun K11 hK10 => ?_)
  refine zAg (fun K13 hK12 => ?_)
  refine zAb (w_p (zAe (v := .int _ _) rfl rfl) rfl ?_)
  refine w_p (zAe (v := .int _ _) rfl rfl) rfl ?_
  refine w_p (zBt rfl rfl rfl rfl) rfl ?_
  refine zAf (zAd (hK12 _ _ ?_))
  refine zAz rfl rfl (fun h14 => ?_) (fun h14 => ?_)
  ·
   try simp only [zS] at h14
   refine zAx (zAd (hK10 _ _ ?_))
   refine zAg (fun K16 hK15 => ?_)
   refine zAy ?_
   refine zAb (w_p (zAe (v := .int _ _) rfl rfl) rfl ?_)
   refine w_p (y_quo rfl rfl rfl rfl (by omega) (by omega) (by omega)) rfl ?_
   refine w_p (zAc (v := .int _ _) rfl rfl) rfl ?_
   refine zAf (zAl (zAd (hK15 _ _ ?_)))
   refine zAb (w_p (zAe (v := .int _ _) rfl rfl) rfl ?_)
   refine w_p (zBf rfl rfl rfl rfl (by omega) (by omega)) rfl ?_
   refine w_p (zAc (v := .int _ _) rfl rfl) rfl ?_
   refine zAf (zAd (hN7 _ _ (Nx.intro (n - (i + 1)) (by omega) (by repeat (first | exact zAv | refine zAu rfl ?_ | refine zAs rfl ?_ _ | refine zAr rfl ?_)) ?_)))
   exact ⟨i + 1, by rw [← shr_half]; rfl, by omega, rfl, hs⟩
  try simp only [zS] at h14
  refine zBl (zAo (zAo (zA4 (zAd (hK3 _ _ ?_)))))
  refine zAg (fun K18 hK17 => ?_)
  refine zAb (w_p (zAe (v := .int _ _) rfl rfl) rfl ?_)
  refine w_p (y_rem rfl rfl rfl rfl (by omega) (by omega)) rfl ?_
  refine w_p (zBy rfl rfl rfl rfl) rfl ?_
  refine w_p (zAc (v := .bool _) rfl rfl) rfl ?_
  refine zAf (zAd (hK17 _ _ ?_))
  refine zA2 (zA3 (l := [.tmp 4]) (vs := [_]) rfl ⟨⟨rfl, (rfl : _ = Value.bool _)⟩, trivial⟩ ?_)
  have hin : i = n := by omega
  subst hin
  exact ⟨rfl, hs⟩

theorem bit_con {w0 w : World} {F : List (Nat × Obj)} (z : Int) (n : Nat) (hz : 0 ≤ z) (hz2 : z ≤ 9223372036854775807) (hn : n ≤ 9223372036854775807) (hs : St w0 w F) : Con Tryz.prog 57 [.int .i64 z, .int .i64 (n : Int)] w fun v w' => v = .bool (decide (bit z.toNat n = 1)) ∧ St w0 w' F := by
  have h := c57 z.toNat n (by omega) hn hs
  rw [Int.toNat_of_nonneg hz, bit_dec] at h
  exact h
theorem c21 {w0 w : World} {F : List (Nat × Obj)} (al : Option Addr) (cl : Nat) (l : List Int) (hll : l.length ≤ 9223372036854775807) (hl : Sl w0 F al 1 (l.map fun x => [Value.int .i64 x])) (z : Int) (hs : St w0 w F) :
  Con Tryz.prog 21 [.slice al l.length cl, .int .i64 z] w fun v w' => v = .bool (hasI l z) ∧ St w0 w' F := by
  refine zAw (n := 23) func21 rfl rfl (Nat.le_of_ble_eq_true rfl) ?_
  refine zAg (fun K2 hK1 => ?_)
  refine zAb (w_p (zAc (v := _) rfl rfl) rfl ?_)
  refine zAf (zAd (hK1 _ _ ?_))
  refine zAg (fun K4 hK3 => ?_)
  refine zAb (w_p (zAc (v := _) rfl rfl) rfl ?_)
  refine zAf (zAd (hK3 _ _ ?_))
  refine zAg (fun K6 hK5 => ?_)
  refine zAg (fun K8 hK7 => ?_)
  refine zAb (w_p (zAc (v := _) rfl rfl) rfl ?_)
  refine zAf (zAd (hK7 _ _ ?_))
  refine zAy ?_
  refine zBp [5, 6, 7, 8, 9, 10, 11, 12, 13, 14, 15, 16, 17, 18, 19, 20, 21] [5, 6] (fun k vs w => ∃ i : Nat, vs = [.bool (hasI (l.take i) z), .int .i64 i] ∧ i ≤ l.length ∧ k = l.length - i ∧ St w0 w F) (l.length) ?_ ?_
  ·
   exact ⟨0, rfl, by omega, by omega, hs⟩
  intro k vs μ w11 hI K10 hN9
  obtain ⟨i, rfl, hia, rfl, hs⟩ := hI
  generalize hb : hasI (l.take i) z = b
  refine zAg (fun K13 hK12 => ?_)
  refine zAg (fun K15 hK14 => ?_)
  refine zAb (w_p (zAe (v := .int _ _) rfl rfl) rfl ?_)
  refine w_p (zAe (v := .slice _ _ _) rfl rfl) rfl ?_
  refine w_p (zBd underlying43 rfl rfl) rfl ?_
  refine w_p (zBt rfl rfl rfl rfl) rfl ?_
  refine zAf (zAd (hK14 _ _ ?_))
  refine zAz rfl rfl (fun h16 => ?_) (fun h16 => ?_)
  ·
   try simp only [zS] at h16
   refine zAx (zAd (hK12 _ _ ?_))
   refine zAg (fun K18 hK17 => ?_)
   refine zAy ?_
   have hi2 : i < l.length := by omega
   obtain ⟨bx, ox, hbx, hx⟩ := zC1 hl hi2
   subst hbx
   refine zAb (w_p (zAe (v := .bool _) rfl rfl) rfl ?_)
   refine w_p (zAe (v := .bool _) rfl rfl) rfl ?_
   refine zBi (fun h19 => ?_) (fun h19 => ?_)
   ·
    subst h19
    refine zAi rfl rfl rfl ?_
    refine zAi rfl rfl rfl ?_
    refine zAi rfl rfl rfl ?_
    refine zAi rfl rfl rfl ?_
    refine zAi rfl rfl rfl ?_
    refine zAi rfl rfl rfl ?_
    refine w_p (zA0 (v := _) rfl rfl rfl rfl) rfl ?_
    refine w_p (zAc (v := .bool _) rfl rfl) rfl ?_
    refine zAf (zAl (zAd (hK17 _ _ ?_)))
    refine zAb (w_p (zAe (v := .int _ _) rfl rfl) rfl ?_)
    refine w_p (zBf rfl rfl rfl rfl (by omega) (by omega)) rfl ?_
    refine w_p (zAc (v := .int _ _) rfl rfl) rfl ?_
    refine zAf (zAd (hN9 _ _ (Nx.intro (l.length - (i + 1)) (by omega) (by repeat (first | exact zAv | refine zAu rfl ?_ | refine zAs rfl ?_ _ | refine zAr rfl ?_)) ?_)))
    first
      | exact ⟨i + 1, bi2 (by rw [hasI_succ hi2, hb]; simp) rfl, by omega, rfl, hs⟩
      | exact ⟨i + 1, bi2 (by rw [hasI_succ hi2, hb]; rfl) rfl, by omega, rfl, hs⟩
   subst h19
   refine w_y rfl rfl rfl (zAe (v := .slice _ _ _) rfl rfl) rfl ?_
   refine w_y rfl rfl rfl (zAe (v := .int _ _) rfl rfl) rfl ?_
   refine w_y rfl rfl rfl (zA7 underlying43 sizeOf3 rfl rfl rfl rfl (i := _) rfl (by omega)) rfl ?_
   refine w_y rfl rfl rfl (zAk isAgg3 hs rfl rfl hx) rfl ?_
   refine w_y rfl rfl rfl (zAe (v := .int _ _) rfl rfl) rfl ?_
   refine w_y rfl rfl rfl (zBy rfl rfl rfl rfl) rfl ?_
   refine w_p (zBb (v := .bool _) rfl rfl rfl rfl) rfl ?_
   refine w_p (zAc (v := .bool _) rfl rfl) rfl ?_
   refine zAf (zAl (zAd (hK17 _ _ ?_)))
   refine zAb (w_p (zAe (v := .int _ _) rfl rfl) rfl ?_)
   refine w_p (zBf rfl rfl rfl rfl (by omega) (by omega)) rfl ?_
   refine w_p (zAc (v := .int _ _) rfl rfl) rfl ?_
   refine zAf (zAd (hN9 _ _ (Nx.intro (l.length - (i + 1)) (by omega) (by repeat (first | exact zAv | refine zAu rfl ?_ | refine zAs rfl ?_ _ | refine zAr rfl ?_)) ?_)))
   first
     | exact ⟨i + 1, bi2 (by rw [hasI_succ hi2, hb]; simp) rfl, by omega, rfl, hs⟩
     | exact ⟨i + 1, bi2 (by rw [hasI_succ hi2, hb]; rfl) rfl, by omega, rfl, hs⟩
  try simp only [zS] at h16
  refine zBl (zAo (zAo (zA4 (zAd (hK5 _ _ ?_)))))
  refine zAg (fun K21 hK20 => ?_)
  refine zAb (w_p (zAe (v := .bool _) rfl rfl) rfl ?_)
  refine w_p (zAc (v := .bool _) rfl rfl) rfl ?_
  refine zAf (zAd (hK20 _ _ ?_))
  refine zA2 (zA3 (l := [.tmp 4]) (vs := [_]) rfl ⟨⟨rfl, (rfl : _ = Value.bool _)⟩, trivial⟩ ?_)
  exact ⟨congrArg Value.bool (by have hil : i = l.length := (by omega); subst hil; rw [List.take_length] at hb; exact hb.symm), hs⟩

theorem c22 {w0 w : World} {F : List (Nat × Obj)} (c : Count) (hc : 0 ≤ c.bits ∧ c.bits ≤ 63) (ah : Option Addr) (ch : Nat) (h : List Int) (hh6 : h.length ≤ 6) (hh : ∀ z ∈ h, 0 ≤ z ∧ z ≤ 12) (hsl : Sl w0 F ah 1 (h.map fun x => [Value.int .i64 x])) (hs : St w0 w F) :
  Con Tryz.prog 22 [.agg c.cells.toArray, .slice ah h.length ch] w fun v w' => v = .int .i64 (counted c.bits.toNat 0 h) ∧ St w0 w' F := by
  refine zAw (n := 24) func22 rfl rfl (Nat.le_of_ble_eq_true rfl) ?_
  refine zAg (fun K2 hK1 => ?_)
  refine zAb (zB3 (v := .agg #[.int _ _, .int _ _]) (cs := [_, _]) zAa rfl rfl rfl hs (fun b3 w4 hs5 => ?_))
  refine w_p (zAc (v := _) rfl rfl) rfl ?_
  refine zAf (zAd (hK1 _ _ ?_))
  refine zAg (fun K7 hK6 => ?_)
  refine zAb (w_p (zAc (v := _) rfl rfl) rfl ?_)
  refine zAf (zAd (hK6 _ _ ?_))
  refine zAg (fun K9 hK8 => ?_)
  refine zAg (fun K11 hK10 => ?_)
  refine zAb (w_p (zAc (v := _) rfl rfl) rfl ?_)
  refine zAf (zAd (hK10 _ _ ?_))
  refine zAy ?_
  refine zBp [5, 6, 7, 8, 9, 10, 11, 12, 13, 14, 15, 16, 17, 18, 19, 20, 21, 22] [5, 6] (fun k vs w => ∃ i : Nat, vs = [.int .i64 (counted c.bits.toNat 0 (h.take i)), .int .i64 i] ∧ i ≤ h.length ∧ k = h.length - i ∧ St w0 w ((b3, blk 63 c.cells) :: F)) (h.length) ?_ ?_
  ·
   exact ⟨0, rfl, by omega, by omega, hs5⟩
  intro k vs μ w14 hI K13 hN12
  obtain ⟨i, rfl, hia, rfl, hs⟩ := hI
  have hcb := counted_bound (bits := c.bits.toNat) hh i hh6
  refine zAg (fun K16 hK15 => ?_)
  refine zAg (fun K18 hK17 => ?_)
  refine zAb (w_p (zAe (v := .int _ _) rfl rfl) rfl ?_)
  refine w_p (zAe (v := .slice _ _ _) rfl rfl) rfl ?_
  refine w_p (zBd underlying43 rfl rfl) rfl ?_
  refine w_p (zBt rfl rfl rfl rfl) rfl ?_
  refine zAf (zAd (hK17 _ _ ?_))
  refine zAz rfl rfl (fun h19 => ?_) (fun h19 => ?_)
  ·
   try simp only [zS] at h19
   refine zAx (zAd (hK15 _ _ ?_))
   refine zAg (fun K21 hK20 => ?_)
   refine zAy ?_
   refine zAg (fun K23 hK22 => ?_)
   have hi2 : i < h.length := by omega
   obtain ⟨bx, ox, hbx, hx⟩ := zC1 hsl hi2
   subst hbx
   have hg := hh _ (List.getElem_mem hi2)
   refine zAb (w_p (zAh (o := 0) (i := 0) underlying63 rfl sizeOf3 rfl rfl rfl) rfl ?_)
   refine w_p (zAk isAgg3 hs rfl rfl (zAj (i := 0) (vs := [_]) rfl rfl)) rfl ?_
   refine w_p (zAe (v := .int _ _) rfl rfl) rfl ?_
   refine zAt zAa call57 rfl rfl rfl rfl (bit_con c.bits i (by omega) (by omega) (by omega) hs) ?_
   rintro _ w25 ⟨rfl, hs26⟩
   refine zAf (zAd (hK22 _ _ ?_))
   refine zAz rfl rfl (fun h27 => ?_) (fun h27 => ?_)
   ·
    try simp only [zS] at h27
    refine zAb (w_p (zAe (v := .int _ _) rfl rfl) rfl ?_)
    refine w_p (zAe (v := .slice _ _ _) rfl rfl) rfl ?_
    refine w_p (zAe (v := .int _ _) rfl rfl) rfl ?_
    refine w_p (zA7 underlying43 sizeOf3 rfl rfl rfl rfl (i := _) rfl (by omega)) rfl ?_
    refine w_p (zAk isAgg3 hs26.tail rfl rfl hx) rfl ?_
    refine w_p (zBf rfl rfl rfl rfl (by omega) (by omega)) rfl ?_
    refine w_p (zAc (v := .int _ _) rfl rfl) rfl ?_
    refine zAf (zAl (zAd (hK20 _ _ ?_)))
    refine zAb (w_p (zAe (v := .int _ _) rfl rfl) rfl ?_)
    refine w_p (zBf rfl rfl rfl rfl (by omega) (by omega)) rfl ?_
    refine w_p (zAc (v := .int _ _) rfl rfl) rfl ?_
    refine zAf (zAd (hN12 _ _ (Nx.intro (h.length - (i + 1)) (by omega) (by repeat (first | exact zAv | refine zAu rfl ?_ | refine zAs rfl ?_ _ | refine zAr rfl ?_)) ?_)))
    first
      | exact ⟨i + 1, iv2 (counted_yes hi2 (by assumption)).symm rfl, by omega, rfl, hs26⟩
      | exact ⟨i + 1, iv2 (counted_no hi2 (by assumption)).symm rfl, by omega, rfl, hs26⟩
   try simp only [zS] at h27
   refine zAx (zAl (zAd (hK20 _ _ ?_)))
   refine zAb (w_p (zAe (v := .int _ _) rfl rfl) rfl ?_)
   refine w_p (zBf rfl rfl rfl rfl (by omega) (by omega)) rfl ?_
   refine w_p (zAc (v := .int _ _) rfl rfl) rfl ?_
   refine zAf (zAd (hN12 _ _ (Nx.intro (h.length - (i + 1)) (by omega) (by repeat (first | exact zAv | refine zAu rfl ?_ | refine zAs rfl ?_ _ | refine zAr rfl ?_)) ?_)))
   first
     | exact ⟨i + 1, iv2 (counted_yes hi2 (by assumption)).symm rfl, by omega, rfl, hs26⟩
     | exact ⟨i + 1, iv2 (counted_no hi2 (by assumption)).symm rfl, by omega, rfl, hs26⟩
  try simp only [zS] at h19
  refine zBl (zAo (zAo (zA4 (zAd (hK8 _ _ ?_)))))
  refine zAg (fun K29 hK28 => ?_)
  refine zAb (w_p (zAe (v := .int _ _) rfl rfl) rfl ?_)
  refine w_p (zAc (v := .int _ _) rfl rfl) rfl ?_
  refine zAf (zAd (hK28 _ _ ?_))
  refine zA2 (zA3 (l := [.tmp 4]) (vs := [_]) rfl ⟨⟨rfl, (rfl : _ = Value.int _ _)⟩, trivial⟩ ?_)
  have hil : i = h.length := by omega
  subst hil
  exact ⟨congrArg (Value.int .i64) (by rw [List.take_length]), hs.tail⟩

theorem iv_v {v : Value} {a b : Int} (h : a = b) : [v, Value.int .i64 a] = [v, Value.int .i64 b] := by rw [h]
theorem c43 {w0 w : World} {F : List (Nat × Obj)} (l : Lot) (p : At3) (hm : LIn w0 F l p) (h s : Int) (hs : St w0 w F) :
  Con Tryz.prog 43 [.agg (l.cells p).toArray, .int .i64 h, .int .i64 s] w fun v w' => v = .int .i64 (ofG l.grades 0 h s) ∧ St w0 w' F := by
  refine zAw (n := 34) func43 rfl rfl (Nat.le_of_ble_eq_true rfl) ?_
  obtain ⟨ag, cg, ab, cb, ac, cc⟩ := p
  have hlg := hm.lg
  refine zAg (fun K2 hK1 => ?_)
  refine zAb (zB3 (v := .agg #[.slice _ _ _, .slice _ _ _, .slice _ _ _]) (cs := [_, _, _]) zAa rfl rfl rfl hs (fun b3 w4 hs5 => ?_))
  refine w_p (zAc (v := _) rfl rfl) rfl ?_
  refine zAf (zAd (hK1 _ _ ?_))
  refine zAg (fun K7 hK6 => ?_)
  refine zAg (fun K9 hK8 => ?_)
  refine zAb (w_p (zAc (v := _) rfl rfl) rfl ?_)
  refine zAf (zAd (hK8 _ _ ?_))
  refine zAy ?_
  refine zBp [6, 7, 8, 9, 10, 11, 12, 13, 14, 15, 16, 17, 18, 19, 20, 21, 22, 23, 24, 25, 26, 27, 28, 29, 30, 31, 32, 33] [7] (fun k vs w => ∃ i : Nat, vs = [.int .i64 i] ∧ i ≤ l.grades.length ∧ k = l.grades.length - i ∧ ofG l.grades 0 h s = ofG (l.grades.drop i) i h s ∧ St w0 w ((b3, blk 26 (l.cells ⟨ag, cg, ab, cb, ac, cc⟩)) :: F)) (l.grades.length) ?_ ?_
  ·
   exact ⟨0, rfl, by omega, by omega, rfl, hs5⟩
  intro k vs μ w12 hI K11 hN10
  obtain ⟨i, rfl, hia, rfl, hinv, hs⟩ := hI
  refine zAg (fun K14 hK13 => ?_)
  refine zAg (fun K16 hK15 => ?_)
  refine zAb (w_p (zAe (v := .int _ _) rfl rfl) rfl ?_)
  refine w_p (zAh (o := 0) (i := 0) underlying26 rfl sizeOf22 rfl rfl rfl) rfl ?_
  refine w_p (zAk isAgg22 hs rfl rfl (zAj (i := 0) (vs := [_]) rfl rfl)) rfl ?_
  refine w_p (zBd underlying22 rfl rfl) rfl ?_
  refine w_p (zBt rfl rfl rfl rfl) rfl ?_
  refine zAf (zAd (hK15 _ _ ?_))
  refine zAz rfl rfl (fun h17 => ?_) (fun h17 => ?_)
  ·
   try simp only [zS] at h17
   refine zAx (zAd (hK13 _ _ ?_))
   refine zAg (fun K19 hK18 => ?_)
   refine zAy ?_
   refine zAg (fun K21 hK20 => ?_)
   have hi2 : i < l.grades.length := by omega
   obtain ⟨bx, ox, hbx, hx⟩ := sl_grows hm.g hi2
   subst hbx
   refine zAb (w_p (zAe (v := .int _ _) rfl rfl) rfl ?_)
   refine w_p (zAh (o := 0) (i := 0) underlying26 rfl sizeOf22 rfl rfl rfl) rfl ?_
   refine w_p (zAk isAgg22 hs rfl rfl (zAj (i := 0) (vs := [_]) rfl rfl)) rfl ?_
   refine w_p (zAe (v := .int _ _) rfl rfl) rfl ?_
   refine w_p (zA7 underlying22 sizeOf57 rfl rfl rfl rfl (i := _) rfl (by omega)) rfl ?_
   refine w_p (zAh (o := 1) (i := 1) underlying57 rfl sizeOf3 rfl rfl rfl) rfl ?_
   refine w_p (zAk isAgg3 hs.tail rfl rfl (show Ats _ _ _ _ [_] from Ats.part hx 1 1)) rfl ?_
   refine w_p (y_geq rfl rfl rfl rfl) rfl ?_
   refine w_p (zAe (v := .bool _) rfl rfl) rfl ?_
   refine zBi (fun h22 => ?_) (fun h22 => ?_)
   ·
    try simp only [zS] at h22
    refine w_y rfl rfl rfl (zAe (v := .int _ _) rfl rfl) rfl ?_
    refine w_y rfl rfl rfl (zAh (o := 0) (i := 0) underlying26 rfl sizeOf22 rfl rfl rfl) rfl ?_
    refine w_y rfl rfl rfl (zAk isAgg22 hs rfl rfl (zAj (i := 0) (vs := [_]) rfl rfl)) rfl ?_
    refine w_y rfl rfl rfl (zAe (v := .int _ _) rfl rfl) rfl ?_
    refine w_y rfl rfl rfl (zA7 underlying22 sizeOf57 rfl rfl rfl rfl (i := _) rfl (by omega)) rfl ?_
    refine w_y rfl rfl rfl (zAh (o := 2) (i := 2) underlying57 rfl sizeOf3 rfl rfl rfl) rfl ?_
    refine w_y rfl rfl rfl (zAk isAgg3 hs.tail rfl rfl (show Ats _ _ _ _ [_] from Ats.part hx 2 1)) rfl ?_
    refine w_y rfl rfl rfl (y_leq rfl rfl rfl rfl) rfl ?_
    refine w_p (zA0 (v := .bool _) rfl rfl rfl rfl) rfl ?_
    refine zAf (zAd (hK20 _ _ ?_))
    refine zAz rfl rfl (fun h23 => ?_) (fun h23 => ?_)
    ·
     try simp only [zS] at h23
     refine zAg (fun K25 hK24 => ?_)
     refine zAb (w_p (zAe (v := .int _ _) rfl rfl) rfl ?_)
     refine w_p (zAc (v := .int _ _) rfl rfl) rfl ?_
     refine zAf (zAd (hK24 _ _ ?_))
     refine zA2 (zA1 (zAm (zAm (zA1 (zAm (zA3 (l := [.tmp 6]) (vs := [_]) rfl ⟨⟨rfl, (rfl : _ = Value.int _ _)⟩, trivial⟩ ?_))))))
     first
       | exact ⟨congrArg (Value.int .i64) (hinv.trans (of_here hi2 (by omega))).symm, hs.tail⟩
       | exact ⟨congrArg (Value.int .i64) (hinv.trans (of_end (by omega))).symm, hs.tail⟩
    try simp only [zS] at h23
    refine zAx (zAl (zAd (hK18 _ _ ?_)))
    refine zAb (w_p (zAe (v := .int _ _) rfl rfl) rfl ?_)
    refine w_p (zBf rfl rfl rfl rfl (by omega) (by omega)) rfl ?_
    refine w_p (zAc (v := .int _ _) rfl rfl) rfl ?_
    refine zAf (zAd (hN10 _ _ (Nx.intro (l.grades.length - (i + 1)) (by omega) (by repeat (first | exact zAv | refine zAu rfl ?_ | refine zAs rfl ?_ _ | refine zAr rfl ?_)) ?_)))
    exact ⟨i + 1, rfl, by omega, rfl, hinv.trans (of_step hi2 (by omega)), hs⟩
   try simp only [zS] at h22
   refine zAi rfl rfl rfl ?_
   refine zAi rfl rfl rfl ?_
   refine zAi rfl rfl rfl ?_
   refine zAi rfl rfl rfl ?_
   refine zAi rfl rfl rfl ?_
   refine zAi rfl rfl rfl ?_
   refine zAi rfl rfl rfl ?_
   refine zAi rfl rfl rfl ?_
   refine w_p (zBb (v := _) rfl rfl rfl rfl) rfl ?_
   refine zAf (zAd (hK20 _ _ ?_))
   refine zB0 rfl rfl ?_
   refine zAx (zAl (zAd (hK18 _ _ ?_)))
   refine zAb (w_p (zAe (v := .int _ _) rfl rfl) rfl ?_)
   refine w_p (zBf rfl rfl rfl rfl (by omega) (by omega)) rfl ?_
   refine w_p (zAc (v := .int _ _) rfl rfl) rfl ?_
   refine zAf (zAd (hN10 _ _ (Nx.intro (l.grades.length - (i + 1)) (by omega) (by repeat (first | exact zAv | refine zAu rfl ?_ | refine zAs rfl ?_ _ | refine zAr rfl ?_)) ?_)))
   exact ⟨i + 1, rfl, by omega, rfl, hinv.trans (of_step hi2 (by omega)), hs⟩
  try simp only [zS] at h17
  refine zBl (zAo (zAo (zA4 (zAd (hK6 _ _ ?_)))))
  refine zAg (fun K27 hK26 => ?_)
  refine zAb (w_p (zAc (v := _) rfl rfl) rfl ?_)
  refine zAf (zAd (hK26 _ _ ?_))
  refine zA2 (zA3 (l := [.tmp 6]) (vs := [_]) rfl ⟨⟨rfl, (rfl : _ = Value.int _ _)⟩, trivial⟩ ?_)
  first
    | exact ⟨congrArg (Value.int .i64) (hinv.trans (of_here hi2 (by omega))).symm, hs.tail⟩
    | exact ⟨congrArg (Value.int .i64) (hinv.trans (of_end (by omega))).symm, hs.tail⟩

end Go.Proofs.Hn
/- Plain law of the hand layer: a lot that is told by a way denies nothing. No conditions. -/
namespace Go.Rt.Ha
theorem idx_fine {n : Int} {b : Nat} (h : 0 ≤ n ∧ n < b) : idxE n b = 0 := by
  unfold idxE out
  rw [if_neg (by simp only [Bool.or_eq_true, decide_eq_true_eq, not_or]; omega)]
structure TrueB (l : Lot) (h : List Int) (b : Nat) (s : Int) : Prop where
  hands : (handsP (told l h) b).2 = 0 ∧ (handsP (told l h) b).1.1 ≤ at_ h b ∧ at_ h b ≤ (handsP (told l h) b).1.2
  grade : (gradeP (told l h) b).2 = 0 ∧ hasI (gradeP (told l h) b).1 (ofG l.grades 0 (at_ h b) s) = true
  may : ofG l.grades 0 (at_ h b) s = -1 → hasI (refusedP (told l h)).2.1 b = true
  sure : ofG l.grades 0 (at_ h b) s ≠ -1 → hasI (refusedP (told l h)).1 b = false
/-- How many hands are of a grade. -/
def ofSum (l : Lot) (h : List Int) (sc : Nat → Int) (g : Int) : Nat → Int
  | 0 => 0
  | k + 1 => ofSum l h sc g k + if ofG l.grades 0 (at_ h k) (sc k) = g then at_ h k else 0
theorem sum_in {l : Lot} {h : List Int} {sc : Nat → Int} (hh : ∀ b, b < l.bunches.length → 0 ≤ at_ h b) (hs : ∀ b, b < l.bunches.length → (bunchOf l b).slo ≤ sc b ∧ sc b ≤ (bunchOf l b).shi) (g : Nat) : ∀ k, k ≤ l.bunches.length → (sumsTo l g h k).1 ≤ ofSum l h sc g k ∧ ofSum l h sc g k ≤ (sumsTo l g h k).2
  | 0, _ => by simp [sumsTo, ofSum]
  | k + 1, hk => by
    have ih := sum_in hh hs g k (by omega)
    have h0 := hh k (by omega)
    have hsk := hs k (by omega)
    have e3 : (2 : Nat) <<< g = 2 ^ (g + 1) := by rw [Nat.shiftLeft_eq, Nat.pow_succ, Nat.mul_comm]
    have hin : sc k ∈ scarsOf l k := span_mem.2 hsk
    have hne : scarsOf l k ≠ [] := List.ne_nil_of_mem hin
    have h1 := orG_one (gs := l.grades) (h := at_ h k) (g := (g : Int)) hne (by omega)
    rw [show ((g : Int) + 1).toNat = g + 1 by omega] at h1
    have h2 := grades_has (gs := l.grades) (h := at_ h k) (g := (g : Int)) (by omega) (scarsOf l k)
    rw [show ((g : Int) + 1).toNat = g + 1 by omega] at h2
    simp only [sumsTo, ofSum, e3]
    have ez : gradesB l (bunchOf l k) (at_ h k) = orG l.grades (at_ h k) (scarsOf l k) := rfl
    rw [ez]
    split
    · rename_i hz
      rw [if_pos (h1.1 hz _ hin)]
      simp only; omega
    · split
      · simp only; split <;> omega
      · rename_i hz
        rw [if_neg]
        · omega
        · intro e
          exact hz ((bit_iff _ _).2 (by rw [← h2]; exact hasI_mem.2 (gradesL_mem.2 ⟨sc k, hin, e⟩)))
theorem tot_facts (l : Lot) (g : Nat) : ∀ (ws : List (List Int)) (s : Int × Int), (ws.foldl (fun s h => (min s.1 (sums l g h).1, max s.2 (sums l g h).2)) s).1 ≤ s.1 ∧ s.2 ≤ (ws.foldl (fun s h => (min s.1 (sums l g h).1, max s.2 (sums l g h).2)) s).2 ∧
    ∀ h ∈ ws, (ws.foldl (fun s h => (min s.1 (sums l g h).1, max s.2 (sums l g h).2)) s).1 ≤ (sums l g h).1 ∧ (sums l g h).2 ≤ (ws.foldl (fun s h => (min s.1 (sums l g h).1, max s.2 (sums l g h).2)) s).2
  | [], s => by simp
  | h :: ws, s => by
    have ih := tot_facts l g ws (min s.1 (sums l g h).1, max s.2 (sums l g h).2)
    rw [List.foldl_cons]
    obtain ⟨i1, i2, i3⟩ := ih
    simp only at i1 i2
    refine ⟨by omega, by omega, fun x hx => ?_⟩
    cases hx with
    | head => constructor <;> omega
    | tail _ hx => exact i3 x hx
def allSum (h : List Int) : Nat → Int
  | 0 => 0
  | k + 1 => allSum h k + at_ h k
def gradeSums (l : Lot) (h : List Int) (sc : Nat → Int) (k : Nat) : Nat → Int
  | 0 => 0
  | n + 1 => gradeSums l h sc k n + ofSum l h sc n k
end Go.Rt.Ha
/- Plain law of the hand layer: one more count. No conditions. -/
namespace Go.Rt.Ha
def moreL (l : Lot) (c : Count) : Lot := { l with counts := l.counts ++ [c] }
end Go.Rt.Ha
/- Plain law of the hand layer: with one more count nothing is wider. No conditions. -/
namespace Go.Rt.Ha
/-- What a lot with fewer ways tells. -/
structure LessB (l l' : Lot) (b : Nat) : Prop where
  e1 : (handsP l b).2 = 0
  e2 : (handsP l' b).2 = 0
  e3 : (gradeP l b).2 = 0
  e4 : (gradeP l' b).2 = 0
  hands : (handsP l b).1.1 ≤ (handsP l' b).1.1 ∧ (handsP l' b).1.2 ≤ (handsP l b).1.2
  grade : ∀ z ∈ (gradeP l' b).1, z ∈ (gradeP l b).1
end Go.Rt.Ha
/- Plain law of the hand layer: the fewest counts that must be wrong. No conditions. -/
namespace Go.Rt.Ha
def butC (but : List Int) : Nat → List Count → List Count
  | _, [] => []
  | i, c :: l => if hasI but i then butC but (i + 1) l else c :: butC but (i + 1) l
def butL (l : Lot) (but : List Int) : Lot := { l with counts := butC but 0 l.counts }
structure FewF (l : Lot) (x : Nat) : Prop where
  e : (wrongP l).2 = 0
  is : ∃ b, b < 2 ^ l.counts.length ∧ (wrongP l).1 = listL b l.counts.length
  f : (refusedP (butL l (wrongP l).1)).2.2 = 0
  g : (refusedP (butL l (listL x l.counts.length))).2.2 = 8 ∨ ((refusedP (butL l (listL x l.counts.length))).2.2 = 0 ∧ before (listL x l.counts.length) (wrongP l).1 = false)
end Go.Rt.Ha
/- Plain help of the hand layer's laws: rising lists, fewer, counts left out. No conditions. -/
namespace Go.Rt.Ha
def rising (n : Int) : Int → List Int → Bool
  | _, [] => true
  | p, x :: l => !(decide (x ≤ p) || decide (n ≤ x)) && rising n x l
end Go.Rt.Ha
set_option maxRecDepth 20000
namespace Go.Proofs.Hn
open Go.Proofs.Tryz
open Go.Rt Go.Rt.Ha
attribute [local irreducible] WL WC Con Yd At Ats Sl Agree DW

theorem own_some {t : TypeId} {sz n : Nat} {v : Value} {xs : List Value} {B : List (Nat × Obj)} (h : Rt.Own v t sz n xs B) (hn : 0 < n) : ∃ b cap cs, v = .slice (some ⟨b, 0, none⟩) n cap ∧ B = [(b, blk t cs)] ∧ n ≤ cap ∧ cap ≤ maxLen ∧ cs.length = cap * sz ∧ cs.take (n * sz) = xs := by
  rcases h.2 with ⟨_, h0, _⟩ | ⟨b, cap, cs, h1, h2, h3, h4, h5, h6⟩
  · omega
  · exact ⟨b, cap, cs, h1, h2, h3, h4, h5, h6⟩
theorem own_rows1 {w0 : World} {a : Option Addr} {t : TypeId} {sz n c : Nat} {rows : List (List Value)} {B : List (Nat × Obj)} (h : Rt.Own (.slice a n c) t sz n rows.flatten B) (hr : ∀ row ∈ rows, row.length = sz) (hn : rows.length = n) : Sl w0 B a sz rows ∧ n ≤ c := by
  rcases h.2 with ⟨h2, h0, rfl⟩ | ⟨b, cap, cs, h2, rfl, h4, _, _, h5⟩
  · injection h2 with e1 e2 e3
    have : rows = [] := List.length_eq_zero_iff.1 (by omega)
    subst this
    exact ⟨Sl.nil _ _, by omega⟩
  · injection h2 with e1 e2 e3
    subst e1
    exact ⟨zBr (i := 0) rfl hr (by rw [hn]; exact h5), by omega⟩
end Go.Proofs.Hn
set_option maxRecDepth 20000
namespace Go.Proofs.Hn
open Go.Proofs.Tryz
open Go.Rt Go.Rt.Ha
attribute [local irreducible] WL WC Con Yd At Ats Sl Agree DW
theorem Try_HV_fb5 (x0 : Option Addr) (l0 c0 : Nat) (w : World) : (Instr.buildSlice 40 1 [(0, .slice x0 l0 c0)].toArray).run Tryz.prog w = .ok (.slice (some ⟨w.heap.size, 0, none⟩) 1 1) (w.alloc (Go.Rt.blk 43 [.slice x0 l0 c0])) := by kernel_rfl
theorem Try_HV_fb6  (w : World) : (Instr.buildSlice 43 0 [].toArray).run Tryz.prog w = .ok (.slice (some ⟨w.heap.size, 0, none⟩) 0 0) (w.alloc (Go.Rt.blk 3 [])) := by kernel_rfl
theorem Try_HV_fb7 (x0 : Int) (w : World) : (Instr.buildSlice 43 1 [(0, .int .i64 x0)].toArray).run Tryz.prog w = .ok (.slice (some ⟨w.heap.size, 0, none⟩) 1 1) (w.alloc (Go.Rt.blk 3 [.int .i64 x0])) := by kernel_rfl
theorem Try_info43 : Tryz.prog.info? 43 = some Tryz.t43 := by kernel_rfl
theorem c20 {w0 w : World} {F : List (Nat × Obj)} (l : Lot) (p : At3) (hm : LIn w0 F l p) (hok : l.Ok) (hs : St w0 w F) :
  Con Tryz.prog 20 [.agg (l.cells p).toArray] w fun v w' => ∃ (B : List (Nat × Obj)) (vs : List Value) (a : Option Addr) (c : Nat), v = .slice a (felt l.bunches).length c ∧ Sl w0 B a 1 (vs.map fun v => [v]) ∧ EL w0 B vs (felt l.bunches) ∧ St w0 w' (B ++ F) := by
  refine zAw (n := 54) func20 rfl rfl (Nat.le_of_ble_eq_true rfl) ?_
  have hlb := hok.lb
  
  refine zAg (fun K2 hK1 => ?_)
  refine zAb (zB3 (v := .agg #[.slice _ _ _, .slice _ _ _, .slice _ _ _]) (cs := [_, _, _]) zAa rfl rfl rfl hs (fun b3 w4 hs5 => ?_))
  refine w_p (zAc (v := _) rfl rfl) rfl ?_
  refine zAf (zAd (hK1 _ _ ?_))
  refine zAg (fun K7 hK6 => ?_)
  have hbx := ats_ofR (i := 0) (vs := l.cells p) hs5 rfl rfl
  refine zAb (zBh (ps := [(0, _)]) (pv := [(0, .slice _ _ _)]) (cs := [_]) zAa rfl rfl (fun w => Try_HV_fb5 _ _ _ w) hs5 (fun b8 w9 hs10 => ?_))
  refine w_p (zAc (v := .slice _ _ _) rfl rfl) rfl ?_
  refine zAf (zAd (hK6 _ _ ?_))
  refine zAg (fun K12 hK11 => ?_)
  refine zAg (fun K14 hK13 => ?_)
  refine zAb (w_p (zAc (v := _) rfl rfl) rfl ?_)
  refine zAf (zAd (hK13 _ _ ?_))
  refine zAy ?_
  refine zBp [3, 4, 5, 6, 7, 9, 10, 11, 12, 13, 14, 15, 16, 17, 18, 19, 20, 21, 22, 23, 24, 25, 26, 27, 28, 29, 30, 31, 32, 33, 34, 35, 36, 37, 38, 39, 40, 41, 42, 43, 44, 45, 46, 47, 48, 49, 50, 51, 52] [3, 4] (fun kk vs0 w => ∃ (i : Nat) (vO : Value) (OB E : List (Nat × Obj)) (vs : List Value), vs0 = [vO, .int .i64 i] ∧ i ≤ l.bunches.length ∧ kk = l.bunches.length - i ∧ Rt.Own vO 43 1 (feltTo l i).length vs OB ∧ EL w0 E vs (feltTo l i) ∧ St w0 w (OB ++ (E ++ ((b3, blk 26 (l.cells p)) :: F)))) (l.bunches.length) ?_ ?_
  ·
   exact ⟨0, _, [_], [], [.slice none 0 0], rfl, by omega, by omega, own_lit rfl (by simp [maxLen]), ⟨rfl, fun k hk => ⟨none, 0, by simp [felt_zero] at hk; subst hk; rfl, by simp [felt_zero] at hk; subst hk; exact Sl.nil _ _, fun _ => rfl⟩⟩, hs10⟩
  intro k vs μ w17 hI K16 hN15
  obtain ⟨i, vO, OB, E, vs, rfl, hia, rfl, hown0, hel, hs⟩ := hI
  refine zAg (fun K19 hK18 => ?_)
  refine zAg (fun K21 hK20 => ?_)
  refine zAb (w_p (zAe (v := .int _ _) rfl rfl) rfl ?_)
  refine w_p (zAh (o := 1) (i := 1) underlying26 rfl sizeOf23 rfl rfl rfl) rfl ?_
  refine w_p (zAk isAgg23 hs.drop.drop rfl rfl (show Ats _ _ _ _ [_] from Ats.part hbx 1 1)) rfl ?_
  refine w_p (zBd underlying23 rfl rfl) rfl ?_
  refine w_p (zBt rfl rfl rfl rfl) rfl ?_
  refine zAf (zAd (hK20 _ _ ?_))
  refine zAz rfl rfl (fun h22 => ?_) (fun h22 => ?_)
  ·
   try simp only [zS] at h22
   refine zAx (zAd (hK18 _ _ ?_))
   refine zAg (fun K24 hK23 => ?_)
   refine zAy ?_
   refine zAg (fun K26 hK25 => ?_)
   have hi2 : i < l.bunches.length := by omega
   have hwl := feltTo_len hok (Nat.le_of_lt hi2)
   have hbb := hok.bunch _ (List.getElem_mem hi2)
   obtain ⟨aO, cO, rfl, hslO⟩ := own_sl_id (w0 := w0) hown0 hel.1 (E ++ ((b3, blk 26 (l.cells p)) :: F))
   obtain ⟨by_, oy, hby, hy⟩ := sl_brows hm.b hi2
   refine zAb (w_p (zAc (v := _) rfl rfl) rfl ?_)
   refine zAf (zAd (hK25 _ _ ?_))
   refine zAg (fun K28 hK27 => ?_)
   refine zAg (fun K30 hK29 => ?_)
   refine zAb (w_p (zAc (v := _) rfl rfl) rfl ?_)
   refine zAf (zAd (hK29 _ _ ?_))
   refine zAy ?_
   refine zBp [5, 6, 7, 16, 17, 18, 19, 20, 21, 22, 23, 24, 25, 26, 27, 28, 29, 30, 31, 32, 33, 34, 35, 36, 37, 38, 39, 40, 41, 42, 43, 44, 45, 46, 47, 48, 49, 50, 51] [5, 6] (fun kk vs0 w => ∃ (k : Nat) (vN : Value) (NB E1 : List (Nat × Obj)) (ws : List Value), vs0 = [vN, .int .i64 k] ∧ k ≤ (feltTo l i).length ∧ kk = (feltTo l i).length - k ∧ Rt.Own vN 43 1 (fTo (l.bunches[i]'hi2) (feltTo l i) k).length ws NB ∧ EL w0 E1 ws (fTo (l.bunches[i]'hi2) (feltTo l i) k) ∧ St w0 w (NB ++ (E1 ++ (OB ++ (E ++ ((b3, blk 26 (l.cells p)) :: F)))))) ((feltTo l i).length) ?_ ?_
   ·
    exact ⟨0, _, [], [], [], rfl, by omega, by omega, own_nil 43 1, EL.nil _ _, hs⟩
   intro k vs μ w33 hI K32 hN31
   obtain ⟨k, vN, NB, E1, ws, rfl, hka, rfl, hown1, hel1, hs⟩ := hI
   refine zAg (fun K35 hK34 => ?_)
   refine zAg (fun K37 hK36 => ?_)
   refine zAb (w_p (zAe (v := .int _ _) rfl rfl) rfl ?_)
   refine w_p (zAe (v := .slice _ _ _) rfl rfl) rfl ?_
   refine w_p (zBd underlying40 rfl rfl) rfl ?_
   refine w_p (zBt rfl rfl rfl rfl) rfl ?_
   refine zAf (zAd (hK36 _ _ ?_))
   refine zAz rfl rfl (fun h38 => ?_) (fun h38 => ?_)
   ·
    try simp only [zS] at h38
    refine zAx (zAd (hK34 _ _ ?_))
    refine zAg (fun K40 hK39 => ?_)
    refine zAy ?_
    refine zAg (fun K42 hK41 => ?_)
    have hk2 : k < (feltTo l i).length := by omega
    obtain ⟨bx, ox, b2, c2, haO, hx, hsx0, hnx⟩ := el_at hslO (hel.mono fun _ h => h.drop.front) hk2
    subst haO
    have hxl := feltTo_in (Nat.le_of_lt hi2) (List.getElem_mem hk2)
    refine zAb (w_p (zAh (o := 1) (i := 1) underlying26 rfl sizeOf23 rfl rfl rfl) rfl ?_)
    refine w_p (yd_slice hby (zAk isAgg23 hs.drop.drop.drop.drop rfl rfl (show Ats _ _ _ _ [_] from Ats.part hbx 1 1))) rfl ?_
    refine w_p (zAe (v := .int _ _) rfl rfl) rfl ?_
    refine w_p (zA7 underlying23 sizeOf61 rfl rfl rfl rfl (i := _) rfl (by omega)) rfl ?_
    refine w_p (zAh (o := 0) (i := 0) underlying61 rfl sizeOf28 rfl rfl rfl) rfl ?_
    refine w_p (zAh (o := 0) (i := 0) underlying28 rfl sizeOf3 rfl rfl rfl) rfl ?_
    refine w_p (zAk isAgg3 hs.drop.drop.drop.drop.tail rfl rfl (show Ats _ _ _ _ [_] from Ats.part hy 0 1)) rfl ?_
    refine w_p (zAc (v := .int _ _) rfl rfl) rfl ?_
    refine zAf (zAd (hK41 _ _ ?_))
    refine zAy ?_
    refine zBp [5, 7, 29, 30, 31, 32, 33, 34, 35, 36, 37, 38, 39, 40, 41, 42, 43, 44, 45, 46, 47, 48, 49, 50, 51] [5, 7] (fun kk vs0 w => ∃ (q : Nat) (vN : Value) (NB E1 : List (Nat × Obj)) (ws : List Value), vs0 = [vN, .int .i64 ((l.bunches[i]'hi2).lo + q)] ∧ (q : Int) ≤ (l.bunches[i]'hi2).hi + 1 - (l.bunches[i]'hi2).lo ∧ kk = ((l.bunches[i]'hi2).hi + 1 - (l.bunches[i]'hi2).lo).toNat - q ∧ Rt.Own vN 43 1 (fTo (l.bunches[i]'hi2) (feltTo l i) k ++ fPart (l.bunches[i]'hi2) ((feltTo l i)[k]'hk2) q).length ws NB ∧ EL w0 E1 ws (fTo (l.bunches[i]'hi2) (feltTo l i) k ++ fPart (l.bunches[i]'hi2) ((feltTo l i)[k]'hk2) q) ∧ St w0 w (NB ++ (E1 ++ (OB ++ (E ++ ((b3, blk 26 (l.cells p)) :: F)))))) (((l.bunches[i]'hi2).hi + 1 - (l.bunches[i]'hi2).lo).toNat) ?_ ?_
    ·
     exact ⟨0, vN, NB, E1, ws, iv_v (by omega), by omega, by omega, by rw [show fPart _ _ 0 = [] from rfl, List.append_nil]; exact hown1, by rw [show fPart _ _ 0 = [] from rfl, List.append_nil]; exact hel1, hs⟩
    intro k vs μ w45 hI K44 hN43
    obtain ⟨q, vN, NB, E1, ws, rfl, hqa, rfl, hown2, hel2, hs⟩ := hI
    refine zAg (fun K47 hK46 => ?_)
    refine zAg (fun K49 hK48 => ?_)
    refine zAb (w_p (zAe (v := .int _ _) rfl rfl) rfl ?_)
    refine w_p (zAh (o := 1) (i := 1) underlying26 rfl sizeOf23 rfl rfl rfl) rfl ?_
    refine w_p (yd_slice hby (zAk isAgg23 hs.drop.drop.drop.drop rfl rfl (show Ats _ _ _ _ [_] from Ats.part hbx 1 1))) rfl ?_
    refine w_p (zAe (v := .int _ _) rfl rfl) rfl ?_
    refine w_p (zA7 underlying23 sizeOf61 rfl rfl rfl rfl (i := _) rfl (by omega)) rfl ?_
    refine w_p (zAh (o := 0) (i := 0) underlying61 rfl sizeOf28 rfl rfl rfl) rfl ?_
    refine w_p (zAh (o := 1) (i := 1) underlying28 rfl sizeOf3 rfl rfl rfl) rfl ?_
    refine w_p (zAk isAgg3 hs.drop.drop.drop.drop.tail rfl rfl (show Ats _ _ _ _ [_] from Ats.part hy 1 1)) rfl ?_
    refine w_p (y_leq rfl rfl rfl rfl) rfl ?_
    refine zAf (zAd (hK48 _ _ ?_))
    refine zAz rfl rfl (fun h50 => ?_) (fun h50 => ?_)
    ·
     try simp only [zS] at h50
     refine zAx (zAd (hK46 _ _ ?_))
     refine zAg (fun K52 hK51 => ?_)
     refine zAy ?_
     have hgl := fTo_len (b := (l.bunches[i]'hi2)) (ws := (feltTo l i)) (by omega) k
     have hgq := fPart_len (l.bunches[i]'hi2) ((feltTo l i)[k]'hk2) q
     refine zAb (w_p (zAe (v := vN) rfl rfl) rfl ?_)
     refine zBh (ps := []) (pv := []) (cs := []) zAa rfl rfl (fun w => Try_HV_fb6  w) hs (fun b53 w54 hs55 => ?_)
     refine w_p (zAe (v := .slice _ _ _) rfl rfl) rfl ?_
     refine w_p (zAe (v := .int _ _) rfl rfl) rfl ?_
     refine w_p (zA7 underlying40 sizeOf43 rfl rfl rfl rfl (i := _) rfl (by omega)) rfl ?_
     refine w_p (zAk isAgg43 hs55.tail.drop.drop rfl rfl hx) rfl ?_
     refine zCw (X := ([])) (B := [_]) (rows := (((feltTo l i)[k]'hk2).map fun x => [Value.int .i64 x])) (sz := 1) (bytes := 8) zAa underlying43 zC9 rfl rfl rfl rfl rfl rfl rfl rfl rfl hs55 own_made hsx0.app.app.cons (by simp) hnx (ints_one _) (by simp only [maxLen]; omega) (by omega) (fun v56 w57 B58 ho59 hs60 => ?_)
     replace hs60 := (show St _ _ (B58 ++ (NB ++ (E1 ++ (OB ++ (E ++ (_ :: F)))))) from hs60)
     refine w_p (zAe (v := .int _ _) rfl rfl) rfl ?_
     refine zBh (ps := [(0, _)]) (pv := [(0, .int _ _)]) (cs := [_]) zAa rfl rfl (fun w => Try_HV_fb7 _ w) hs60 (fun b61 w62 hs63 => ?_)
     refine zCw (X := (_ :: [])) (B := B58) (rows := [[_]]) (sz := 1) (bytes := 8) zAa underlying43 zC9 rfl rfl rfl rfl rfl rfl rfl rfl rfl hs63 ho59 (zBr (i := 0) rfl (by simp) rfl) rfl (by simp) (by simp [Value.oneCell']) (by simp only [maxLen]; omega) (by omega) (fun v64 w65 B66 ho67 hs68 => ?_)
     replace hs68 := (show St _ _ (_ :: B66 ++ (NB ++ (E1 ++ (OB ++ (E ++ (_ :: F)))))) from hs68)
     obtain ⟨a3, c3, rfl, hsl3, hn3, _⟩ := own_ints (w0 := w0) (own_ints1 ho67)
     refine zBh (ps := [(0, _)]) (pv := [(0, .slice _ _ _)]) (cs := [_]) zAa rfl rfl (fun w => Try_HV_fb5 _ _ _ w) hs68 (fun b69 w70 hs71 => ?_)
     refine zCw (X := (_ :: _ :: B66)) (B := NB) (rows := [[_]]) (sz := 1) (bytes := 24) zAa underlying40 Try_info43 rfl rfl rfl rfl rfl rfl rfl rfl rfl hs71 hown2 (zBr (i := 0) rfl (by simp) rfl) rfl (by simp) (by simp [Value.oneCell']) (by simp only [maxLen, List.length_append]; omega) (by simp only [List.length_append]; omega) (fun v72 w73 B74 ho75 hs76 => ?_)
     replace hs76 := (show St _ _ (_ :: _ :: B66 ++ (B74 ++ (E1 ++ (OB ++ (E ++ (_ :: F)))))) from hs76)
     refine w_p (zAc (v := v72) rfl rfl) rfl ?_
     refine zAf (zAl (zAd (hK51 _ _ ?_)))
     refine zAb (w_p (zAe (v := .int _ _) rfl rfl) rfl ?_)
     refine w_p (zBf rfl rfl rfl rfl (by omega) (by omega)) rfl ?_
     refine w_p (zAc (v := .int _ _) rfl rfl) rfl ?_
     refine zAf (zAd (hN43 _ _ (Nx.intro (((l.bunches[i]'hi2).hi + 1 - (l.bunches[i]'hi2).lo).toNat - (q + 1)) (by omega) (by repeat (first | exact zAv | refine zAu rfl ?_ | refine zAs rfl ?_ _ | refine zAr rfl ?_)) ?_)))
     exact ⟨q + 1, _, _, B66 ++ E1, _, iv_v (by omega), by omega, rfl, by rw [fPart_succ, ← List.append_assoc]; exact own_el ho75, by rw [fPart_succ, ← List.append_assoc]; exact el_more hel2 hsl3 hn3, el_perm hs76⟩
    try simp only [zS] at h50
    refine zBl (zAo (zAo (zA4 (zAl (zAd (hK39 _ _ ?_))))))
    refine zAb (w_p (zAe (v := .int _ _) rfl rfl) rfl ?_)
    refine w_p (zBf rfl rfl rfl rfl (by omega) (by omega)) rfl ?_
    refine w_p (zAc (v := .int _ _) rfl rfl) rfl ?_
    refine zAf (zAd (hN31 _ _ (Nx.intro ((feltTo l i).length - (k + 1)) (by omega) (by repeat (first | exact zAv | refine zAu rfl ?_ | refine zAs rfl ?_ _ | refine zAr rfl ?_)) ?_)))
    have hqb : q = ((l.bunches[i]'hi2).hi + 1 - (l.bunches[i]'hi2).lo).toNat := by omega
    rw [fPart_all hqb, ← fTo_succ hk2] at hown2 hel2
    exact ⟨k + 1, vN, NB, E1, ws, rfl, by omega, by omega, hown2, hel2, hs⟩
   try simp only [zS] at h38
   refine zBl (zAo (zAo (zA4 (zAd (hK27 _ _ ?_)))))
   refine zAb (w_p (zAe (v := vN) rfl rfl) rfl ?_)
   refine w_p (zAc (v := vN) rfl rfl) rfl ?_
   refine zAf (zAl (zAd (hK23 _ _ ?_)))
   refine zAb (w_p (zAe (v := .int _ _) rfl rfl) rfl ?_)
   refine w_p (zBf rfl rfl rfl rfl (by omega) (by omega)) rfl ?_
   refine w_p (zAc (v := .int _ _) rfl rfl) rfl ?_
   refine zAf (zAd (hN15 _ _ (Nx.intro (l.bunches.length - (i + 1)) (by omega) (by repeat (first | exact zAv | refine zAu rfl ?_ | refine zAs rfl ?_ _ | refine zAr rfl ?_)) ?_)))
   have hkn : k = (feltTo l i).length := by omega
   rw [hkn, felt_step hi2] at hown1 hel1
   exact ⟨i + 1, vN, NB, E1, ws, rfl, by omega, rfl, hown1, hel1, (hs.perm (el_drop2 NB E1 OB E _)).drop⟩
  try simp only [zS] at h22
  refine zBl (zAo (zAo (zA4 (zAd (hK11 _ _ ?_)))))
  refine zAg (fun K78 hK77 => ?_)
  refine zAb (w_p (zAe (v := vO) rfl rfl) rfl ?_)
  refine w_p (zAc (v := vO) rfl rfl) rfl ?_
  refine zAf (zAd (hK77 _ _ ?_))
  refine zA2 (zA3 (l := [.tmp 2]) (vs := [_]) rfl ⟨⟨rfl, show _ = (vO : Value) from rfl⟩, trivial⟩ ?_)
  have hin : i = l.bunches.length := by omega
  subst hin
  rw [feltTo_all] at hown0 hel
  obtain ⟨aO, cO, rfl, hslO⟩ := own_sl_id (w0 := w0) hown0 hel.1 E
  exact ⟨OB ++ E, vs, aO, cO, rfl, hslO, hel.app, zDl (by rw [List.append_assoc]; exact hs)⟩

end Go.Proofs.Hn
/- Plain help of HandTrue: scars by turns, counts told one by one, sums by grade. No conditions. -/
namespace Go.Rt.Ha
def scOf (l : Lot) (x : List Int) (k : Nat) : Int := (bunchOf l k).slo + turnOf x k % ((bunchOf l k).shi - (bunchOf l k).slo + 1)
def scTo (l : Lot) (x : List Int) : Nat → List Int
  | 0 => []
  | k + 1 => scTo l x k ++ [scOf l x k]
theorem sc_len (l : Lot) (x : List Int) : ∀ k, (scTo l x k).length = k
  | 0 => rfl
  | k + 1 => by rw [scTo, List.length_append, sc_len l x k]; rfl
theorem sc_at {l : Lot} {x : List Int} {i : Nat} : ∀ {n : Nat} (h : i < (scTo l x n).length), (scTo l x n)[i] = scOf l x i
  | 0, h => by simp [scTo] at h
  | n + 1, h => by
    have hl := sc_len l x n
    have hl2 := sc_len l x (n + 1)
    simp only [scTo]
    by_cases e : i < n
    · rw [List.getElem_append_left (by omega)]; exact sc_at _
    · have : i = n := by omega
      subst this
      rw [List.getElem_append_right (by omega)]
      simp [hl]
theorem sc_in {l : Lot} (hok : l.Ok) {x : List Int} {b : Nat} (hb : b < l.bunches.length) : (bunchOf l b).slo ≤ scOf l x b ∧ scOf l x b ≤ (bunchOf l b).shi := by
  have h1 := hok.bunch _ (List.getElem_mem hb)
  rw [← bunch_at hb] at h1
  unfold scOf
  have h2 := Int.emod_nonneg (turnOf x b) (show (bunchOf l b).shi - (bunchOf l b).slo + 1 ≠ 0 by omega)
  have h3 := Int.emod_lt_of_pos (turnOf x b) (show 0 < (bunchOf l b).shi - (bunchOf l b).slo + 1 by omega)
  omega
/-- Counts, of which so many are told. -/
def tdTo (l : Lot) (h : List Int) (i : Nat) : List Count := (l.counts.take i).map (toldC h) ++ l.counts.drop i
/-- Sums of the first k bunches, refused first. -/
def smTo (l : Lot) (h : List Int) (sc : Nat → Int) (k : Nat) : List Int := (List.range (l.grades.length + 1)).map fun j : Nat => ofSum l h sc ((j : Int) - 1) k
theorem of_sum_in {l : Lot} {h : List Int} {sc : Nat → Int} (hh : ∀ b, b < l.bunches.length → 0 ≤ at_ h b ∧ at_ h b ≤ 12) (g : Int) : ∀ k, k ≤ l.bunches.length → 0 ≤ ofSum l h sc g k ∧ ofSum l h sc g k ≤ 12 * k
  | 0, _ => by simp [ofSum]
  | k + 1, hk => by
    have ih := of_sum_in (sc := sc) hh g k (by omega)
    have := hh k (by omega)
    simp only [ofSum]
    split <;> omega
theorem felt_at {l : Lot} (hok : l.Ok) {h : List Int} (hf : h ∈ felt l.bunches) : h.length = l.bunches.length ∧ ∀ b, b < l.bunches.length → 0 ≤ at_ h b ∧ at_ h b ≤ 12 := by
  have h1 := felt_num hok hf
  refine ⟨h1.1, fun b hb => ?_⟩
  have hb2 : b < h.length := by omega
  have h2 := h1.2 _ (List.getElem_mem hb2)
  have e : at_ h b = h[b] := by unfold at_; simp [List.getD, hb2]
  rw [e]; omega
theorem at_g {h : List Int} {b : Nat} (hb : b < h.length) : at_ h b = h[b] := by simp [at_, List.getD, hb]
end Go.Rt.Ha
/- Rows of cells, one of which is set anew. No conditions. -/
namespace Go.Rt
theorem setMany_mid : ∀ (vs old pre post : List Value), old.length = vs.length → setMany (pre ++ (old ++ post)) pre.length vs = pre ++ (vs ++ post)
  | [], [], pre, post, _ => by simp [setMany]
  | v :: vs, o :: old, pre, post, h => by
    have ih := setMany_mid vs old (pre ++ [v]) post (by simpa using h)
    simp only [setMany]
    rw [List.set_append_right _ _ (Nat.le_refl _), Nat.sub_self, List.cons_append, List.set_cons_zero]
    simpa using ih
  | [], _ :: _, _, _, h => by simp at h
  | _ :: _, [], _, _, h => by simp at h
theorem flat_len_sz {rows : List (List Value)} {sz : Nat} (hr : ∀ row ∈ rows, row.length = sz) : rows.flatten.length = rows.length * sz := by
  induction rows with
  | nil => simp
  | cons r l ih => rw [List.flatten_cons, List.length_append, hr r (.head _), ih fun x hx => hr x (.tail _ hx), List.length_cons, Nat.succ_mul]; omega
theorem setMany_rows {rows : List (List Value)} {sz i n : Nat} {row cs : List Value} (hn : rows.length = n) (hr : ∀ row ∈ rows, row.length = sz) (hi : i < rows.length) (hrow : row.length = sz) (h : cs.take (n * sz) = rows.flatten) : (setMany cs (i * sz) row).take (n * sz) = (rows.set i row).flatten := by
  have hpre : (rows.take i).flatten.length = i * sz := by
    rw [flat_len_sz (fun x hx => hr x (List.mem_of_mem_take hx)), List.length_take, Nat.min_eq_left (by omega)]
  have e1 : rows.flatten = (rows.take i).flatten ++ (rows[i] ++ (rows.drop (i + 1)).flatten) := by
    rw [← List.flatten_cons, ← List.drop_eq_getElem_cons hi, ← List.flatten_append, List.take_append_drop]
  have e2 : cs = (rows.take i).flatten ++ (rows[i] ++ ((rows.drop (i + 1)).flatten ++ cs.drop (n * sz))) := by
    have := List.take_append_drop (n * sz) cs
    rw [h, e1] at this
    simpa [List.append_assoc] using this.symm
  have e3 := setMany_mid row rows[i] (rows.take i).flatten ((rows.drop (i + 1)).flatten ++ cs.drop (n * sz)) (by rw [hrow, hr _ (List.getElem_mem hi)])
  rw [← e2, hpre] at e3
  rw [e3]
  have e4 : (rows.set i row).flatten = (rows.take i).flatten ++ (row ++ (rows.drop (i + 1)).flatten) := by
    rw [List.set_eq_take_append_cons_drop, if_pos hi, List.flatten_append, List.flatten_cons]
  have e5 : (rows.set i row).flatten.length = n * sz := by
    rw [flat_len_sz, List.length_set, hn]
    intro x hx
    rcases List.mem_or_eq_of_mem_set hx with h | h
    · exact hr x h
    · rw [h]; exact hrow
  have e6 : (rows.take i).flatten ++ (row ++ ((rows.drop (i + 1)).flatten ++ cs.drop (n * sz))) = (rows.set i row).flatten ++ cs.drop (n * sz) := by rw [e4]; simp [List.append_assoc]
  rw [e6, List.take_append_of_le_length (Nat.le_of_eq e5.symm), List.take_of_length_le (Nat.le_of_eq e5)]
theorem setMany_len : ∀ (vs cs : List Value) (off : Nat), (setMany cs off vs).length = cs.length
  | [], cs, off => rfl
  | v :: vs, cs, off => by simp only [setMany]; rw [setMany_len vs]; simp
theorem own_put {α : Type} {row : α → List Value} {t : TypeId} {sz b cap n i : Nat} (hr : ∀ x, (row x).length = sz) {cs : List Value} {l : List α} {y : α} (hi : i < l.length) (hn : l.length = n) (h1 : n ≤ cap) (h2 : cap ≤ maxLen) (h3 : cs.length = cap * sz) (h : cs.take (n * sz) = (l.map row).flatten) : Own (.slice (some ⟨b, 0, none⟩) n cap) t sz n ((l.set i y).map row).flatten [(b, blk t (setMany cs (i * sz) (row y)))] := by
  have h4 : ∀ x ∈ l.map row, x.length = sz := by intro x hx; obtain ⟨q, _, rfl⟩ := List.mem_map.1 hx; exact hr q
  refine ⟨?_, .inr ⟨b, cap, _, rfl, rfl, h1, h2, by rw [setMany_len]; exact h3, ?_⟩⟩
  · rw [flat_len_sz (sz := sz) (by intro x hx; obtain ⟨q, _, rfl⟩ := List.mem_map.1 hx; exact hr q), List.length_map, List.length_set, hn]
  · have := setMany_rows (row := row y) (i := i) (by simpa using hn) h4 (by simpa using hi) (hr y) h
    rw [this, List.map_set]
end Go.Rt
/- The walking engine, part 17: a number of sixteen bits as an int. No conditions. -/
namespace Go.Rt
open Go.RowKit
variable {P : Program} {n : Nat} {ρ : Nat → Value} {ds : List Deferred} {w : World} {d : Option Tmp} {ty : TypeId} {p : String} {e : Array Edge} {g : Option (Nat × Bool)}
theorem y_u16int {s t : TypeId} {x : Operand} {a : Int} (hs : (P.underlying s).isSome = true) (ht : P.underlying t = some (.int .i64)) (ho : okO n x = true) (hx : ev ρ x = .int .u16 a) (h0 : 0 ≤ a) (h1 : a ≤ 65535) :
    Yd P (A n ρ ds) ⟨d, .convert s t x, ty, p, e, g⟩ w (.int .i64 a) := by
  obtain ⟨q, hq⟩ := Option.isSome_iff_exists.1 hs
  have hw : IntKind.i64.wrap a = a := wrap_in (by omega) (by omega)
  simp [Yd, execOp, zBw ho, hx, Sem.run_bind, convert, run_underlying hq, run_underlying ht, Result.andThen, Conv.intToInt, hw]
end Go.Rt
set_option maxRecDepth 20000
namespace Go.Proofs.Hn
open Go.Proofs.Tryz
open Go.Rt Go.Rt.Ha
attribute [local irreducible] WL WC Con Yd At Ats Sl Agree DW
theorem Try_HLc_fb6 (x0 : Int) (w : World) : (Instr.buildSlice 43 1 [(0, .int .i64 x0)].toArray).run Tryz.prog w = .ok (.slice (some ⟨w.heap.size, 0, none⟩) 1 1) (w.alloc (Go.Rt.blk 3 [.int .i64 x0])) := by kernel_rfl
theorem c42 {w0 w : World} {F : List (Nat × Obj)} (l : Lot) (p : At3) (hm : LIn w0 F l p) (hok : l.Ok) (ax : Option Addr) (cx : Nat) (x : List Int) (hxl : x.length ≤ 9223372036854775807) (hxs : Sl w0 F ax 1 (x.map fun n => [Value.int .u8 n])) (hxr : ∀ z ∈ x, 0 ≤ z ∧ z ≤ 255) (hs : St w0 w F) :
  Con Tryz.prog 42 [.agg (l.cells p).toArray, .slice ax x.length cx] w fun v w' => ∃ B a c, v = .slice a (scTo l x l.bunches.length).length c ∧ Sl w0 B a 1 ((scTo l x l.bunches.length).map fun x => [Value.int .i64 x]) ∧ St w0 w' (B ++ F) := by
  refine zAw (n := 38) func42 rfl rfl (Nat.le_of_ble_eq_true rfl) ?_
  obtain ⟨ag, cg, ab, cb, ac, cc⟩ := p
  have hlb := hok.lb
  refine zAg (fun K2 hK1 => ?_)
  refine zAb (zB3 (v := .agg #[.slice _ _ _, .slice _ _ _, .slice _ _ _]) (cs := [_, _, _]) zAa rfl rfl rfl hs (fun b3 w4 hs5 => ?_))
  refine w_p (zAc (v := _) rfl rfl) rfl ?_
  refine zAf (zAd (hK1 _ _ ?_))
  refine zAg (fun K7 hK6 => ?_)
  refine zAb (w_p (zAc (v := _) rfl rfl) rfl ?_)
  refine zAf (zAd (hK6 _ _ ?_))
  refine zAg (fun K9 hK8 => ?_)
  refine zAg (fun K11 hK10 => ?_)
  refine zAb (w_p (zAc (v := _) rfl rfl) rfl ?_)
  refine zAf (zAd (hK10 _ _ ?_))
  refine zAy ?_
  refine zBp [5, 6, 7, 8, 9, 10, 11, 12, 13, 14, 15, 16, 17, 18, 19, 20, 21, 22, 23, 24, 25, 26, 27, 28, 29, 30, 31, 32, 33, 34, 35, 36] [5, 6] (fun k vs w => ∃ (i : Nat) (v : Value) (B : List (Nat × Obj)), vs = [v, .int .i64 i] ∧ i ≤ l.bunches.length ∧ k = l.bunches.length - i ∧ Rt.Own v 3 1 (scTo l x i).length (iv (scTo l x i)) B ∧ St w0 w ((b3, blk 26 (l.cells ⟨ag, cg, ab, cb, ac, cc⟩)) :: (B ++ F))) (l.bunches.length) ?_ ?_
  ·
   exact ⟨0, _, [], rfl, by omega, by omega, own_nil 3 1, hs5⟩
  intro k vs μ w14 hI K13 hN12
  obtain ⟨i, v, B, rfl, hia, rfl, hown, hs⟩ := hI
  refine zAg (fun K16 hK15 => ?_)
  refine zAg (fun K18 hK17 => ?_)
  refine zAb (w_p (zAe (v := .int _ _) rfl rfl) rfl ?_)
  refine w_p (zAh (o := 1) (i := 1) underlying26 rfl sizeOf23 rfl rfl rfl) rfl ?_
  refine w_p (zAk isAgg23 hs rfl rfl (zAj (i := 0) (vs := [_]) rfl rfl)) rfl ?_
  refine w_p (zBd underlying23 rfl rfl) rfl ?_
  refine w_p (zBt rfl rfl rfl rfl) rfl ?_
  refine zAf (zAd (hK17 _ _ ?_))
  refine zAz rfl rfl (fun h19 => ?_) (fun h19 => ?_)
  ·
   try simp only [zS] at h19
   refine zAx (zAd (hK15 _ _ ?_))
   refine zAg (fun K21 hK20 => ?_)
   refine zAy ?_
   refine zAg (fun K23 hK22 => ?_)
   have hi2 : i < l.bunches.length := by omega
   obtain ⟨bx, ox, hbx, hx1⟩ := sl_brows hm.b hi2
   subst hbx
   have hbu := hok.bunch _ (List.getElem_mem hi2)
   have hti := turn_in hxr i
   have hsl := sc_len l x i
   have hr0 := Int.emod_nonneg (turnOf x i) (show (l.bunches[i]'hi2).shi - (l.bunches[i]'hi2).slo + 1 ≠ 0 by omega)
   have hr1 := Int.emod_lt_of_pos (turnOf x i) (show 0 < (l.bunches[i]'hi2).shi - (l.bunches[i]'hi2).slo + 1 by omega)
   refine zAb (w_p (zAh (o := 1) (i := 1) underlying26 rfl sizeOf23 rfl rfl rfl) rfl ?_)
   refine w_p (zAk isAgg23 hs rfl rfl (zAj (i := 0) (vs := [_]) rfl rfl)) rfl ?_
   refine w_p (zAe (v := .int _ _) rfl rfl) rfl ?_
   refine w_p (zA7 underlying23 sizeOf61 rfl rfl rfl rfl (i := _) rfl (by omega)) rfl ?_
   refine w_p (zAh (o := 2) (i := 1) underlying61 rfl sizeOf28 rfl rfl rfl) rfl ?_
   refine w_p (zA6 (vs := [_, _]) isAgg28 sizeOf28 hs.tail.drop rfl rfl (show Ats _ _ _ _ [_, _] from Ats.part hx1 2 2)) rfl ?_
   refine zA9 (cs := [_, _]) zAa zeroValue28 rfl hs (fun b24 w25 hs26 => ?_)
   refine zA5 (i := 0) (v := .agg #[.int _ _, .int _ _]) (vs := [_, _]) zAa sizeOf28 rfl rfl rfl rfl rfl (by simp [Value.oneCell']) hs26 rfl (Nat.le_of_ble_eq_true rfl) (fun w27 hs28 => ?_)
   refine zAf (zAd (hK22 _ _ ?_))
   refine w_drawD (C0 := fun w => St w0 w _) (C := fun w => ∃ B9 : List (Nat × Obj), St w0 w ((b24, blk 28 [.int .i64 (l.bunches[i]'hi2).slo, .int .i64 (l.bunches[i]'hi2).shi]) :: (b3, blk 26 (l.cells ⟨ag, cg, some ⟨bx, ox, none⟩, cb, ac, cc⟩)) :: (B9 ++ F))) [] [(0, 0), (1, 0), (2, 1), (3, 0), (4, 0), (6, 0), (7, 1), (8, 0), (9, 1), (10, 0), (11, 0), (5, 2), (12, 0), (13, 0), (14, 2), (15, 2), (16, 0)] zBu (drawOK_of (by kernel_rfl)) hs28 (fun _ h => ⟨_, h⟩) (fun _ h => h.drew) (fun w29 hs30 => ?_)
   refine zAp rfl zAa rfl (fun _ => (zAe (v := v) rfl rfl)) ?_
   refine zAp rfl zAa rfl (fun _ => (zAh (o := 0) (i := 0) underlying28 rfl sizeOf3 rfl rfl rfl)) ?_
   refine zCv rfl zAa rfl ⟨_, hs30⟩ (fun _ ⟨B9, hq⟩ => (zAk isAgg3 hq rfl rfl (zAj (i := 0) (vs := [_]) rfl rfl))) ?_
   refine zAp rfl zAa rfl (fun _ => (zAe (v := .slice _ _ _) rfl rfl)) ?_
   refine zAp rfl zAa rfl (fun _ => (zAe (v := .int _ _) rfl rfl)) ?_
   refine zAp rfl zAa rfl (fun _ => (zAh (o := 1) (i := 1) underlying28 rfl sizeOf3 rfl rfl rfl)) ?_
   refine zCv rfl zAa rfl ⟨_, hs30⟩ (fun _ ⟨B9, hq⟩ => (zAk isAgg3 hq rfl rfl (zAj (i := 0) (vs := [_]) rfl rfl))) ?_
   refine zAp rfl zAa rfl (fun _ => (zAh (o := 0) (i := 0) underlying28 rfl sizeOf3 rfl rfl rfl)) ?_
   refine zCv rfl zAa rfl ⟨_, hs30⟩ (fun _ ⟨B9, hq⟩ => (zAk isAgg3 hq rfl rfl (zAj (i := 0) (vs := [_]) rfl rfl))) ?_
   refine zAp rfl zAa rfl (fun _ => (y_sub rfl rfl rfl rfl (by omega) (by omega))) ?_
   refine zAp rfl zAa rfl (fun _ => (zBf rfl rfl rfl rfl (by omega) (by omega))) ?_
   refine zCl rfl ?_
   refine zAt zAa call78 rfl rfl rfl rfl (c78 _ _ x hxl hxs.app.cons.cons hxr i hs30) ?_
   rintro _ w32 ⟨rfl, hs33⟩
   refine zAf (qn ⟨⟨_, hs33⟩, ?_⟩)
   refine zAp rfl zAa rfl (fun _ => (y_rem rfl rfl rfl rfl (by omega) (by omega))) ?_
   refine zAp rfl zAa rfl (fun _ => (zBf rfl rfl rfl rfl (by omega) (by omega))) ?_
   refine zCl rfl ?_
   refine zBh (ps := [(0, _)]) (pv := [(0, .int _ _)]) (cs := [_]) zAa rfl rfl (fun w => Try_HLc_fb6 _ w) hs33 (fun b34 w35 hs36 => ?_)
   refine zAf (qn ⟨⟨_, hs36.tail⟩, ?_⟩)
   refine zCl rfl ?_
   refine zCw (X := (_ :: _ :: _ :: [])) (B := B) (rows := [[_]]) (sz := 1) (bytes := 8) zAa underlying43 zC9 rfl rfl rfl rfl rfl rfl rfl rfl rfl hs36 hown (zBr (i := 0) rfl (by simp) rfl) rfl (by simp) (by simp [Value.oneCell']) (by simp only [maxLen]; omega) (by omega) (fun v37 w38 B39 ho40 hs41 => ?_)
   replace hs41 := (show St _ _ (_ :: _ :: _ :: B39 ++ (F)) from hs41)
   refine zAf (qn ⟨⟨_, hs41.tail⟩, ?_⟩)
   refine zAp rfl zAa rfl (fun _ => (zAc (v := v37) rfl rfl)) ?_
   refine zB1 ?_
   refine zAl (zAd (hK20 _ _ ?_))
   refine zAb (w_p (zAe (v := .int _ _) rfl rfl) rfl ?_)
   refine w_p (zBf rfl rfl rfl rfl (by omega) (by omega)) rfl ?_
   refine w_p (zAc (v := .int _ _) rfl rfl) rfl ?_
   refine zAf (zAd (hN12 _ _ (Nx.intro (l.bunches.length - (i + 1)) (by omega) (by repeat (first | exact zAv | refine zAu rfl ?_ | refine zAs rfl ?_ _ | refine zAr rfl ?_)) ?_)))
   exact ⟨i + 1, _, _, rfl, by omega, rfl, by rw [show scTo l x (i + 1) = scTo l x i ++ [(l.bunches[i]'hi2).slo + turnOf x i % ((l.bunches[i]'hi2).shi - (l.bunches[i]'hi2).slo + 1)] from by simp only [scTo, scOf, bunch_at hi2]]; exact own_snoc ho40, hs41.tail.tail⟩
  try simp only [zS] at h19
  refine zBl (zAo (zAo (zA4 (zAd (hK8 _ _ ?_)))))
  refine zAg (fun K43 hK42 => ?_)
  refine zAb (w_p (zAe (v := v) rfl rfl) rfl ?_)
  refine w_p (zAc (v := v) rfl rfl) rfl ?_
  refine zAf (zAd (hK42 _ _ ?_))
  refine zA2 (zA3 (l := [.tmp 4]) (vs := [_]) rfl ⟨⟨rfl, show _ = (v : Value) from rfl⟩, trivial⟩ ?_)
  have hil : i = l.bunches.length := by omega
  subst hil
  obtain ⟨aS, cS, rfl, hsg, _, _⟩ := own_ints (w0 := w0) hown
  exact ⟨B, aS, cS, rfl, hsg, hs.tail⟩

end Go.Proofs.Hn
