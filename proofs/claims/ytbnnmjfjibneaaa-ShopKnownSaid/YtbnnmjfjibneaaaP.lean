/- Walks of this seat, printed by gen.py over the engine: what each function returns, in whatever world. No conditions but those of each contract. -/
import Derived.Test.YtbnnmjfjibneaaaO
import Derived.Test.YtbnnmjfjibneaaaSSpecEx
set_option linter.unusedVariables false
set_option linter.unusedSimpArgs false
set_option maxRecDepth 20000
namespace Go.Proofs
open Go.Rt Go.Rt.Sh
attribute [local irreducible] WL WC Con Yd At Ats Sl Agree DW
theorem Try_P_fb4 (x0 : Int) (x1 : Int) (w : World) : (Instr.build 67 [(0, .int .i64 x0), (1, .int .i64 x1)].toArray).run Try.prog w = .ok (.agg #[.int .i64 x0, .int .i64 x1]) w := by kernel_rfl
theorem Try_P_fb5 (x0 : ByteArray) (x1 : Int) (x2 : Int) (x3 : Int) (x4 : Int) (w : World) : (Instr.build 69 [(0, .string x0), (1, .agg #[.int .i64 x1, .int .i64 x2]), (2, .int .i64 x3), (3, .int .i64 x4)].toArray).run Try.prog w = .ok (.agg #[.string x0, .int .i64 x1, .int .i64 x2, .int .i64 x3, .int .i64 x4]) w := by kernel_rfl
theorem Try_P_fb6 (x0 : ByteArray) (x1 : Int) (x2 : Int) (x3 : Int) (x4 : Int) (x5 : ByteArray) (x6 : Int) (x7 : Int) (x8 : Int) (x9 : Int) (w : World) : (Instr.buildSlice 22 2 [(0, .agg #[.string x0, .int .i64 x1, .int .i64 x2, .int .i64 x3, .int .i64 x4]), (1, .agg #[.string x5, .int .i64 x6, .int .i64 x7, .int .i64 x8, .int .i64 x9])].toArray).run Try.prog w = .ok (.slice (some ⟨w.heap.size, 0, none⟩) 2 2) (w.alloc (Go.Rt.blk 69 [.string x0, .int .i64 x1, .int .i64 x2, .int .i64 x3, .int .i64 x4, .string x5, .int .i64 x6, .int .i64 x7, .int .i64 x8, .int .i64 x9])) := by kernel_rfl
theorem Try_P_fb7 (x0 : ByteArray) (x1 : Int) (x2 : Int) (w : World) : (Instr.build 52 [(0, .string x0), (1, .int .i64 x1), (2, .int .i64 x2)].toArray).run Try.prog w = .ok (.agg #[.string x0, .int .i64 x1, .int .i64 x2]) w := by kernel_rfl
theorem Try_P_fb8 (x0 : ByteArray) (x1 : Int) (x2 : Int) (x3 : ByteArray) (x4 : Int) (x5 : Int) (x6 : ByteArray) (x7 : Int) (x8 : Int) (w : World) : (Instr.buildSlice 23 3 [(0, .agg #[.string x0, .int .i64 x1, .int .i64 x2]), (1, .agg #[.string x3, .int .i64 x4, .int .i64 x5]), (2, .agg #[.string x6, .int .i64 x7, .int .i64 x8])].toArray).run Try.prog w = .ok (.slice (some ⟨w.heap.size, 0, none⟩) 3 3) (w.alloc (Go.Rt.blk 52 [.string x0, .int .i64 x1, .int .i64 x2, .string x3, .int .i64 x4, .int .i64 x5, .string x6, .int .i64 x7, .int .i64 x8])) := by kernel_rfl
theorem Try_P_fb9 (x0 : Int) (x1 : Int) (w : World) : (Instr.build 63 [(2, .int .i64 x0), (3, .int .i64 x1)].toArray).run Try.prog w = .ok (.agg #[.int .i64 0, .int .i64 0, .int .i64 x0, .int .i64 x1]) w := by kernel_rfl
theorem Try_P_fb10 (x0 : Int) (x1 : Int) (x2 : Int) (w : World) : (Instr.build 63 [(1, .int .i64 x0), (2, .int .i64 x1), (3, .int .i64 x2)].toArray).run Try.prog w = .ok (.agg #[.int .i64 0, .int .i64 x0, .int .i64 x1, .int .i64 x2]) w := by kernel_rfl
theorem Try_P_fb11 (x0 : Int) (x1 : Int) (x2 : Int) (x3 : Int) (w : World) : (Instr.build 63 [(0, .int .i64 x0), (1, .int .i64 x1), (2, .int .i64 x2), (3, .int .i64 x3)].toArray).run Try.prog w = .ok (.agg #[.int .i64 x0, .int .i64 x1, .int .i64 x2, .int .i64 x3]) w := by kernel_rfl
theorem Try_P_fb12 (x0 : Int) (x1 : Int) (x2 : Int) (x3 : Int) (x4 : Int) (x5 : Int) (x6 : Int) (x7 : Int) (x8 : Int) (x9 : Int) (x10 : Int) (x11 : Int) (x12 : Int) (x13 : Int) (x14 : Int) (x15 : Int) (x16 : Int) (x17 : Int) (x18 : Int) (x19 : Int) (w : World) : (Instr.buildSlice 24 5 [(0, .agg #[.int .i64 x0, .int .i64 x1, .int .i64 x2, .int .i64 x3]), (1, .agg #[.int .i64 x4, .int .i64 x5, .int .i64 x6, .int .i64 x7]), (2, .agg #[.int .i64 x8, .int .i64 x9, .int .i64 x10, .int .i64 x11]), (3, .agg #[.int .i64 x12, .int .i64 x13, .int .i64 x14, .int .i64 x15]), (4, .agg #[.int .i64 x16, .int .i64 x17, .int .i64 x18, .int .i64 x19])].toArray).run Try.prog w = .ok (.slice (some ⟨w.heap.size, 0, none⟩) 5 5) (w.alloc (Go.Rt.blk 63 [.int .i64 x0, .int .i64 x1, .int .i64 x2, .int .i64 x3, .int .i64 x4, .int .i64 x5, .int .i64 x6, .int .i64 x7, .int .i64 x8, .int .i64 x9, .int .i64 x10, .int .i64 x11, .int .i64 x12, .int .i64 x13, .int .i64 x14, .int .i64 x15, .int .i64 x16, .int .i64 x17, .int .i64 x18, .int .i64 x19])) := by kernel_rfl
theorem Try_P_fb13 (x0 : Option Addr) (l0 c0 : Nat) (x1 : Option Addr) (l1 c1 : Nat) (x2 : Option Addr) (l2 c2 : Nat) (w : World) : (Instr.build 26 [(0, .slice x0 l0 c0), (1, .slice x1 l1 c1), (2, .slice x2 l2 c2)].toArray).run Try.prog w = .ok (.agg #[.slice x0 l0 c0, .slice x1 l1 c1, .slice x2 l2 c2]) w := by kernel_rfl
theorem Try_P_fb14 (x0 : Int) (x1 : Int) (x2 : Int) (w : World) : (Instr.buildSlice 30 3 [(0, .int .i64 x0), (1, .int .i64 x1), (2, .int .i64 x2)].toArray).run Try.prog w = .ok (.slice (some ⟨w.heap.size, 0, none⟩) 3 3) (w.alloc (Go.Rt.blk 3 [.int .i64 x0, .int .i64 x1, .int .i64 x2])) := by kernel_rfl
theorem Try_P_fb15 (x0 : Int) (x1 : Int) (w : World) : (Instr.buildSlice 30 2 [(0, .int .i64 x0), (1, .int .i64 x1)].toArray).run Try.prog w = .ok (.slice (some ⟨w.heap.size, 0, none⟩) 2 2) (w.alloc (Go.Rt.blk 3 [.int .i64 x0, .int .i64 x1])) := by kernel_rfl
theorem Try_P_fb16 (x0 : Int) (w : World) : (Instr.buildSlice 30 1 [(0, .int .i64 x0)].toArray).run Try.prog w = .ok (.slice (some ⟨w.heap.size, 0, none⟩) 1 1) (w.alloc (Go.Rt.blk 3 [.int .i64 x0])) := by kernel_rfl
theorem Try_P_fb17 (x0 : Int) (x1 : Int) (x2 : Int) (x3 : Int) (w : World) : (Instr.buildSlice 30 4 [(0, .int .i64 x0), (1, .int .i64 x1), (2, .int .i64 x2), (3, .int .i64 x3)].toArray).run Try.prog w = .ok (.slice (some ⟨w.heap.size, 0, none⟩) 4 4) (w.alloc (Go.Rt.blk 3 [.int .i64 x0, .int .i64 x1, .int .i64 x2, .int .i64 x3])) := by kernel_rfl
theorem Try_P_fb18 (x0 : Int) (x1 : Int) (x2 : Int) (x3 : Int) (x4 : Int) (w : World) : (Instr.buildSlice 30 5 [(0, .int .i64 x0), (1, .int .i64 x1), (2, .int .i64 x2), (3, .int .i64 x3), (4, .int .i64 x4)].toArray).run Try.prog w = .ok (.slice (some ⟨w.heap.size, 0, none⟩) 5 5) (w.alloc (Go.Rt.blk 3 [.int .i64 x0, .int .i64 x1, .int .i64 x2, .int .i64 x3, .int .i64 x4])) := by kernel_rfl
theorem gen_Z {w0 w : World} {L : List (Nat × Obj)} (hs : St w0 w L) : ∃ Z, Z = L ∧ St w0 w Z := ⟨L, rfl, hs⟩
theorem con_true {k : FuncId} {args : List Value} {w : World} {x : Bool} {S : World → Prop} (h : Con Try.prog k args w fun v w' => v = .bool x ∧ S w') (hx : x = true) : Con Try.prog k args w fun v w' => v = .bool true ∧ S w' := by subst hx; exact h
theorem drop_4th {w0 w : World} {F : List (Nat × Obj)} {a b c d : Nat × Obj} (h : St w0 w (a :: b :: c :: d :: F)) : St w0 w (a :: b :: c :: F) := (h.perm (perm_mid [a, b, c] [d] F)).tail
theorem ex_min {w0 : World} {L : List (Nat × Obj)} {i1 i2 i3 bt bs br : Nat} {x y : Int} (ht : L[i1]? = some (bt, blk 63 (trows (exM x y).trains).flatten)) (hs : L[i2]? = some (bs, blk 52 (srows (exM x y).shops).flatten)) (hr : L[i3]? = some (br, blk 69 (rrows (exM x y).rooms).flatten)) : MIn w0 L (exM x y) ⟨some ⟨br, 0, none⟩, 2, some ⟨bs, 0, none⟩, 3, some ⟨bt, 0, none⟩, 5⟩ where
  r := sl_own hr (by intro row h; obtain ⟨q, _, rfl⟩ := List.mem_map.1 h; rfl) rfl
  s := sl_own hs (by intro row h; obtain ⟨q, _, rfl⟩ := List.mem_map.1 h; rfl) rfl
  t := sl_own ht (by intro row h; obtain ⟨q, _, rfl⟩ := List.mem_map.1 h; rfl) rfl
  lr := by simp [exM]
  ls := by simp [exM]
  lt := by simp [exM]
  cr := by simp [exM]
  cs := by simp [exM]
  ct := by simp [exM]
  nr := by intro q hq; simp only [exM, List.mem_cons, List.not_mem_nil, or_false] at hq; rcases hq with rfl | rfl <;> (dsimp only; decide)
  ns := by intro q hq; simp only [exM, List.mem_cons, List.not_mem_nil, or_false] at hq; rcases hq with rfl | rfl | rfl <;> (dsimp only; decide)
theorem c78 {w0 w : World} {F : List (Nat × Obj)} (x y : Int) (hs : St w0 w F) :
  Con Try.prog 78 [.int .i64 x, .int .i64 y] w fun v w' => v = .agg #[.int .i64 x, .int .i64 y] ∧ St w0 w' F := by
  refine con_of_wc (n := 8) Try.func78 rfl rfl (Nat.le_of_ble_eq_true rfl) ?_
  refine w_seq (fun K2 hK1 => ?_)
  refine w_region ?_
  refine w_alloc (cs := [_, _]) want_none Try.zeroValue67 rfl hs (fun b3 w4 hs5 => ?_)
  refine w_nil ?_
  refine q_then (hK1 _ _ ?_)
  refine w_seq (fun K7 hK6 => ?_)
  refine w_region ?_
  refine w_pure want_none (y_move (v := .int _ _) rfl rfl) rfl ?_
  refine w_pure want_none (y_move (v := .int _ _) rfl rfl) rfl ?_
  refine w_pure want_none (y_build (ps := [(0, _), (1, _)]) (pv := [(0, .int _ _), (1, .int _ _)]) rfl rfl (fun w => Try_P_fb4 _ _ w)) rfl ?_
  refine w_store (i := 0) (v := .agg #[.int _ _, .int _ _]) (vs := [_, _]) want_none Try.sizeOf67 rfl rfl rfl rfl rfl (by simp [Value.oneCell']) hs5 rfl (Nat.le_of_ble_eq_true rfl) (fun w8 hs9 => ?_)
  refine w_nil ?_
  refine q_then (hK6 _ _ ?_)
  refine w_ret ?_
  refine q_ret (l := [.cell 4 67]) (vs := [_]) rfl ⟨⟨rfl, _, rfl, run_loadVarN (vs := [_, _]) Try.isAgg67 Try.sizeOf67 hs9 (ats_own (i := 0) (vs := [_, _]) rfl rfl)⟩, trivial⟩ ?_
  exact ⟨rfl, hs9.tail⟩

theorem c34 {w0 w : World} {F : List (Nat × Obj)} (x y : Int) (hs : St w0 w F) :
  Con Try.prog 34 [.int .i64 x, .int .i64 y] w fun v w' => ∃ bt bs br, v = .agg #[.slice (some ⟨br, 0, none⟩) 2 2, .slice (some ⟨bs, 0, none⟩) 3 3, .slice (some ⟨bt, 0, none⟩) 5 5] ∧ St w0 w' ((bt, blk 63 (trows (exM x y).trains).flatten) :: (bs, blk 52 (srows (exM x y).shops).flatten) :: (br, blk 69 (rrows (exM x y).rooms).flatten) :: F) := by
  refine con_of_wc (n := 23) Try.func34 rfl rfl (Nat.le_of_ble_eq_true rfl) ?_
  refine w_seq (fun K2 hK1 => ?_)
  refine w_region ?_
  refine w_alloc (cs := [_, _, _]) want_none Try.zeroValue26 rfl hs (fun b3 w4 hs5 => ?_)
  refine w_nil ?_
  refine q_then (hK1 _ _ ?_)
  refine w_seq (fun K7 hK6 => ?_)
  refine w_region ?_
  refine w_call want_none Try.call78 rfl rfl rfl rfl (c78 _ _ hs5) ?_
  rintro _ w9 ⟨rfl, hs10⟩
  refine w_pure want_none (y_move (v := .int _ _) rfl rfl) rfl ?_
  refine w_pure want_none (y_build (ps := [(0, _), (1, _), (2, _), (3, _)]) (pv := [(0, .string _), (1, .agg #[.int _ _, .int _ _]), (2, .int _ _), (3, .int _ _)]) rfl rfl (fun w => Try_P_fb5 _ _ _ _ _ w)) rfl ?_
  refine w_call want_none Try.call78 rfl rfl rfl rfl (c78 _ _ hs10) ?_
  rintro _ w12 ⟨rfl, hs13⟩
  refine w_pure want_none (y_build (ps := [(0, _), (1, _), (2, _), (3, _)]) (pv := [(0, .string _), (1, .agg #[.int _ _, .int _ _]), (2, .int _ _), (3, .int _ _)]) rfl rfl (fun w => Try_P_fb5 _ _ _ _ _ w)) rfl ?_
  refine w_bslice (ps := [(0, _), (1, _)]) (pv := [(0, .agg #[.string _, .int _ _, .int _ _, .int _ _, .int _ _]), (1, .agg #[.string _, .int _ _, .int _ _, .int _ _, .int _ _])]) (cs := [_, _, _, _, _, _, _, _, _, _]) want_none rfl rfl (fun w => Try_P_fb6 _ _ _ _ _ _ _ _ _ _ w) hs13 (fun b14 w15 hs16 => ?_)
  refine w_pure want_none (y_build (ps := [(0, _), (1, _), (2, _)]) (pv := [(0, .string _), (1, .int _ _), (2, .int _ _)]) rfl rfl (fun w => Try_P_fb7 _ _ _ w)) rfl ?_
  refine w_pure want_none (y_move (v := .int _ _) rfl rfl) rfl ?_
  refine w_pure want_none (y_build (ps := [(0, _), (1, _), (2, _)]) (pv := [(0, .string _), (1, .int _ _), (2, .int _ _)]) rfl rfl (fun w => Try_P_fb7 _ _ _ w)) rfl ?_
  refine w_pure want_none (y_build (ps := [(0, _), (1, _), (2, _)]) (pv := [(0, .string _), (1, .int _ _), (2, .int _ _)]) rfl rfl (fun w => Try_P_fb7 _ _ _ w)) rfl ?_
  refine w_bslice (ps := [(0, _), (1, _), (2, _)]) (pv := [(0, .agg #[.string _, .int _ _, .int _ _]), (1, .agg #[.string _, .int _ _, .int _ _]), (2, .agg #[.string _, .int _ _, .int _ _])]) (cs := [_, _, _, _, _, _, _, _, _]) want_none rfl rfl (fun w => Try_P_fb8 _ _ _ _ _ _ _ _ _ w) hs16 (fun b17 w18 hs19 => ?_)
  refine w_pure want_none (y_build (ps := [(2, _), (3, _)]) (pv := [(2, .int _ _), (3, .int _ _)]) rfl rfl (fun w => Try_P_fb9 _ _ w)) rfl ?_
  refine w_pure want_none (y_build (ps := [(1, _), (2, _), (3, _)]) (pv := [(1, .int _ _), (2, .int _ _), (3, .int _ _)]) rfl rfl (fun w => Try_P_fb10 _ _ _ w)) rfl ?_
  refine w_pure want_none (y_build (ps := [(0, _), (1, _), (2, _), (3, _)]) (pv := [(0, .int _ _), (1, .int _ _), (2, .int _ _), (3, .int _ _)]) rfl rfl (fun w => Try_P_fb11 _ _ _ _ w)) rfl ?_
  refine w_pure want_none (y_build (ps := [(0, _), (1, _), (2, _), (3, _)]) (pv := [(0, .int _ _), (1, .int _ _), (2, .int _ _), (3, .int _ _)]) rfl rfl (fun w => Try_P_fb11 _ _ _ _ w)) rfl ?_
  refine w_pure want_none (y_build (ps := [(1, _), (2, _), (3, _)]) (pv := [(1, .int _ _), (2, .int _ _), (3, .int _ _)]) rfl rfl (fun w => Try_P_fb10 _ _ _ w)) rfl ?_
  refine w_bslice (ps := [(0, _), (1, _), (2, _), (3, _), (4, _)]) (pv := [(0, .agg #[.int _ _, .int _ _, .int _ _, .int _ _]), (1, .agg #[.int _ _, .int _ _, .int _ _, .int _ _]), (2, .agg #[.int _ _, .int _ _, .int _ _, .int _ _]), (3, .agg #[.int _ _, .int _ _, .int _ _, .int _ _]), (4, .agg #[.int _ _, .int _ _, .int _ _, .int _ _])]) (cs := [_, _, _, _, _, _, _, _, _, _, _, _, _, _, _, _, _, _, _, _]) want_none rfl rfl (fun w => Try_P_fb12 _ _ _ _ _ _ _ _ _ _ _ _ _ _ _ _ _ _ _ _ w) hs19 (fun b20 w21 hs22 => ?_)
  refine w_pure want_none (y_build (ps := [(0, _), (1, _), (2, _)]) (pv := [(0, .slice _ _ _), (1, .slice _ _ _), (2, .slice _ _ _)]) rfl rfl (fun w => Try_P_fb13 _ _ _ _ _ _ _ _ _ w)) rfl ?_
  refine w_store (i := 3) (v := .agg #[.slice _ _ _, .slice _ _ _, .slice _ _ _]) (vs := [_, _, _]) want_none Try.sizeOf26 rfl rfl rfl rfl rfl (by simp [Value.oneCell']) hs22 rfl (Nat.le_of_ble_eq_true rfl) (fun w23 hs24 => ?_)
  refine w_nil ?_
  refine q_then (hK6 _ _ ?_)
  refine w_ret ?_
  refine q_ret (l := [.cell 4 26]) (vs := [_]) rfl ⟨⟨rfl, _, rfl, run_loadVarN (vs := [_, _, _]) Try.isAgg26 Try.sizeOf26 hs24 (ats_own (i := 3) (vs := [_, _, _]) rfl rfl)⟩, trivial⟩ ?_
  exact ⟨_, _, _, rfl, drop_4th hs24⟩

theorem c21 {w0 w : World} {F : List (Nat × Obj)}  (hs : St w0 w F) :
  Con Try.prog 21 [] w fun v w' => v = .bool true ∧ St w0 w' F := by
  refine con_of_wc (n := 178) Try.func21 rfl rfl (Nat.le_of_ble_eq_true rfl) ?_
  refine w_seq (fun K2 hK1 => ?_)
  refine w_region ?_
  refine w_pure want_none (y_assign (v := _) rfl rfl) rfl ?_
  refine w_nil ?_
  refine q_then (hK1 _ _ ?_)
  refine w_seq (fun K4 hK3 => ?_)
  refine w_region ?_
  refine w_call want_none Try.call34 rfl rfl rfl rfl (c34 2 10 hs) ?_
  rintro _ w6 ⟨t1, s1, r1, rfl, hs7⟩
  refine w_call want_none Try.call34 rfl rfl rfl rfl (c34 3 10 hs7) ?_
  rintro _ w9 ⟨t2, s2, r2, rfl, hs10⟩
  refine w_alloc (cs := [_, _, _]) want_none Try.zeroValue26 rfl hs10 (fun b11 w12 hs13 => ?_)
  refine w_alloc (cs := [_, _, _]) want_none Try.zeroValue26 rfl hs13 (fun b14 w15 hs16 => ?_)
  refine w_store (i := 1) (v := .agg #[.slice _ _ _, .slice _ _ _, .slice _ _ _]) (vs := [_, _, _]) want_none Try.sizeOf26 rfl rfl rfl rfl rfl (by simp [Value.oneCell']) hs16 rfl (Nat.le_of_ble_eq_true rfl) (fun w17 hs18 => ?_)
  refine w_store (i := 0) (v := .agg #[.slice _ _ _, .slice _ _ _, .slice _ _ _]) (vs := [_, _, _]) want_none Try.sizeOf26 rfl rfl rfl rfl rfl (by simp [Value.oneCell']) hs18 rfl (Nat.le_of_ble_eq_true rfl) (fun w19 hs20 => ?_)
  refine w_nil ?_
  refine q_then (hK3 _ _ ?_)
  refine w_seq (fun K22 hK21 => ?_)
  obtain ⟨Z, hZ, hsZ⟩ := gen_Z hs20
  have hP1 : Ats w0 Z b11 0 ((exM 2 10).cells ⟨some ⟨r1, 0, none⟩, 2, some ⟨s1, 0, none⟩, 3, some ⟨t1, 0, none⟩, 5⟩) := by rw [hZ]; exact ats_own (i := 1) (vs := [_, _, _]) rfl rfl
  have hM1 : MIn w0 Z (exM 2 10) ⟨some ⟨r1, 0, none⟩, 2, some ⟨s1, 0, none⟩, 3, some ⟨t1, 0, none⟩, 5⟩ := by rw [hZ]; exact ex_min (i1 := 5) (i2 := 6) (i3 := 7) rfl rfl rfl
  have hP2 : Ats w0 Z b14 0 ((exM 3 10).cells ⟨some ⟨r2, 0, none⟩, 2, some ⟨s2, 0, none⟩, 3, some ⟨t2, 0, none⟩, 5⟩) := by rw [hZ]; exact ats_own (i := 0) (vs := [_, _, _]) rfl rfl
  have hM2 : MIn w0 Z (exM 3 10) ⟨some ⟨r2, 0, none⟩, 2, some ⟨s2, 0, none⟩, 3, some ⟨t2, 0, none⟩, 5⟩ := by rw [hZ]; exact ex_min (i1 := 2) (i2 := 3) (i3 := 4) rfl rfl rfl
  refine w_region ?_
  refine w_pure want_none (y_loadN (vs := [_, _, _]) Try.isAgg26 Try.sizeOf26 hsZ rfl rfl hP1) rfl ?_
  refine w_call want_none Try.call18 rfl rfl rfl rfl ((c18 (exM 2 10) ⟨some ⟨r1, 0, none⟩, 2, some ⟨s1, 0, none⟩, 3, some ⟨t1, 0, none⟩, 5⟩ hM1 hsZ).mono (fun v w' h => by rw [ex_goes] at h; exact h)) ?_
  rintro _ w24 ⟨B1, a1, c1, rfl, hq1, hs25⟩
  replace hs25 := (show St _ _ (B1 ++ (Z)) from hs25)
  refine w_pure want_none (y_move (v := .tuple _) rfl rfl) rfl ?_
  refine w_pure want_none (y_extract (v := .slice _ _ _) rfl rfl rfl) rfl ?_
  refine w_pure want_none (y_extract (v := .int _ _) rfl rfl rfl) rfl ?_
  refine w_pure want_none (y_assign (v := .slice _ _ _) rfl rfl) rfl ?_
  refine w_pure want_none (y_assign (v := .int _ _) rfl rfl) rfl ?_
  refine w_nil ?_
  refine q_then (hK21 _ _ ?_)
  refine w_seq (fun K27 hK26 => ?_)
  refine w_region ?_
  refine w_pure want_none (y_loadN (vs := [_, _, _]) Try.isAgg26 Try.sizeOf26 hs25.drop rfl rfl hP1) rfl ?_
  refine w_bslice (ps := [(0, _), (1, _), (2, _)]) (pv := [(0, .int _ _), (1, .int _ _), (2, .int _ _)]) (cs := [_, _, _]) want_none rfl rfl (fun w => Try_P_fb14 _ _ _ w) hs25 (fun b28 w29 hs30 => ?_)
  refine w_call want_none Try.call22 rfl rfl rfl rfl ((c22 (exM 2 10) ⟨some ⟨r1, 0, none⟩, 2, some ⟨s1, 0, none⟩, 3, some ⟨t1, 0, none⟩, 5⟩ hM1.app.cons (some ⟨b28, 0, none⟩) 3 [0, 1, 2] (by decide) (sl_own (i := 0) (rows := [[_], [_], [_]]) rfl (by simp) rfl) hs30).mono (fun v w' h => by rw [ex_can1] at h; exact h)) ?_
  rintro _ w32 ⟨rfl, hs33⟩
  refine w_pure want_none (y_move (v := .tuple _) rfl rfl) rfl ?_
  refine w_pure want_none (y_extract (v := .int _ _) rfl rfl rfl) rfl ?_
  refine w_pure want_none (y_extract (v := .int _ _) rfl rfl rfl) rfl ?_
  refine w_pure want_none (y_assign (v := .int _ _) rfl rfl) rfl ?_
  refine w_pure want_none (y_assign (v := .int _ _) rfl rfl) rfl ?_
  refine w_nil ?_
  refine q_then (hK26 _ _ ?_)
  refine w_seq (fun K35 hK34 => ?_)
  refine w_region ?_
  refine w_pure want_none (y_loadN (vs := [_, _, _]) Try.isAgg26 Try.sizeOf26 hs33.tail.drop rfl rfl hP1) rfl ?_
  refine w_bslice (ps := [(0, _), (1, _)]) (pv := [(0, .int _ _), (1, .int _ _)]) (cs := [_, _]) want_none rfl rfl (fun w => Try_P_fb15 _ _ w) hs33 (fun b36 w37 hs38 => ?_)
  refine w_call want_none Try.call22 rfl rfl rfl rfl ((c22 (exM 2 10) ⟨some ⟨r1, 0, none⟩, 2, some ⟨s1, 0, none⟩, 3, some ⟨t1, 0, none⟩, 5⟩ hM1.app.cons.cons (some ⟨b36, 0, none⟩) 2 [1, 2] (by decide) (sl_own (i := 0) (rows := [[_], [_]]) rfl (by simp) rfl) hs38).mono (fun v w' h => by rw [ex_can2] at h; exact h)) ?_
  rintro _ w40 ⟨rfl, hs41⟩
  refine w_pure want_none (y_move (v := .tuple _) rfl rfl) rfl ?_
  refine w_pure want_none (y_extract (v := .int _ _) rfl rfl rfl) rfl ?_
  refine w_pure want_none (y_extract (v := .int _ _) rfl rfl rfl) rfl ?_
  refine w_pure want_none (y_assign (v := .int _ _) rfl rfl) rfl ?_
  refine w_pure want_none (y_assign (v := .int _ _) rfl rfl) rfl ?_
  refine w_nil ?_
  refine q_then (hK34 _ _ ?_)
  refine w_seq (fun K43 hK42 => ?_)
  refine w_region ?_
  refine w_call want_none Try.call34 rfl rfl rfl rfl (c34 3 15 hs41) ?_
  rintro _ w45 ⟨t3, s3, r3, rfl, hs46⟩
  refine w_bslice (ps := [(0, _)]) (pv := [(0, .int _ _)]) (cs := [_]) want_none rfl rfl (fun w => Try_P_fb16 _ w) hs46 (fun b47 w48 hs49 => ?_)
  refine w_call want_none Try.call22 rfl rfl rfl rfl ((c22 (exM 3 15) ⟨some ⟨r3, 0, none⟩, 2, some ⟨s3, 0, none⟩, 3, some ⟨t3, 0, none⟩, 5⟩ (ex_min (i1 := 1) (i2 := 2) (i3 := 3) rfl rfl rfl) (some ⟨b47, 0, none⟩) 1 [1] (by decide) (sl_own (i := 0) (rows := [[_]]) rfl (by simp) rfl) hs49).mono (fun v w' h => by rw [ex_can3] at h; exact h)) ?_
  rintro _ w51 ⟨rfl, hs52⟩
  refine w_pure want_none (y_move (v := .tuple _) rfl rfl) rfl ?_
  refine w_pure want_none (y_extract (v := .int _ _) rfl rfl rfl) rfl ?_
  refine w_pure want_none (y_extract (v := .int _ _) rfl rfl rfl) rfl ?_
  refine w_pure want_none (y_assign (v := .int _ _) rfl rfl) rfl ?_
  refine w_pure want_none (y_assign (v := .int _ _) rfl rfl) rfl ?_
  refine w_nil ?_
  refine q_then (hK42 _ _ ?_)
  refine w_seq (fun K54 hK53 => ?_)
  refine w_region ?_
  refine w_pure want_none (y_loadN (vs := [_, _, _]) Try.isAgg26 Try.sizeOf26 hs52.tail.tail.tail.tail.tail.tail.drop rfl rfl hP1) rfl ?_
  refine w_bslice (ps := [(0, _), (1, _), (2, _)]) (pv := [(0, .int _ _), (1, .int _ _), (2, .int _ _)]) (cs := [_, _, _]) want_none rfl rfl (fun w => Try_P_fb14 _ _ _ w) hs52 (fun b55 w56 hs57 => ?_)
  refine w_call want_none Try.call24 rfl rfl rfl rfl ((c24 (exM 2 10) ⟨some ⟨r1, 0, none⟩, 2, some ⟨s1, 0, none⟩, 3, some ⟨t1, 0, none⟩, 5⟩ hM1.app.cons.cons.cons.cons.cons.cons.cons (some ⟨b55, 0, none⟩) 3 [0, 1, 2] (by decide) (sl_own (i := 0) (rows := [[_], [_], [_]]) rfl (by simp) rfl) hs57).mono (fun v w' h => by rw [ex_proof1] at h; exact h)) ?_
  rintro _ w59 ⟨B2, a2, c2, rfl, hq2, hs60⟩
  replace hs60 := (show St _ _ (B2 ++ (_ :: _ :: _ :: _ :: _ :: _ :: _ :: B1 ++ (Z))) from hs60)
  refine w_pure want_none (y_move (v := .tuple _) rfl rfl) rfl ?_
  refine w_pure want_none (y_extract (v := .slice _ _ _) rfl rfl rfl) rfl ?_
  refine w_pure want_none (y_extract (v := .int _ _) rfl rfl rfl) rfl ?_
  refine w_pure want_none (y_extract (v := .int _ _) rfl rfl rfl) rfl ?_
  refine w_pure want_none (y_assign (v := .slice _ _ _) rfl rfl) rfl ?_
  refine w_pure want_none (y_assign (v := .int _ _) rfl rfl) rfl ?_
  refine w_pure want_none (y_assign (v := .int _ _) rfl rfl) rfl ?_
  refine w_nil ?_
  refine q_then (hK53 _ _ ?_)
  refine w_seq (fun K62 hK61 => ?_)
  refine w_region ?_
  refine w_pure want_none (y_loadN (vs := [_, _, _]) Try.isAgg26 Try.sizeOf26 hs60.drop.tail.tail.tail.tail.tail.tail.tail.drop rfl rfl hP1) rfl ?_
  refine w_bslice (ps := [(0, _), (1, _)]) (pv := [(0, .int _ _), (1, .int _ _)]) (cs := [_, _]) want_none rfl rfl (fun w => Try_P_fb15 _ _ w) hs60 (fun b63 w64 hs65 => ?_)
  refine w_call want_none Try.call24 rfl rfl rfl rfl ((c24 (exM 2 10) ⟨some ⟨r1, 0, none⟩, 2, some ⟨s1, 0, none⟩, 3, some ⟨t1, 0, none⟩, 5⟩ hM1.app.cons.cons.cons.cons.cons.cons.cons.app.cons (some ⟨b63, 0, none⟩) 2 [1, 2] (by decide) (sl_own (i := 0) (rows := [[_], [_]]) rfl (by simp) rfl) hs65).mono (fun v w' h => by rw [ex_proof2] at h; exact h)) ?_
  rintro _ w67 ⟨B3, a3, c3, rfl, hq3, hs68⟩
  replace hs68 := (show St _ _ (B3 ++ (_ :: B2 ++ (_ :: _ :: _ :: _ :: _ :: _ :: _ :: B1 ++ (Z)))) from hs68)
  refine w_pure want_none (y_move (v := .tuple _) rfl rfl) rfl ?_
  refine w_pure want_none (y_extract (v := .slice _ _ _) rfl rfl rfl) rfl ?_
  refine w_pure want_none (y_extract (v := .int _ _) rfl rfl rfl) rfl ?_
  refine w_pure want_none (y_extract (v := .int _ _) rfl rfl rfl) rfl ?_
  refine w_pure want_none (y_assign (v := .slice _ _ _) rfl rfl) rfl ?_
  refine w_pure want_none (y_assign (v := .int _ _) rfl rfl) rfl ?_
  refine w_pure want_none (y_assign (v := .int _ _) rfl rfl) rfl ?_
  refine w_nil ?_
  refine q_then (hK61 _ _ ?_)
  refine w_seq (fun K70 hK69 => ?_)
  refine w_region ?_
  refine w_pure want_none (y_loadN (vs := [_, _, _]) Try.isAgg26 Try.sizeOf26 hs68.drop.tail.drop.tail.tail.tail.tail.tail.tail.tail.drop rfl rfl hP1) rfl ?_
  refine w_call want_none Try.call26 rfl rfl rfl rfl ((c26 (exM 2 10) ⟨some ⟨r1, 0, none⟩, 2, some ⟨s1, 0, none⟩, 3, some ⟨t1, 0, none⟩, 5⟩ hM1.app.cons.cons.cons.cons.cons.cons.cons.app.cons.app hs68).mono (fun v w' h => by rw [ex_without] at h; exact h)) ?_
  rintro _ w72 ⟨B4, a4, c4, rfl, hq4, hs73⟩
  replace hs73 := (show St _ _ (B4 ++ (B3 ++ (_ :: B2 ++ (_ :: _ :: _ :: _ :: _ :: _ :: _ :: B1 ++ (Z))))) from hs73)
  refine w_pure want_none (y_move (v := .tuple _) rfl rfl) rfl ?_
  refine w_pure want_none (y_extract (v := .slice _ _ _) rfl rfl rfl) rfl ?_
  refine w_pure want_none (y_extract (v := .int _ _) rfl rfl rfl) rfl ?_
  refine w_pure want_none (y_assign (v := .slice _ _ _) rfl rfl) rfl ?_
  refine w_pure want_none (y_assign (v := .int _ _) rfl rfl) rfl ?_
  refine w_nil ?_
  refine q_then (hK69 _ _ ?_)
  refine w_seq (fun K75 hK74 => ?_)
  refine w_region ?_
  refine w_pure want_none (y_loadN (vs := [_, _, _]) Try.isAgg26 Try.sizeOf26 hs73.drop.drop.tail.drop.tail.tail.tail.tail.tail.tail.tail.drop rfl rfl hP1) rfl ?_
  refine w_call want_none Try.call28 rfl rfl rfl rfl ((c28 (exM 2 10) ⟨some ⟨r1, 0, none⟩, 2, some ⟨s1, 0, none⟩, 3, some ⟨t1, 0, none⟩, 5⟩ hM1.app.cons.cons.cons.cons.cons.cons.cons.app.cons.app.app hs73).mono (fun v w' h => by rw [ex_give] at h; exact h)) ?_
  rintro _ w77 ⟨B5, a5, c5, rfl, hq5, hs78⟩
  replace hs78 := (show St _ _ (B5 ++ (B4 ++ (B3 ++ (_ :: B2 ++ (_ :: _ :: _ :: _ :: _ :: _ :: _ :: B1 ++ (Z)))))) from hs78)
  refine w_pure want_none (y_move (v := .tuple _) rfl rfl) rfl ?_
  refine w_pure want_none (y_extract (v := .slice _ _ _) rfl rfl rfl) rfl ?_
  refine w_pure want_none (y_extract (v := .int _ _) rfl rfl rfl) rfl ?_
  refine w_pure want_none (y_assign (v := .slice _ _ _) rfl rfl) rfl ?_
  refine w_pure want_none (y_assign (v := .int _ _) rfl rfl) rfl ?_
  refine w_nil ?_
  refine q_then (hK74 _ _ ?_)
  refine w_seq (fun K80 hK79 => ?_)
  refine w_region ?_
  refine w_pure want_none (y_loadN (vs := [_, _, _]) Try.isAgg26 Try.sizeOf26 hs78.drop.drop.drop.tail.drop.tail.tail.tail.tail.tail.tail.tail.drop rfl rfl hP1) rfl ?_
  refine w_call want_none Try.call30 rfl rfl rfl rfl ((c30 (exM 2 10) ⟨some ⟨r1, 0, none⟩, 2, some ⟨s1, 0, none⟩, 3, some ⟨t1, 0, none⟩, 5⟩ hM1.app.cons.cons.cons.cons.cons.cons.cons.app.cons.app.app.app 0 hs78).mono (fun v w' h => by rw [ex_more] at h; exact h)) ?_
  rintro _ w82 ⟨rfl, hs83⟩
  refine w_pure want_none (y_move (v := .tuple _) rfl rfl) rfl ?_
  refine w_pure want_none (y_extract (v := .int _ _) rfl rfl rfl) rfl ?_
  refine w_pure want_none (y_extract (v := .int _ _) rfl rfl rfl) rfl ?_
  refine w_pure want_none (y_assign (v := .int _ _) rfl rfl) rfl ?_
  refine w_pure want_none (y_assign (v := .int _ _) rfl rfl) rfl ?_
  refine w_nil ?_
  refine q_then (hK79 _ _ ?_)
  refine w_seq (fun K85 hK84 => ?_)
  refine w_region ?_
  refine w_pure want_none (y_loadN (vs := [_, _, _]) Try.isAgg26 Try.sizeOf26 hs83.drop.drop.drop.tail.drop.tail.tail.tail.tail.tail.tail.tail.drop rfl rfl hP2) rfl ?_
  refine w_call want_none Try.call32 rfl rfl rfl rfl ((c32 (exM 3 10) ⟨some ⟨r2, 0, none⟩, 2, some ⟨s2, 0, none⟩, 3, some ⟨t2, 0, none⟩, 5⟩ hM2.app.cons.cons.cons.cons.cons.cons.cons.app.cons.app.app.app 1 hs83).mono (fun v w' h => by rw [ex_late] at h; exact h)) ?_
  rintro _ w87 ⟨rfl, hs88⟩
  refine w_pure want_none (y_move (v := .tuple _) rfl rfl) rfl ?_
  refine w_pure want_none (y_extract (v := .int _ _) rfl rfl rfl) rfl ?_
  refine w_pure want_none (y_extract (v := .int _ _) rfl rfl rfl) rfl ?_
  refine w_pure want_none (y_assign (v := .int _ _) rfl rfl) rfl ?_
  refine w_pure want_none (y_assign (v := .int _ _) rfl rfl) rfl ?_
  refine w_nil ?_
  refine q_then (hK84 _ _ ?_)
  refine w_seq (fun K90 hK89 => ?_)
  refine w_region ?_
  refine w_pure want_none (y_loadN (vs := [_, _, _]) Try.isAgg26 Try.sizeOf26 hs88.drop.drop.drop.tail.drop.tail.tail.tail.tail.tail.tail.tail.drop rfl rfl hP1) rfl ?_
  refine w_bslice (ps := [(0, _), (1, _)]) (pv := [(0, .int _ _), (1, .int _ _)]) (cs := [_, _]) want_none rfl rfl (fun w => Try_P_fb15 _ _ w) hs88 (fun b91 w92 hs93 => ?_)
  refine w_call want_none Try.call22 rfl rfl rfl rfl ((c22 (exM 2 10) ⟨some ⟨r1, 0, none⟩, 2, some ⟨s1, 0, none⟩, 3, some ⟨t1, 0, none⟩, 5⟩ hM1.app.cons.cons.cons.cons.cons.cons.cons.app.cons.app.app.app.cons (some ⟨b91, 0, none⟩) 2 [1, 0] (by decide) (sl_own (i := 0) (rows := [[_], [_]]) rfl (by simp) rfl) hs93).mono (fun v w' h => by rw [ex_can4] at h; exact h)) ?_
  rintro _ w95 ⟨rfl, hs96⟩
  refine w_pure want_none (y_move (v := .tuple _) rfl rfl) rfl ?_
  refine w_pure want_none (y_extract (v := .int _ _) rfl rfl rfl) rfl ?_
  refine w_pure want_none (y_extract (v := .int _ _) rfl rfl rfl) rfl ?_
  refine w_pure want_none (y_assign (v := .int _ _) rfl rfl) rfl ?_
  refine w_pure want_none (y_assign (v := .int _ _) rfl rfl) rfl ?_
  refine w_nil ?_
  refine q_then (hK89 _ _ ?_)
  refine w_seq (fun K98 hK97 => ?_)
  refine w_region ?_
  refine w_pure want_none (y_move (v := .int _ _) rfl rfl) rfl ?_
  refine w_pure want_none (y_eql rfl rfl rfl rfl) rfl ?_
  refine w_pure want_none (y_move (v := .bool _) rfl rfl) rfl ?_
  refine w_pure (want_yes rfl rfl rfl) (y_move (v := .int _ _) rfl rfl) rfl ?_
  refine w_pure (want_yes rfl rfl rfl) (y_eql rfl rfl rfl rfl) rfl ?_
  refine w_pure want_none (y_pickT (v := .bool _) rfl rfl rfl rfl) rfl ?_
  refine w_pure want_none (y_move (v := .bool _) rfl rfl) rfl ?_
  refine w_pure (want_yes rfl rfl rfl) (y_move (v := .int _ _) rfl rfl) rfl ?_
  refine w_pure (want_yes rfl rfl rfl) (y_eql rfl rfl rfl rfl) rfl ?_
  refine w_pure want_none (y_pickT (v := .bool _) rfl rfl rfl rfl) rfl ?_
  refine w_pure want_none (y_move (v := .bool _) rfl rfl) rfl ?_
  refine w_pure (want_yes rfl rfl rfl) (y_move (v := .int _ _) rfl rfl) rfl ?_
  refine w_pure (want_yes rfl rfl rfl) (y_eql rfl rfl rfl rfl) rfl ?_
  refine w_pure want_none (y_pickT (v := .bool _) rfl rfl rfl rfl) rfl ?_
  refine w_pure want_none (y_move (v := .bool _) rfl rfl) rfl ?_
  refine w_pure (want_yes rfl rfl rfl) (y_move (v := .int _ _) rfl rfl) rfl ?_
  refine w_pure (want_yes rfl rfl rfl) (y_eql rfl rfl rfl rfl) rfl ?_
  refine w_pure want_none (y_pickT (v := .bool _) rfl rfl rfl rfl) rfl ?_
  refine w_pure want_none (y_move (v := .bool _) rfl rfl) rfl ?_
  refine w_pure (want_yes rfl rfl rfl) (y_move (v := .int _ _) rfl rfl) rfl ?_
  refine w_pure (want_yes rfl rfl rfl) (y_eql rfl rfl rfl rfl) rfl ?_
  refine w_pure want_none (y_pickT (v := .bool _) rfl rfl rfl rfl) rfl ?_
  refine w_pure want_none (y_move (v := .bool _) rfl rfl) rfl ?_
  refine w_pure (want_yes rfl rfl rfl) (y_move (v := .int _ _) rfl rfl) rfl ?_
  refine w_pure (want_yes rfl rfl rfl) (y_eql rfl rfl rfl rfl) rfl ?_
  refine w_pure want_none (y_pickT (v := .bool _) rfl rfl rfl rfl) rfl ?_
  refine w_pure want_none (y_move (v := .bool _) rfl rfl) rfl ?_
  refine w_pure (want_yes rfl rfl rfl) (y_move (v := .int _ _) rfl rfl) rfl ?_
  refine w_pure (want_yes rfl rfl rfl) (y_eql rfl rfl rfl rfl) rfl ?_
  refine w_pure want_none (y_pickT (v := .bool _) rfl rfl rfl rfl) rfl ?_
  refine w_pure want_none (y_move (v := .bool _) rfl rfl) rfl ?_
  refine w_pure (want_yes rfl rfl rfl) (y_move (v := .int _ _) rfl rfl) rfl ?_
  refine w_pure (want_yes rfl rfl rfl) (y_eql rfl rfl rfl rfl) rfl ?_
  refine w_pure want_none (y_pickT (v := .bool _) rfl rfl rfl rfl) rfl ?_
  refine w_pure want_none (y_move (v := .bool _) rfl rfl) rfl ?_
  refine w_pure (want_yes rfl rfl rfl) (y_move (v := .int _ _) rfl rfl) rfl ?_
  refine w_pure (want_yes rfl rfl rfl) (y_eql rfl rfl rfl rfl) rfl ?_
  refine w_pure want_none (y_pickT (v := .bool _) rfl rfl rfl rfl) rfl ?_
  refine w_pure want_none (y_move (v := .bool _) rfl rfl) rfl ?_
  refine w_pure (want_yes rfl rfl rfl) (y_move (v := .int _ _) rfl rfl) rfl ?_
  refine w_pure (want_yes rfl rfl rfl) (y_eql rfl rfl rfl rfl) rfl ?_
  refine w_pure want_none (y_pickT (v := .bool _) rfl rfl rfl rfl) rfl ?_
  refine w_pure want_none (y_move (v := .bool _) rfl rfl) rfl ?_
  refine w_pure (want_yes rfl rfl rfl) (y_move (v := .slice _ _ _) rfl rfl) rfl ?_
  refine w_bslice (ps := [(0, _), (1, _), (2, _), (3, _)]) (pv := [(0, .int _ _), (1, .int _ _), (2, .int _ _), (3, .int _ _)]) (cs := [_, _, _, _]) (want_yes rfl rfl rfl) rfl rfl (fun w => Try_P_fb17 _ _ _ _ w) hs96 (fun b99 w100 hs101 => ?_)
  refine w_call (want_yes rfl rfl rfl) Try.call20 rfl rfl rfl rfl (con_true (c20 _ _ [0, 1, 2, 3] [0, 1, 2, 3] _ _ (by decide) hq1.top.cons.cons.cons.cons.cons.cons.cons.app.cons.app.app.app.cons.cons (sl_own (i := 0) (rows := [[_], [_], [_], [_]]) rfl (by simp) rfl) hs101) (by decide)) ?_
  rintro _ w103 ⟨rfl, hs104⟩
  refine w_pure want_none (y_pickT (v := .bool _) rfl rfl rfl rfl) rfl ?_
  refine w_pure want_none (y_move (v := .bool _) rfl rfl) rfl ?_
  refine w_pure (want_yes rfl rfl rfl) (y_move (v := .int _ _) rfl rfl) rfl ?_
  refine w_pure (want_yes rfl rfl rfl) (y_eql rfl rfl rfl rfl) rfl ?_
  refine w_pure want_none (y_pickT (v := .bool _) rfl rfl rfl rfl) rfl ?_
  refine w_pure want_none (y_move (v := .bool _) rfl rfl) rfl ?_
  refine w_pure (want_yes rfl rfl rfl) (y_move (v := .int _ _) rfl rfl) rfl ?_
  refine w_pure (want_yes rfl rfl rfl) (y_eql rfl rfl rfl rfl) rfl ?_
  refine w_pure want_none (y_pickT (v := .bool _) rfl rfl rfl rfl) rfl ?_
  refine w_pure want_none (y_move (v := .bool _) rfl rfl) rfl ?_
  refine w_pure (want_yes rfl rfl rfl) (y_move (v := .int _ _) rfl rfl) rfl ?_
  refine w_pure (want_yes rfl rfl rfl) (y_eql rfl rfl rfl rfl) rfl ?_
  refine w_pure want_none (y_pickT (v := .bool _) rfl rfl rfl rfl) rfl ?_
  refine w_pure want_none (y_move (v := .bool _) rfl rfl) rfl ?_
  refine w_pure (want_yes rfl rfl rfl) (y_move (v := .slice _ _ _) rfl rfl) rfl ?_
  refine w_bslice (ps := [(0, _), (1, _), (2, _)]) (pv := [(0, .int _ _), (1, .int _ _), (2, .int _ _)]) (cs := [_, _, _]) (want_yes rfl rfl rfl) rfl rfl (fun w => Try_P_fb14 _ _ _ w) hs104 (fun b105 w106 hs107 => ?_)
  refine w_call (want_yes rfl rfl rfl) Try.call20 rfl rfl rfl rfl (con_true (c20 _ _ [0, 1, 2] [0, 1, 2] _ _ (by decide) hq2.top.cons.app.app.app.cons.cons.cons (sl_own (i := 0) (rows := [[_], [_], [_]]) rfl (by simp) rfl) hs107) (by decide)) ?_
  rintro _ w109 ⟨rfl, hs110⟩
  refine w_pure want_none (y_pickT (v := .bool _) rfl rfl rfl rfl) rfl ?_
  refine w_pure want_none (y_move (v := .bool _) rfl rfl) rfl ?_
  refine w_pure (want_yes rfl rfl rfl) (y_move (v := .int _ _) rfl rfl) rfl ?_
  refine w_pure (want_yes rfl rfl rfl) (y_eql rfl rfl rfl rfl) rfl ?_
  refine w_pure want_none (y_pickT (v := .bool _) rfl rfl rfl rfl) rfl ?_
  refine w_pure want_none (y_move (v := .bool _) rfl rfl) rfl ?_
  refine w_pure (want_yes rfl rfl rfl) (y_move (v := .slice _ _ _) rfl rfl) rfl ?_
  refine w_bslice (ps := [(0, _)]) (pv := [(0, .int _ _)]) (cs := [_]) (want_yes rfl rfl rfl) rfl rfl (fun w => Try_P_fb16 _ w) hs110 (fun b111 w112 hs113 => ?_)
  refine w_call (want_yes rfl rfl rfl) Try.call20 rfl rfl rfl rfl (con_true (c20 _ _ [0] [0] _ _ (by decide) hq4.top.app.cons.cons.cons.cons (sl_own (i := 0) (rows := [[_]]) rfl (by simp) rfl) hs113) (by decide)) ?_
  rintro _ w115 ⟨rfl, hs116⟩
  refine w_pure want_none (y_pickT (v := .bool _) rfl rfl rfl rfl) rfl ?_
  refine w_pure want_none (y_move (v := .bool _) rfl rfl) rfl ?_
  refine w_pure (want_yes rfl rfl rfl) (y_move (v := .slice _ _ _) rfl rfl) rfl ?_
  refine w_bslice (ps := [(0, _), (1, _), (2, _), (3, _), (4, _)]) (pv := [(0, .int _ _), (1, .int _ _), (2, .int _ _), (3, .int _ _), (4, .int _ _)]) (cs := [_, _, _, _, _]) (want_yes rfl rfl rfl) rfl rfl (fun w => Try_P_fb18 _ _ _ _ _ w) hs116 (fun b117 w118 hs119 => ?_)
  refine w_call (want_yes rfl rfl rfl) Try.call20 rfl rfl rfl rfl (con_true (c20 _ _ [0, 8, 2, 8, 0] [0, 8, 2, 8, 0] _ _ (by decide) hq5.top.cons.cons.cons.cons.cons (sl_own (i := 0) (rows := [[_], [_], [_], [_], [_]]) rfl (by simp) rfl) hs119) (by decide)) ?_
  rintro _ w121 ⟨rfl, hs122⟩
  refine w_pure want_none (y_pickT (v := .bool _) rfl rfl rfl rfl) rfl ?_
  refine w_pure want_none (y_move (v := .bool _) rfl rfl) rfl ?_
  refine w_pure (want_yes rfl rfl rfl) (y_move (v := .int _ _) rfl rfl) rfl ?_
  refine w_pure (want_yes rfl rfl rfl) (y_eql rfl rfl rfl rfl) rfl ?_
  refine w_pure want_none (y_pickT (v := .bool _) rfl rfl rfl rfl) rfl ?_
  refine w_pure want_none (y_move (v := .bool _) rfl rfl) rfl ?_
  refine w_pure (want_yes rfl rfl rfl) (y_move (v := .int _ _) rfl rfl) rfl ?_
  refine w_pure (want_yes rfl rfl rfl) (y_eql rfl rfl rfl rfl) rfl ?_
  refine w_pure want_none (y_pickT (v := .bool _) rfl rfl rfl rfl) rfl ?_
  refine w_pure want_none (y_assign (v := .bool _) rfl rfl) rfl ?_
  refine w_nil ?_
  refine q_then (hK97 _ _ ?_)
  refine w_ret ?_
  refine q_ret (l := [.tmp 0]) (vs := [_]) rfl ⟨⟨rfl, show _ = (.bool _ : Value) from rfl⟩, trivial⟩ ?_
  exact ⟨rfl, (St.cast hZ hs122.tail.tail.tail.tail.tail.drop.drop.drop.tail.drop.tail.tail.tail.tail.tail.tail.tail.drop).tail.tail.tail.tail.tail.tail.tail.tail⟩

end Go.Proofs
