/- Own texts of this claim, joined. No conditions. -/
import GoSem.Core.Value
import Derived.Test.YtbnnmjfjibneaaaHShopOrdera
import Derived.Test.YtbnnmjfjibneaaaHShopOrderb
import Derived.Test.YtbnnmjfjibneaaaHShopOrderc
import Derived.Test.YtbnnmjfjibneaaaHShopOrderd
import Derived.Test.YtbnnmjfjibneaaaHShopOrdere
/- Walks of this seat, printed by gen.py over the engine: what each function returns, in whatever world. No conditions but those of each contract. -/
set_option linter.unusedVariables false
set_option linter.unusedSimpArgs false
set_option maxRecDepth 20000
namespace Go.Proofs
open Go.Rt Go.Rt.Sh
attribute [local irreducible] WL WC Con Yd At Ats Sl Agree DW
theorem Try_P_fb4 (x0 : Int) (x1 : Int) (w : World) : (Instr.build 67 [(0, .int .i64 x0), (1, .int .i64 x1)].toArray).run Try.prog w = .ok (.agg #[.int .i64 x0, .int .i64 x1]) w := by kernel_rfl
theorem Try_P_fb5 (x0 : ByteArray) (x1 : Int) (x2 : Int) (x3 : Int) (x4 : Int) (w : World) : (Instr.build 69 [(0, .string x0), (1, .agg #[.int .i64 x1, .int .i64 x2]), (2, .int .i64 x3), (3, .int .i64 x4)].toArray).run Try.prog w = .ok (.agg #[.string x0, .int .i64 x1, .int .i64 x2, .int .i64 x3, .int .i64 x4]) w := by kernel_rfl
theorem Try_P_fb6 (x0 : ByteArray) (x1 : Int) (x2 : Int) (x3 : Int) (x4 : Int) (x5 : ByteArray) (x6 : Int) (x7 : Int) (x8 : Int) (x9 : Int) (w : World) : (Instr.buildSlice 22 2 [(0, .agg #[.string x0, .int .i64 x1, .int .i64 x2, .int .i64 x3, .int .i64 x4]), (1, .agg #[.string x5, .int .i64 x6, .int .i64 x7, .int .i64 x8, .int .i64 x9])].toArray).run Try.prog w = .ok (.slice (some ⟨w.heap.size, 0, none⟩) 2 2) (w.alloc (Go.Rt.blk 69 [.string x0, .int .i64 x1, .int .i64 x2, .int .i64 x3, .int .i64 x4, .string x5, .int .i64 x6, .int .i64 x7, .int .i64 x8, .int .i64 x9])) := by kernel_rfl
theorem Try_P_fb7 (x0 : ByteArray) (x1 : Int) (x2 : Int) (w : World) : (Instr.build 52 [(0, .string x0), (1, .int .i64 x1), (2, .int .i64 x2)].toArray).run Try.prog w = .ok (.agg #[.string x0, .int .i64 x1, .int .i64 x2]) w := by kernel_rfl
theorem Try_P_fb8 (x0 : ByteArray) (x1 : Int) (x2 : Int) (x3 : ByteArray) (x4 : Int) (x5 : Int) (x6 : ByteArray) (x7 : Int) (x8 : Int) (w : World) : (Instr.buildSlice 23 3 [(0, .agg #[.string x0, .int .i64 x1, .int .i64 x2]), (1, .agg #[.string x3, .int .i64 x4, .int .i64 x5]), (2, .agg #[.string x6, .int .i64 x7, .int .i64 x8])].toArray).run Try.prog w = .ok (.slice (some ⟨w.heap.size, 0, none⟩) 3 3) (w.alloc (Go.Rt.blk 52 [.string x0, .int .i64 x1, .int .i64 x2, .string x3, .int .i64 x4, .int .i64 x5, .string x6, .int .i64 x7, .int .i64 x8])) := by kernel_rfl
theorem Try_P_fb9 (x0 : Int) (x1 : Int) (w : World) : (Instr.build 63 [(2, .int .i64 x0), (3, .int .i64 x1)].toArray).run Try.prog w = .ok (.agg #[.int .i64 0, .int .i64 0, .int .i64 x0, .int .i64 x1]) w := by kernel_rfl
theorem Try_P_fb10 (x0 : Int) (x1 : Int) (x2 : Int) (w : World) : (Instr.build 63 [(1, .int .i64 x0), (2, .int .i64 x1), (3, .int .i64 x2)].toArray).run Try.prog w = .ok (.agg #[.int .i64 0, .int .i64 x0, .int .i64 x1, .int .i64 x2]) w := by kernel_rfl
theorem Try_P_fb11 (x0 : Int) (x1 : Int) (x2 : Int) (x3 : Int) (w : World) : (Instr.build 63 [(0, .int .i64 x0), (1, .int .i64 x1), (2, .int .i64 x2), (3, .int .i64 x3)].toArray).run Try.prog w = .ok (.agg #[.int .i64 x0, .int .i64 x1, .int .i64 x2, .int .i64 x3]) w := by kernel_rfl
theorem Try_P_fb12 (x0 : Int) (x1 : Int) (x2 : Int) (x3 : Int) (x4 : Int) (x5 : Int) (x6 : Int) (x7 : Int) (x8 : Int) (x9 : Int) (x10 : Int) (x11 : Int) (x12 : Int) (x13 : Int) (x14 : Int) (x15 : Int) (x16 : Int) (x17 : Int) (x18 : Int) (x19 : Int) (w : World) : (Instr.buildSlice 24 5 [(0, .agg #[.int .i64 x0, .int .i64 x1, .int .i64 x2, .int .i64 x3]), (1, .agg #[.int .i64 x4, .int .i64 x5, .int .i64 x6, .int .i64 x7]), (2, .agg #[.int .i64 x8, .int .i64 x9, .int .i64 x10, .int .i64 x11]), (3, .agg #[.int .i64 x12, .int .i64 x13, .int .i64 x14, .int .i64 x15]), (4, .agg #[.int .i64 x16, .int .i64 x17, .int .i64 x18, .int .i64 x19])].toArray).run Try.prog w = .ok (.slice (some ⟨w.heap.size, 0, none⟩) 5 5) (w.alloc (Go.Rt.blk 63 [.int .i64 x0, .int .i64 x1, .int .i64 x2, .int .i64 x3, .int .i64 x4, .int .i64 x5, .int .i64 x6, .int .i64 x7, .int .i64 x8, .int .i64 x9, .int .i64 x10, .int .i64 x11, .int .i64 x12, .int .i64 x13, .int .i64 x14, .int .i64 x15, .int .i64 x16, .int .i64 x17, .int .i64 x18, .int .i64 x19])) := by kernel_rfl
theorem Try_P_fb13 (x0 : Option Addr) (l0 c0 : Nat) (x1 : Option Addr) (l1 c1 : Nat) (x2 : Option Addr) (l2 c2 : Nat) (w : World) : (Instr.build 26 [(0, .slice x0 l0 c0), (1, .slice x1 l1 c1), (2, .slice x2 l2 c2)].toArray).run Try.prog w = .ok (.agg #[.slice x0 l0 c0, .slice x1 l1 c1, .slice x2 l2 c2]) w := by kernel_rfl
theorem Try_P_fb14 (x0 : Int) (x1 : Int) (x2 : Int) (w : World) : (Instr.buildSlice 30 3 [(0, .int .i64 x0), (1, .int .i64 x1), (2, .int .i64 x2)].toArray).run Try.prog w = .ok (.slice (some ⟨w.heap.size, 0, none⟩) 3 3) (w.alloc (Go.Rt.blk 3 [.int .i64 x0, .int .i64 x1, .int .i64 x2])) := by kernel_rfl
theorem Try_P_fb15 (x0 : Int) (x1 : Int) (w : World) : (Instr.buildSlice 30 2 [(0, .int .i64 x0), (1, .int .i64 x1)].toArray).run Try.prog w = .ok (.slice (some ⟨w.heap.size, 0, none⟩) 2 2) (w.alloc (Go.Rt.blk 3 [.int .i64 x0, .int .i64 x1])) := by kernel_rfl
theorem Try_P_fb16 (x0 : Int) (w : World) : (Instr.buildSlice 30 1 [(0, .int .i64 x0)].toArray).run Try.prog w = .ok (.slice (some ⟨w.heap.size, 0, none⟩) 1 1) (w.alloc (Go.Rt.blk 3 [.int .i64 x0])) := by kernel_rfl
theorem Try_P_fb17 (x0 : Int) (x1 : Int) (x2 : Int) (x3 : Int) (w : World) : (Instr.buildSlice 30 4 [(0, .int .i64 x0), (1, .int .i64 x1), (2, .int .i64 x2), (3, .int .i64 x3)].toArray).run Try.prog w = .ok (.slice (some ⟨w.heap.size, 0, none⟩) 4 4) (w.alloc (Go.Rt.blk 3 [.int .i64 x0, .int .i64 x1, .int .i64 x2, .int .i64 x3])) := by kernel_rfl
theorem Try_P_fb18 (x0 : Int) (x1 : Int) (x2 : Int) (x3 : Int) (x4 : Int) (w : World) : (Instr.buildSlice 30 5 [(0, .int .i64 x0), (1, .int .i64 x1), (2, .int .i64 x2), (3, .int .i64 x3), (4, .int .i64 x4)].toArray).run Try.prog w = .ok (.slice (some ⟨w.heap.size, 0, none⟩) 5 5) (w.alloc (Go.Rt.blk 3 [.int .i64 x0, .int .i64 x1, .int .i64 x2, .int .i64 x3, .int .i64 x4])) := by kernel_rfl
theorem gen_Z {w0 w : World} {L : List (Nat × Obj)} (hs : St w0 w L) : ∃ Z, Z = L ∧ St w0 w Z := ⟨L, rfl, hs⟩
theorem con_true {k : FuncId} {args : List Value} {w : World} {x : Bool} {S : World → Prop} (h : Con Try.prog k args w fun v w' => v = .bool x ∧ S w') (hx : x = true) : Con Try.prog k args w fun v w' => v = .bool true ∧ S w' := by subst hx; exact h
theorem drop_4th {w0 w : World} {F : List (Nat × Obj)} {a b c d : Nat × Obj} (h : St w0 w (a :: b :: c :: d :: F)) : St w0 w (a :: b :: c :: F) := (h.perm (perm_mid [a, b, c] [d] F)).tail
theorem ex_min {w0 : World} {L : List (Nat × Obj)} {i1 i2 i3 bt bs br : Nat} {x y : Int} (ht : L[i1]? = some (bt, blk 63 (trows (exM x y).trains).flatten)) (hs : L[i2]? = some (bs, blk 52 (srows (exM x y).shops).flatten)) (hr : L[i3]? = some (br, blk 69 (rrows (exM x y).rooms).flatten)) : MIn w0 L (exM x y) ⟨some ⟨br, 0, none⟩, 2, some ⟨bs, 0, none⟩, 3, some ⟨bt, 0, none⟩, 5⟩ where
  r := sl_own hr (by intro row h; obtain ⟨q, _, rfl⟩ := List.mem_map.1 h; rfl) rfl
  s := sl_own hs (by intro row h; obtain ⟨q, _, rfl⟩ := List.mem_map.1 h; rfl) rfl
  t := sl_own ht (by intro row h; obtain ⟨q, _, rfl⟩ := List.mem_map.1 h; rfl) rfl
  lr := by simp [exM]
  ls := by simp [exM]
  lt := by simp [exM]
  cr := by simp [exM]
  cs := by simp [exM]
  ct := by simp [exM]
  nr := by intro q hq; simp only [exM, List.mem_cons, List.not_mem_nil, or_false] at hq; rcases hq with rfl | rfl <;> (dsimp only; decide)
  ns := by intro q hq; simp only [exM, List.mem_cons, List.not_mem_nil, or_false] at hq; rcases hq with rfl | rfl | rfl <;> (dsimp only; decide)
theorem c78 {w0 w : World} {F : List (Nat × Obj)} (x y : Int) (hs : St w0 w F) :
  Con Try.prog 78 [.int .i64 x, .int .i64 y] w fun v w' => v = .agg #[.int .i64 x, .int .i64 y] ∧ St w0 w' F := by
  refine con_of_wc (n := 8) Try.func78 rfl rfl (Nat.le_of_ble_eq_true rfl) ?_
  refine w_seq (fun K2 hK1 => ?_)
  refine w_region ?_
  refine w_alloc (cs := [_, _]) want_none Try.zeroValue67 rfl hs (fun b3 w4 hs5 => ?_)
  refine w_nil ?_
  refine q_then (hK1 _ _ ?_)
  refine w_seq (fun K7 hK6 => ?_)
  refine w_region ?_
  refine w_pure want_none (y_move (v := .int _ _) rfl rfl) rfl ?_
  refine w_pure want_none (y_move (v := .int _ _) rfl rfl) rfl ?_
  refine w_pure want_none (y_build (ps := [(0, _), (1, _)]) (pv := [(0, .int _ _), (1, .int _ _)]) rfl rfl (fun w => Try_P_fb4 _ _ w)) rfl ?_
  refine w_store (i := 0) (v := .agg #[.int _ _, .int _ _]) (vs := [_, _]) want_none Try.sizeOf67 rfl rfl rfl rfl rfl (by simp [Value.oneCell']) hs5 rfl (Nat.le_of_ble_eq_true rfl) (fun w8 hs9 => ?_)
  refine w_nil ?_
  refine q_then (hK6 _ _ ?_)
  refine w_ret ?_
  refine q_ret (l := [.cell 4 67]) (vs := [_]) rfl ⟨⟨rfl, _, rfl, run_loadVarN (vs := [_, _]) Try.isAgg67 Try.sizeOf67 hs9 (ats_own (i := 0) (vs := [_, _]) rfl rfl)⟩, trivial⟩ ?_
  exact ⟨rfl, hs9.tail⟩

theorem c34 {w0 w : World} {F : List (Nat × Obj)} (x y : Int) (hs : St w0 w F) :
  Con Try.prog 34 [.int .i64 x, .int .i64 y] w fun v w' => ∃ bt bs br, v = .agg #[.slice (some ⟨br, 0, none⟩) 2 2, .slice (some ⟨bs, 0, none⟩) 3 3, .slice (some ⟨bt, 0, none⟩) 5 5] ∧ St w0 w' ((bt, blk 63 (trows (exM x y).trains).flatten) :: (bs, blk 52 (srows (exM x y).shops).flatten) :: (br, blk 69 (rrows (exM x y).rooms).flatten) :: F) := by
  refine con_of_wc (n := 23) Try.func34 rfl rfl (Nat.le_of_ble_eq_true rfl) ?_
  refine w_seq (fun K2 hK1 => ?_)
  refine w_region ?_
  refine w_alloc (cs := [_, _, _]) want_none Try.zeroValue26 rfl hs (fun b3 w4 hs5 => ?_)
  refine w_nil ?_
  refine q_then (hK1 _ _ ?_)
  refine w_seq (fun K7 hK6 => ?_)
  refine w_region ?_
  refine w_call want_none Try.call78 rfl rfl rfl rfl (c78 _ _ hs5) ?_
  rintro _ w9 ⟨rfl, hs10⟩
  refine w_pure want_none (y_move (v := .int _ _) rfl rfl) rfl ?_
  refine w_pure want_none (y_build (ps := [(0, _), (1, _), (2, _), (3, _)]) (pv := [(0, .string _), (1, .agg #[.int _ _, .int _ _]), (2, .int _ _), (3, .int _ _)]) rfl rfl (fun w => Try_P_fb5 _ _ _ _ _ w)) rfl ?_
  refine w_call want_none Try.call78 rfl rfl rfl rfl (c78 _ _ hs10) ?_
  rintro _ w12 ⟨rfl, hs13⟩
  refine w_pure want_none (y_build (ps := [(0, _), (1, _), (2, _), (3, _)]) (pv := [(0, .string _), (1, .agg #[.int _ _, .int _ _]), (2, .int _ _), (3, .int _ _)]) rfl rfl (fun w => Try_P_fb5 _ _ _ _ _ w)) rfl ?_
  refine w_bslice (ps := [(0, _), (1, _)]) (pv := [(0, .agg #[.string _, .int _ _, .int _ _, .int _ _, .int _ _]), (1, .agg #[.string _, .int _ _, .int _ _, .int _ _, .int _ _])]) (cs := [_, _, _, _, _, _, _, _, _, _]) want_none rfl rfl (fun w => Try_P_fb6 _ _ _ _ _ _ _ _ _ _ w) hs13 (fun b14 w15 hs16 => ?_)
  refine w_pure want_none (y_build (ps := [(0, _), (1, _), (2, _)]) (pv := [(0, .string _), (1, .int _ _), (2, .int _ _)]) rfl rfl (fun w => Try_P_fb7 _ _ _ w)) rfl ?_
  refine w_pure want_none (y_move (v := .int _ _) rfl rfl) rfl ?_
  refine w_pure want_none (y_build (ps := [(0, _), (1, _), (2, _)]) (pv := [(0, .string _), (1, .int _ _), (2, .int _ _)]) rfl rfl (fun w => Try_P_fb7 _ _ _ w)) rfl ?_
  refine w_pure want_none (y_build (ps := [(0, _), (1, _), (2, _)]) (pv := [(0, .string _), (1, .int _ _), (2, .int _ _)]) rfl rfl (fun w => Try_P_fb7 _ _ _ w)) rfl ?_
  refine w_bslice (ps := [(0, _), (1, _), (2, _)]) (pv := [(0, .agg #[.string _, .int _ _, .int _ _]), (1, .agg #[.string _, .int _ _, .int _ _]), (2, .agg #[.string _, .int _ _, .int _ _])]) (cs := [_, _, _, _, _, _, _, _, _]) want_none rfl rfl (fun w => Try_P_fb8 _ _ _ _ _ _ _ _ _ w) hs16 (fun b17 w18 hs19 => ?_)
  refine w_pure want_none (y_build (ps := [(2, _), (3, _)]) (pv := [(2, .int _ _), (3, .int _ _)]) rfl rfl (fun w => Try_P_fb9 _ _ w)) rfl ?_
  refine w_pure want_none (y_build (ps := [(1, _), (2, _), (3, _)]) (pv := [(1, .int _ _), (2, .int _ _), (3, .int _ _)]) rfl rfl (fun w => Try_P_fb10 _ _ _ w)) rfl ?_
  refine w_pure want_none (y_build (ps := [(0, _), (1, _), (2, _), (3, _)]) (pv := [(0, .int _ _), (1, .int _ _), (2, .int _ _), (3, .int _ _)]) rfl rfl (fun w => Try_P_fb11 _ _ _ _ w)) rfl ?_
  refine w_pure want_none (y_build (ps := [(0, _), (1, _), (2, _), (3, _)]) (pv := [(0, .int _ _), (1, .int _ _), (2, .int _ _), (3, .int _ _)]) rfl rfl (fun w => Try_P_fb11 _ _ _ _ w)) rfl ?_
  refine w_pure want_none (y_build (ps := [(1, _), (2, _), (3, _)]) (pv := [(1, .int _ _), (2, .int _ _), (3, .int _ _)]) rfl rfl (fun w => Try_P_fb10 _ _ _ w)) rfl ?_
  refine w_bslice (ps := [(0, _), (1, _), (2, _), (3, _), (4, _)]) (pv := [(0, .agg #[.int _ _, .int _ _, .int _ _, .int _ _]), (1, .agg #[.int _ _, .int _ _, .int _ _, .int _ _]), (2, .agg #[.int _ _, .int _ _, .int _ _, .int _ _]), (3, .agg #[.int _ _, .int _ _, .int _ _, .int _ _]), (4, .agg #[.int _ _, .int _ _, .int _ _, .int _ _])]) (cs := [_, _, _, _, _, _, _, _, _, _, _, _, _, _, _, _, _, _, _, _]) want_none rfl rfl (fun w => Try_P_fb12 _ _ _ _ _ _ _ _ _ _ _ _ _ _ _ _ _ _ _ _ w) hs19 (fun b20 w21 hs22 => ?_)
  refine w_pure want_none (y_build (ps := [(0, _), (1, _), (2, _)]) (pv := [(0, .slice _ _ _), (1, .slice _ _ _), (2, .slice _ _ _)]) rfl rfl (fun w => Try_P_fb13 _ _ _ _ _ _ _ _ _ w)) rfl ?_
  refine w_store (i := 3) (v := .agg #[.slice _ _ _, .slice _ _ _, .slice _ _ _]) (vs := [_, _, _]) want_none Try.sizeOf26 rfl rfl rfl rfl rfl (by simp [Value.oneCell']) hs22 rfl (Nat.le_of_ble_eq_true rfl) (fun w23 hs24 => ?_)
  refine w_nil ?_
  refine q_then (hK6 _ _ ?_)
  refine w_ret ?_
  refine q_ret (l := [.cell 4 26]) (vs := [_]) rfl ⟨⟨rfl, _, rfl, run_loadVarN (vs := [_, _, _]) Try.isAgg26 Try.sizeOf26 hs24 (ats_own (i := 3) (vs := [_, _, _]) rfl rfl)⟩, trivial⟩ ?_
  exact ⟨_, _, _, rfl, drop_4th hs24⟩

theorem c21 {w0 w : World} {F : List (Nat × Obj)}  (hs : St w0 w F) :
  Con Try.prog 21 [] w fun v w' => v = .bool true ∧ St w0 w' F := by
  refine con_of_wc (n := 178) Try.func21 rfl rfl (Nat.le_of_ble_eq_true rfl) ?_
  refine w_seq (fun K2 hK1 => ?_)
  refine w_region ?_
  refine w_pure want_none (y_assign (v := _) rfl rfl) rfl ?_
  refine w_nil ?_
  refine q_then (hK1 _ _ ?_)
  refine w_seq (fun K4 hK3 => ?_)
  refine w_region ?_
  refine w_call want_none Try.call34 rfl rfl rfl rfl (c34 2 10 hs) ?_
  rintro _ w6 ⟨t1, s1, r1, rfl, hs7⟩
  refine w_call want_none Try.call34 rfl rfl rfl rfl (c34 3 10 hs7) ?_
  rintro _ w9 ⟨t2, s2, r2, rfl, hs10⟩
  refine w_alloc (cs := [_, _, _]) want_none Try.zeroValue26 rfl hs10 (fun b11 w12 hs13 => ?_)
  refine w_alloc (cs := [_, _, _]) want_none Try.zeroValue26 rfl hs13 (fun b14 w15 hs16 => ?_)
  refine w_store (i := 1) (v := .agg #[.slice _ _ _, .slice _ _ _, .slice _ _ _]) (vs := [_, _, _]) want_none Try.sizeOf26 rfl rfl rfl rfl rfl (by simp [Value.oneCell']) hs16 rfl (Nat.le_of_ble_eq_true rfl) (fun w17 hs18 => ?_)
  refine w_store (i := 0) (v := .agg #[.slice _ _ _, .slice _ _ _, .slice _ _ _]) (vs := [_, _, _]) want_none Try.sizeOf26 rfl rfl rfl rfl rfl (by simp [Value.oneCell']) hs18 rfl (Nat.le_of_ble_eq_true rfl) (fun w19 hs20 => ?_)
  refine w_nil ?_
  refine q_then (hK3 _ _ ?_)
  refine w_seq (fun K22 hK21 => ?_)
  obtain ⟨Z, hZ, hsZ⟩ := gen_Z hs20
  have hP1 : Ats w0 Z b11 0 ((exM 2 10).cells ⟨some ⟨r1, 0, none⟩, 2, some ⟨s1, 0, none⟩, 3, some ⟨t1, 0, none⟩, 5⟩) := by rw [hZ]; exact ats_own (i := 1) (vs := [_, _, _]) rfl rfl
  have hM1 : MIn w0 Z (exM 2 10) ⟨some ⟨r1, 0, none⟩, 2, some ⟨s1, 0, none⟩, 3, some ⟨t1, 0, none⟩, 5⟩ := by rw [hZ]; exact ex_min (i1 := 5) (i2 := 6) (i3 := 7) rfl rfl rfl
  have hP2 : Ats w0 Z b14 0 ((exM 3 10).cells ⟨some ⟨r2, 0, none⟩, 2, some ⟨s2, 0, none⟩, 3, some ⟨t2, 0, none⟩, 5⟩) := by rw [hZ]; exact ats_own (i := 0) (vs := [_, _, _]) rfl rfl
  have hM2 : MIn w0 Z (exM 3 10) ⟨some ⟨r2, 0, none⟩, 2, some ⟨s2, 0, none⟩, 3, some ⟨t2, 0, none⟩, 5⟩ := by rw [hZ]; exact ex_min (i1 := 2) (i2 := 3) (i3 := 4) rfl rfl rfl
  refine w_region ?_
  refine w_pure want_none (y_loadN (vs := [_, _, _]) Try.isAgg26 Try.sizeOf26 hsZ rfl rfl hP1) rfl ?_
  refine w_call want_none Try.call18 rfl rfl rfl rfl ((c18 (exM 2 10) ⟨some ⟨r1, 0, none⟩, 2, some ⟨s1, 0, none⟩, 3, some ⟨t1, 0, none⟩, 5⟩ hM1 hsZ).mono (fun v w' h => by rw [ex_goes] at h; exact h)) ?_
  rintro _ w24 ⟨B1, a1, c1, rfl, hq1, hs25⟩
  replace hs25 := (show St _ _ (B1 ++ (Z)) from hs25)
  refine w_pure want_none (y_move (v := .tuple _) rfl rfl) rfl ?_
  refine w_pure want_none (y_extract (v := .slice _ _ _) rfl rfl rfl) rfl ?_
  refine w_pure want_none (y_extract (v := .int _ _) rfl rfl rfl) rfl ?_
  refine w_pure want_none (y_assign (v := .slice _ _ _) rfl rfl) rfl ?_
  refine w_pure want_none (y_assign (v := .int _ _) rfl rfl) rfl ?_
  refine w_nil ?_
  refine q_then (hK21 _ _ ?_)
  refine w_seq (fun K27 hK26 => ?_)
  refine w_region ?_
  refine w_pure want_none (y_loadN (vs := [_, _, _]) Try.isAgg26 Try.sizeOf26 hs25.drop rfl rfl hP1) rfl ?_
  refine w_bslice (ps := [(0, _), (1, _), (2, _)]) (pv := [(0, .int _ _), (1, .int _ _), (2, .int _ _)]) (cs := [_, _, _]) want_none rfl rfl (fun w => Try_P_fb14 _ _ _ w) hs25 (fun b28 w29 hs30 => ?_)
  refine w_call want_none Try.call22 rfl rfl rfl rfl ((c22 (exM 2 10) ⟨some ⟨r1, 0, none⟩, 2, some ⟨s1, 0, none⟩, 3, some ⟨t1, 0, none⟩, 5⟩ hM1.app.cons (some ⟨b28, 0, none⟩) 3 [0, 1, 2] (by decide) (sl_own (i := 0) (rows := [[_], [_], [_]]) rfl (by simp) rfl) hs30).mono (fun v w' h => by rw [ex_can1] at h; exact h)) ?_
  rintro _ w32 ⟨rfl, hs33⟩
  refine w_pure want_none (y_move (v := .tuple _) rfl rfl) rfl ?_
  refine w_pure want_none (y_extract (v := .int _ _) rfl rfl rfl) rfl ?_
  refine w_pure want_none (y_extract (v := .int _ _) rfl rfl rfl) rfl ?_
  refine w_pure want_none (y_assign (v := .int _ _) rfl rfl) rfl ?_
  refine w_pure want_none (y_assign (v := .int _ _) rfl rfl) rfl ?_
  refine w_nil ?_
  refine q_then (hK26 _ _ ?_)
  refine w_seq (fun K35 hK34 => ?_)
  refine w_region ?_
  refine w_pure want_none (y_loadN (vs := [_, _, _]) Try.isAgg26 Try.sizeOf26 hs33.tail.drop rfl rfl hP1) rfl ?_
  refine w_bslice (ps := [(0, _), (1, _)]) (pv := [(0, .int _ _), (1, .int _ _)]) (cs := [_, _]) want_none rfl rfl (fun w => Try_P_fb15 _ _ w) hs33 (fun b36 w37 hs38 => ?_)
  refine w_call want_none Try.call22 rfl rfl rfl rfl ((c22 (exM 2 10) ⟨some ⟨r1, 0, none⟩, 2, some ⟨s1, 0, none⟩, 3, some ⟨t1, 0, none⟩, 5⟩ hM1.app.cons.cons (some ⟨b36, 0, none⟩) 2 [1, 2] (by decide) (sl_own (i := 0) (rows := [[_], [_]]) rfl (by simp) rfl) hs38).mono (fun v w' h => by rw [ex_can2] at h; exact h)) ?_
  rintro _ w40 ⟨rfl, hs41⟩
  refine w_pure want_none (y_move (v := .tuple _) rfl rfl) rfl ?_
  refine w_pure want_none (y_extract (v := .int _ _) rfl rfl rfl) rfl ?_
  refine w_pure want_none (y_extract (v := .int _ _) rfl rfl rfl) rfl ?_
  refine w_pure want_none (y_assign (v := .int _ _) rfl rfl) rfl ?_
  refine w_pure want_none (y_assign (v := .int _ _) rfl rfl) rfl ?_
  refine w_nil ?_
  refine q_then (hK34 _ _ ?_)
  refine w_seq (fun K43 hK42 => ?_)
  refine w_region ?_
  refine w_call want_none Try.call34 rfl rfl rfl rfl (c34 3 15 hs41) ?_
  rintro _ w45 ⟨t3, s3, r3, rfl, hs46⟩
  refine w_bslice (ps := [(0, _)]) (pv := [(0, .int _ _)]) (cs := [_]) want_none rfl rfl (fun w => Try_P_fb16 _ w) hs46 (fun b47 w48 hs49 => ?_)
  refine w_call want_none Try.call22 rfl rfl rfl rfl ((c22 (exM 3 15) ⟨some ⟨r3, 0, none⟩, 2, some ⟨s3, 0, none⟩, 3, some ⟨t3, 0, none⟩, 5⟩ (ex_min (i1 := 1) (i2 := 2) (i3 := 3) rfl rfl rfl) (some ⟨b47, 0, none⟩) 1 [1] (by decide) (sl_own (i := 0) (rows := [[_]]) rfl (by simp) rfl) hs49).mono (fun v w' h => by rw [ex_can3] at h; exact h)) ?_
  rintro _ w51 ⟨rfl, hs52⟩
  refine w_pure want_none (y_move (v := .tuple _) rfl rfl) rfl ?_
  refine w_pure want_none (y_extract (v := .int _ _) rfl rfl rfl) rfl ?_
  refine w_pure want_none (y_extract (v := .int _ _) rfl rfl rfl) rfl ?_
  refine w_pure want_none (y_assign (v := .int _ _) rfl rfl) rfl ?_
  refine w_pure want_none (y_assign (v := .int _ _) rfl rfl) rfl ?_
  refine w_nil ?_
  refine q_then (hK42 _ _ ?_)
  refine w_seq (fun K54 hK53 => ?_)
  refine w_region ?_
  refine w_pure want_none (y_loadN (vs := [_, _, _]) Try.isAgg26 Try.sizeOf26 hs52.tail.tail.tail.tail.tail.tail.drop rfl rfl hP1) rfl ?_
  refine w_bslice (ps := [(0, _), (1, _), (2, _)]) (pv := [(0, .int _ _), (1, .int _ _), (2, .int _ _)]) (cs := [_, _, _]) want_none rfl rfl (fun w => Try_P_fb14 _ _ _ w) hs52 (fun b55 w56 hs57 => ?_)
  refine w_call want_none Try.call24 rfl rfl rfl rfl ((c24 (exM 2 10) ⟨some ⟨r1, 0, none⟩, 2, some ⟨s1, 0, none⟩, 3, some ⟨t1, 0, none⟩, 5⟩ hM1.app.cons.cons.cons.cons.cons.cons.cons (some ⟨b55, 0, none⟩) 3 [0, 1, 2] (by decide) (sl_own (i := 0) (rows := [[_], [_], [_]]) rfl (by simp) rfl) hs57).mono (fun v w' h => by rw [ex_proof1] at h; exact h)) ?_
  rintro _ w59 ⟨B2, a2, c2, rfl, hq2, hs60⟩
  replace hs60 := (show St _ _ (B2 ++ (_ :: _ :: _ :: _ :: _ :: _ :: _ :: B1 ++ (Z))) from hs60)
  refine w_pure want_none (y_move (v := .tuple _) rfl rfl) rfl ?_
  refine w_pure want_none (y_extract (v := .slice _ _ _) rfl rfl rfl) rfl ?_
  refine w_pure want_none (y_extract (v := .int _ _) rfl rfl rfl) rfl ?_
  refine w_pure want_none (y_extract (v := .int _ _) rfl rfl rfl) rfl ?_
  refine w_pure want_none (y_assign (v := .slice _ _ _) rfl rfl) rfl ?_
  refine w_pure want_none (y_assign (v := .int _ _) rfl rfl) rfl ?_
  refine w_pure want_none (y_assign (v := .int _ _) rfl rfl) rfl ?_
  refine w_nil ?_
  refine q_then (hK53 _ _ ?_)
  refine w_seq (fun K62 hK61 => ?_)
  refine w_region ?_
  refine w_pure want_none (y_loadN (vs := [_, _, _]) Try.isAgg26 Try.sizeOf26 hs60.drop.tail.tail.tail.tail.tail.tail.tail.drop rfl rfl hP1) rfl ?_
  refine w_bslice (ps := [(0, _), (1, _)]) (pv := [(0, .int _ _), (1, .int _ _)]) (cs := [_, _]) want_none rfl rfl (fun w => Try_P_fb15 _ _ w) hs60 (fun b63 w64 hs65 => ?_)
  refine w_call want_none Try.call24 rfl rfl rfl rfl ((c24 (exM 2 10) ⟨some ⟨r1, 0, none⟩, 2, some ⟨s1, 0, none⟩, 3, some ⟨t1, 0, none⟩, 5⟩ hM1.app.cons.cons.cons.cons.cons.cons.cons.app.cons (some ⟨b63, 0, none⟩) 2 [1, 2] (by decide) (sl_own (i := 0) (rows := [[_], [_]]) rfl (by simp) rfl) hs65).mono (fun v w' h => by rw [ex_proof2] at h; exact h)) ?_
  rintro _ w67 ⟨B3, a3, c3, rfl, hq3, hs68⟩
  replace hs68 := (show St _ _ (B3 ++ (_ :: B2 ++ (_ :: _ :: _ :: _ :: _ :: _ :: _ :: B1 ++ (Z)))) from hs68)
  refine w_pure want_none (y_move (v := .tuple _) rfl rfl) rfl ?_
  refine w_pure want_none (y_extract (v := .slice _ _ _) rfl rfl rfl) rfl ?_
  refine w_pure want_none (y_extract (v := .int _ _) rfl rfl rfl) rfl ?_
  refine w_pure want_none (y_extract (v := .int _ _) rfl rfl rfl) rfl ?_
  refine w_pure want_none (y_assign (v := .slice _ _ _) rfl rfl) rfl ?_
  refine w_pure want_none (y_assign (v := .int _ _) rfl rfl) rfl ?_
  refine w_pure want_none (y_assign (v := .int _ _) rfl rfl) rfl ?_
  refine w_nil ?_
  refine q_then (hK61 _ _ ?_)
  refine w_seq (fun K70 hK69 => ?_)
  refine w_region ?_
  refine w_pure want_none (y_loadN (vs := [_, _, _]) Try.isAgg26 Try.sizeOf26 hs68.drop.tail.drop.tail.tail.tail.tail.tail.tail.tail.drop rfl rfl hP1) rfl ?_
  refine w_call want_none Try.call26 rfl rfl rfl rfl ((c26 (exM 2 10) ⟨some ⟨r1, 0, none⟩, 2, some ⟨s1, 0, none⟩, 3, some ⟨t1, 0, none⟩, 5⟩ hM1.app.cons.cons.cons.cons.cons.cons.cons.app.cons.app hs68).mono (fun v w' h => by rw [ex_without] at h; exact h)) ?_
  rintro _ w72 ⟨B4, a4, c4, rfl, hq4, hs73⟩
  replace hs73 := (show St _ _ (B4 ++ (B3 ++ (_ :: B2 ++ (_ :: _ :: _ :: _ :: _ :: _ :: _ :: B1 ++ (Z))))) from hs73)
  refine w_pure want_none (y_move (v := .tuple _) rfl rfl) rfl ?_
  refine w_pure want_none (y_extract (v := .slice _ _ _) rfl rfl rfl) rfl ?_
  refine w_pure want_none (y_extract (v := .int _ _) rfl rfl rfl) rfl ?_
  refine w_pure want_none (y_assign (v := .slice _ _ _) rfl rfl) rfl ?_
  refine w_pure want_none (y_assign (v := .int _ _) rfl rfl) rfl ?_
  refine w_nil ?_
  refine q_then (hK69 _ _ ?_)
  refine w_seq (fun K75 hK74 => ?_)
  refine w_region ?_
  refine w_pure want_none (y_loadN (vs := [_, _, _]) Try.isAgg26 Try.sizeOf26 hs73.drop.drop.tail.drop.tail.tail.tail.tail.tail.tail.tail.drop rfl rfl hP1) rfl ?_
  refine w_call want_none Try.call28 rfl rfl rfl rfl ((c28 (exM 2 10) ⟨some ⟨r1, 0, none⟩, 2, some ⟨s1, 0, none⟩, 3, some ⟨t1, 0, none⟩, 5⟩ hM1.app.cons.cons.cons.cons.cons.cons.cons.app.cons.app.app hs73).mono (fun v w' h => by rw [ex_give] at h; exact h)) ?_
  rintro _ w77 ⟨B5, a5, c5, rfl, hq5, hs78⟩
  replace hs78 := (show St _ _ (B5 ++ (B4 ++ (B3 ++ (_ :: B2 ++ (_ :: _ :: _ :: _ :: _ :: _ :: _ :: B1 ++ (Z)))))) from hs78)
  refine w_pure want_none (y_move (v := .tuple _) rfl rfl) rfl ?_
  refine w_pure want_none (y_extract (v := .slice _ _ _) rfl rfl rfl) rfl ?_
  refine w_pure want_none (y_extract (v := .int _ _) rfl rfl rfl) rfl ?_
  refine w_pure want_none (y_assign (v := .slice _ _ _) rfl rfl) rfl ?_
  refine w_pure want_none (y_assign (v := .int _ _) rfl rfl) rfl ?_
  refine w_nil ?_
  refine q_then (hK74 _ _ ?_)
  refine w_seq (fun K80 hK79 => ?_)
  refine w_region ?_
  refine w_pure want_none (y_loadN (vs := [_, _, _]) Try.isAgg26 Try.sizeOf26 hs78.drop.drop.drop.tail.drop.tail.tail.tail.tail.tail.tail.tail.drop rfl rfl hP1) rfl ?_
  refine w_call want_none Try.call30 rfl rfl rfl rfl ((c30 (exM 2 10) ⟨some ⟨r1, 0, none⟩, 2, some ⟨s1, 0, none⟩, 3, some ⟨t1, 0, none⟩, 5⟩ hM1.app.cons.cons.cons.cons.cons.cons.cons.app.cons.app.app.app 0 hs78).mono (fun v w' h => by rw [ex_more] at h; exact h)) ?_
  rintro _ w82 ⟨rfl, hs83⟩
  refine w_pure want_none (y_move (v := .tuple _) rfl rfl) rfl ?_
  refine w_pure want_none (y_extract (v := .int _ _) rfl rfl rfl) rfl ?_
  refine w_pure want_none (y_extract (v := .int _ _) rfl rfl rfl) rfl ?_
  refine w_pure want_none (y_assign (v := .int _ _) rfl rfl) rfl ?_
  refine w_pure want_none (y_assign (v := .int _ _) rfl rfl) rfl ?_
  refine w_nil ?_
  refine q_then (hK79 _ _ ?_)
  refine w_seq (fun K85 hK84 => ?_)
  refine w_region ?_
  refine w_pure want_none (y_loadN (vs := [_, _, _]) Try.isAgg26 Try.sizeOf26 hs83.drop.drop.drop.tail.drop.tail.tail.tail.tail.tail.tail.tail.drop rfl rfl hP2) rfl ?_
  refine w_call want_none Try.call32 rfl rfl rfl rfl ((c32 (exM 3 10) ⟨some ⟨r2, 0, none⟩, 2, some ⟨s2, 0, none⟩, 3, some ⟨t2, 0, none⟩, 5⟩ hM2.app.cons.cons.cons.cons.cons.cons.cons.app.cons.app.app.app 1 hs83).mono (fun v w' h => by rw [ex_late] at h; exact h)) ?_
  rintro _ w87 ⟨rfl, hs88⟩
  refine w_pure want_none (y_move (v := .tuple _) rfl rfl) rfl ?_
  refine w_pure want_none (y_extract (v := .int _ _) rfl rfl rfl) rfl ?_
  refine w_pure want_none (y_extract (v := .int _ _) rfl rfl rfl) rfl ?_
  refine w_pure want_none (y_assign (v := .int _ _) rfl rfl) rfl ?_
  refine w_pure want_none (y_assign (v := .int _ _) rfl rfl) rfl ?_
  refine w_nil ?_
  refine q_then (hK84 _ _ ?_)
  refine w_seq (fun K90 hK89 => ?_)
  refine w_region ?_
  refine w_pure want_none (y_loadN (vs := [_, _, _]) Try.isAgg26 Try.sizeOf26 hs88.drop.drop.drop.tail.drop.tail.tail.tail.tail.tail.tail.tail.drop rfl rfl hP1) rfl ?_
  refine w_bslice (ps := [(0, _), (1, _)]) (pv := [(0, .int _ _), (1, .int _ _)]) (cs := [_, _]) want_none rfl rfl (fun w => Try_P_fb15 _ _ w) hs88 (fun b91 w92 hs93 => ?_)
  refine w_call want_none Try.call22 rfl rfl rfl rfl ((c22 (exM 2 10) ⟨some ⟨r1, 0, none⟩, 2, some ⟨s1, 0, none⟩, 3, some ⟨t1, 0, none⟩, 5⟩ hM1.app.cons.cons.cons.cons.cons.cons.cons.app.cons.app.app.app.cons (some ⟨b91, 0, none⟩) 2 [1, 0] (by decide) (sl_own (i := 0) (rows := [[_], [_]]) rfl (by simp) rfl) hs93).mono (fun v w' h => by rw [ex_can4] at h; exact h)) ?_
  rintro _ w95 ⟨rfl, hs96⟩
  refine w_pure want_none (y_move (v := .tuple _) rfl rfl) rfl ?_
  refine w_pure want_none (y_extract (v := .int _ _) rfl rfl rfl) rfl ?_
  refine w_pure want_none (y_extract (v := .int _ _) rfl rfl rfl) rfl ?_
  refine w_pure want_none (y_assign (v := .int _ _) rfl rfl) rfl ?_
  refine w_pure want_none (y_assign (v := .int _ _) rfl rfl) rfl ?_
  refine w_nil ?_
  refine q_then (hK89 _ _ ?_)
  refine w_seq (fun K98 hK97 => ?_)
  refine w_region ?_
  refine w_pure want_none (y_move (v := .int _ _) rfl rfl) rfl ?_
  refine w_pure want_none (y_eql rfl rfl rfl rfl) rfl ?_
  refine w_pure want_none (y_move (v := .bool _) rfl rfl) rfl ?_
  refine w_pure (want_yes rfl rfl rfl) (y_move (v := .int _ _) rfl rfl) rfl ?_
  refine w_pure (want_yes rfl rfl rfl) (y_eql rfl rfl rfl rfl) rfl ?_
  refine w_pure want_none (y_pickT (v := .bool _) rfl rfl rfl rfl) rfl ?_
  refine w_pure want_none (y_move (v := .bool _) rfl rfl) rfl ?_
  refine w_pure (want_yes rfl rfl rfl) (y_move (v := .int _ _) rfl rfl) rfl ?_
  refine w_pure (want_yes rfl rfl rfl) (y_eql rfl rfl rfl rfl) rfl ?_
  refine w_pure want_none (y_pickT (v := .bool _) rfl rfl rfl rfl) rfl ?_
  refine w_pure want_none (y_move (v := .bool _) rfl rfl) rfl ?_
  refine w_pure (want_yes rfl rfl rfl) (y_move (v := .int _ _) rfl rfl) rfl ?_
  refine w_pure (want_yes rfl rfl rfl) (y_eql rfl rfl rfl rfl) rfl ?_
  refine w_pure want_none (y_pickT (v := .bool _) rfl rfl rfl rfl) rfl ?_
  refine w_pure want_none (y_move (v := .bool _) rfl rfl) rfl ?_
  refine w_pure (want_yes rfl rfl rfl) (y_move (v := .int _ _) rfl rfl) rfl ?_
  refine w_pure (want_yes rfl rfl rfl) (y_eql rfl rfl rfl rfl) rfl ?_
  refine w_pure want_none (y_pickT (v := .bool _) rfl rfl rfl rfl) rfl ?_
  refine w_pure want_none (y_move (v := .bool _) rfl rfl) rfl ?_
  refine w_pure (want_yes rfl rfl rfl) (y_move (v := .int _ _) rfl rfl) rfl ?_
  refine w_pure (want_yes rfl rfl rfl) (y_eql rfl rfl rfl rfl) rfl ?_
  refine w_pure want_none (y_pickT (v := .bool _) rfl rfl rfl rfl) rfl ?_
  refine w_pure want_none (y_move (v := .bool _) rfl rfl) rfl ?_
  refine w_pure (want_yes rfl rfl rfl) (y_move (v := .int _ _) rfl rfl) rfl ?_
  refine w_pure (want_yes rfl rfl rfl) (y_eql rfl rfl rfl rfl) rfl ?_
  refine w_pure want_none (y_pickT (v := .bool _) rfl rfl rfl rfl) rfl ?_
  refine w_pure want_none (y_move (v := .bool _) rfl rfl) rfl ?_
  refine w_pure (want_yes rfl rfl rfl) (y_move (v := .int _ _) rfl rfl) rfl ?_
  refine w_pure (want_yes rfl rfl rfl) (y_eql rfl rfl rfl rfl) rfl ?_
  refine w_pure want_none (y_pickT (v := .bool _) rfl rfl rfl rfl) rfl ?_
  refine w_pure want_none (y_move (v := .bool _) rfl rfl) rfl ?_
  refine w_pure (want_yes rfl rfl rfl) (y_move (v := .int _ _) rfl rfl) rfl ?_
  refine w_pure (want_yes rfl rfl rfl) (y_eql rfl rfl rfl rfl) rfl ?_
  refine w_pure want_none (y_pickT (v := .bool _) rfl rfl rfl rfl) rfl ?_
  refine w_pure want_none (y_move (v := .bool _) rfl rfl) rfl ?_
  refine w_pure (want_yes rfl rfl rfl) (y_move (v := .int _ _) rfl rfl) rfl ?_
  refine w_pure (want_yes rfl rfl rfl) (y_eql rfl rfl rfl rfl) rfl ?_
  refine w_pure want_none (y_pickT (v := .bool _) rfl rfl rfl rfl) rfl ?_
  refine w_pure want_none (y_move (v := .bool _) rfl rfl) rfl ?_
  refine w_pure (want_yes rfl rfl rfl) (y_move (v := .int _ _) rfl rfl) rfl ?_
  refine w_pure (want_yes rfl rfl rfl) (y_eql rfl rfl rfl rfl) rfl ?_
  refine w_pure want_none (y_pickT (v := .bool _) rfl rfl rfl rfl) rfl ?_
  refine w_pure want_none (y_move (v := .bool _) rfl rfl) rfl ?_
  refine w_pure (want_yes rfl rfl rfl) (y_move (v := .slice _ _ _) rfl rfl) rfl ?_
  refine w_bslice (ps := [(0, _), (1, _), (2, _), (3, _)]) (pv := [(0, .int _ _), (1, .int _ _), (2, .int _ _), (3, .int _ _)]) (cs := [_, _, _, _]) (want_yes rfl rfl rfl) rfl rfl (fun w => Try_P_fb17 _ _ _ _ w) hs96 (fun b99 w100 hs101 => ?_)
  refine w_call (want_yes rfl rfl rfl) Try.call20 rfl rfl rfl rfl (con_true (c20 _ _ [0, 1, 2, 3] [0, 1, 2, 3] _ _ (by decide) hq1.top.cons.cons.cons.cons.cons.cons.cons.app.cons.app.app.app.cons.cons (sl_own (i := 0) (rows := [[_], [_], [_], [_]]) rfl (by simp) rfl) hs101) (by decide)) ?_
  rintro _ w103 ⟨rfl, hs104⟩
  refine w_pure want_none (y_pickT (v := .bool _) rfl rfl rfl rfl) rfl ?_
  refine w_pure want_none (y_move (v := .bool _) rfl rfl) rfl ?_
  refine w_pure (want_yes rfl rfl rfl) (y_move (v := .int _ _) rfl rfl) rfl ?_
  refine w_pure (want_yes rfl rfl rfl) (y_eql rfl rfl rfl rfl) rfl ?_
  refine w_pure want_none (y_pickT (v := .bool _) rfl rfl rfl rfl) rfl ?_
  refine w_pure want_none (y_move (v := .bool _) rfl rfl) rfl ?_
  refine w_pure (want_yes rfl rfl rfl) (y_move (v := .int _ _) rfl rfl) rfl ?_
  refine w_pure (want_yes rfl rfl rfl) (y_eql rfl rfl rfl rfl) rfl ?_
  refine w_pure want_none (y_pickT (v := .bool _) rfl rfl rfl rfl) rfl ?_
  refine w_pure want_none (y_move (v := .bool _) rfl rfl) rfl ?_
  refine w_pure (want_yes rfl rfl rfl) (y_move (v := .int _ _) rfl rfl) rfl ?_
  refine w_pure (want_yes rfl rfl rfl) (y_eql rfl rfl rfl rfl) rfl ?_
  refine w_pure want_none (y_pickT (v := .bool _) rfl rfl rfl rfl) rfl ?_
  refine w_pure want_none (y_move (v := .bool _) rfl rfl) rfl ?_
  refine w_pure (want_yes rfl rfl rfl) (y_move (v := .slice _ _ _) rfl rfl) rfl ?_
  refine w_bslice (ps := [(0, _), (1, _), (2, _)]) (pv := [(0, .int _ _), (1, .int _ _), (2, .int _ _)]) (cs := [_, _, _]) (want_yes rfl rfl rfl) rfl rfl (fun w => Try_P_fb14 _ _ _ w) hs104 (fun b105 w106 hs107 => ?_)
  refine w_call (want_yes rfl rfl rfl) Try.call20 rfl rfl rfl rfl (con_true (c20 _ _ [0, 1, 2] [0, 1, 2] _ _ (by decide) hq2.top.cons.app.app.app.cons.cons.cons (sl_own (i := 0) (rows := [[_], [_], [_]]) rfl (by simp) rfl) hs107) (by decide)) ?_
  rintro _ w109 ⟨rfl, hs110⟩
  refine w_pure want_none (y_pickT (v := .bool _) rfl rfl rfl rfl) rfl ?_
  refine w_pure want_none (y_move (v := .bool _) rfl rfl) rfl ?_
  refine w_pure (want_yes rfl rfl rfl) (y_move (v := .int _ _) rfl rfl) rfl ?_
  refine w_pure (want_yes rfl rfl rfl) (y_eql rfl rfl rfl rfl) rfl ?_
  refine w_pure want_none (y_pickT (v := .bool _) rfl rfl rfl rfl) rfl ?_
  refine w_pure want_none (y_move (v := .bool _) rfl rfl) rfl ?_
  refine w_pure (want_yes rfl rfl rfl) (y_move (v := .slice _ _ _) rfl rfl) rfl ?_
  refine w_bslice (ps := [(0, _)]) (pv := [(0, .int _ _)]) (cs := [_]) (want_yes rfl rfl rfl) rfl rfl (fun w => Try_P_fb16 _ w) hs110 (fun b111 w112 hs113 => ?_)
  refine w_call (want_yes rfl rfl rfl) Try.call20 rfl rfl rfl rfl (con_true (c20 _ _ [0] [0] _ _ (by decide) hq4.top.app.cons.cons.cons.cons (sl_own (i := 0) (rows := [[_]]) rfl (by simp) rfl) hs113) (by decide)) ?_
  rintro _ w115 ⟨rfl, hs116⟩
  refine w_pure want_none (y_pickT (v := .bool _) rfl rfl rfl rfl) rfl ?_
  refine w_pure want_none (y_move (v := .bool _) rfl rfl) rfl ?_
  refine w_pure (want_yes rfl rfl rfl) (y_move (v := .slice _ _ _) rfl rfl) rfl ?_
  refine w_bslice (ps := [(0, _), (1, _), (2, _), (3, _), (4, _)]) (pv := [(0, .int _ _), (1, .int _ _), (2, .int _ _), (3, .int _ _), (4, .int _ _)]) (cs := [_, _, _, _, _]) (want_yes rfl rfl rfl) rfl rfl (fun w => Try_P_fb18 _ _ _ _ _ w) hs116 (fun b117 w118 hs119 => ?_)
  refine w_call (want_yes rfl rfl rfl) Try.call20 rfl rfl rfl rfl (con_true (c20 _ _ [0, 8, 2, 8, 0] [0, 8, 2, 8, 0] _ _ (by decide) hq5.top.cons.cons.cons.cons.cons (sl_own (i := 0) (rows := [[_], [_], [_], [_], [_]]) rfl (by simp) rfl) hs119) (by decide)) ?_
  rintro _ w121 ⟨rfl, hs122⟩
  refine w_pure want_none (y_pickT (v := .bool _) rfl rfl rfl rfl) rfl ?_
  refine w_pure want_none (y_move (v := .bool _) rfl rfl) rfl ?_
  refine w_pure (want_yes rfl rfl rfl) (y_move (v := .int _ _) rfl rfl) rfl ?_
  refine w_pure (want_yes rfl rfl rfl) (y_eql rfl rfl rfl rfl) rfl ?_
  refine w_pure want_none (y_pickT (v := .bool _) rfl rfl rfl rfl) rfl ?_
  refine w_pure want_none (y_move (v := .bool _) rfl rfl) rfl ?_
  refine w_pure (want_yes rfl rfl rfl) (y_move (v := .int _ _) rfl rfl) rfl ?_
  refine w_pure (want_yes rfl rfl rfl) (y_eql rfl rfl rfl rfl) rfl ?_
  refine w_pure want_none (y_pickT (v := .bool _) rfl rfl rfl rfl) rfl ?_
  refine w_pure want_none (y_assign (v := .bool _) rfl rfl) rfl ?_
  refine w_nil ?_
  refine q_then (hK97 _ _ ?_)
  refine w_ret ?_
  refine q_ret (l := [.tmp 0]) (vs := [_]) rfl ⟨⟨rfl, show _ = (.bool _ : Value) from rfl⟩, trivial⟩ ?_
  exact ⟨rfl, (St.cast hZ hs122.tail.tail.tail.tail.tail.drop.drop.drop.tail.drop.tail.tail.tail.tail.tail.tail.tail.drop).tail.tail.tail.tail.tail.tail.tail.tail⟩

end Go.Proofs
/- Plain words of the shop layer: sets asked for by rising numbers. No conditions. -/
set_option linter.unusedSimpArgs false
set_option linter.unusedVariables false
namespace Go.Rt.Sh
/-- Rising numbers below n, each greater than the one before. -/
def rising (n : Int) : Int → List Int → Bool
  | _, [] => true
  | p, x :: l => !(decide (x ≤ p) || decide (n ≤ x)) && rising n x l
theorem rising_stop {n p : Int} {l : List Int} {i : Nat} (hi : i < l.length) (h : l[i] ≤ p ∨ n ≤ l[i]) : rising n p (l.drop i) = false := by
  rw [List.drop_eq_getElem_cons hi, rising]
  rcases h with h | h <;> simp [h]
theorem rising_step {n p : Int} {l : List Int} {i : Nat} (hi : i < l.length) (h : p < l[i]) (h2 : l[i] < n) : rising n p (l.drop i) = rising n l[i] (l.drop (i + 1)) := by
  rw [List.drop_eq_getElem_cons hi, rising]
  simp [h, h2]
theorem rising_end {n p : Int} {l : List Int} {i : Nat} (hi : l.length ≤ i) : rising n p (l.drop i) = true := by rw [List.drop_of_length_le hi]; rfl
/-- A set told so far has greatest bit p. -/
theorem orBits_rising (n : Int) (hn : n ≤ 4) : ∀ (l : List Int) (p : Int) (s : Nat), (∀ x ∈ l, 0 ≤ x ∧ x < n) → (∀ x : Nat, x < 4 → (0 < s >>> x ↔ (x : Int) ≤ p)) → s < 16 → -1 ≤ p → (orBits s l = none ↔ rising n p l = false)
  | [], p, s, _, _, _, _ => by simp [orBits, rising]
  | x :: l, p, s, hx, hs, h16, hp => by
    have h0 := hx x (.head _)
    have hk := hs x.toNat (by omega)
    rw [show ((x.toNat : Nat) : Int) = x by omega] at hk
    simp only [orBits, rising]
    by_cases h : 0 < s >>> x.toNat
    · rw [if_pos h]
      have := hk.1 h
      simp [this]
    · rw [if_neg h]
      have hpx : p < x := by
        rcases Int.lt_or_le p x with h1 | h1
        · exact h1
        · exact absurd (hk.2 h1) h
      have hq : ∀ y : Nat, y < 4 → (0 < (s ||| (1 <<< x.toNat)) >>> y ↔ (y : Int) ≤ x) := by
        intro y hy
        have hsy := hs y hy
        rw [Nat.shiftRight_or_distrib]
        obtain ⟨a, ha, ha4⟩ : ∃ a : Nat, (a : Int) = x ∧ a < 4 := ⟨x.toNat, by omega, by omega⟩
        have hax : x.toNat = a := by omega
        rw [hax]
        have h1 : 0 < (1 <<< a) >>> y ↔ y ≤ a := by
          have : ∀ a < 4, ∀ y < 4, (0 < (1 <<< a) >>> y ↔ y ≤ a) := by decide
          exact this a ha4 y hy
        have h2 : 0 < (s >>> y ||| (1 <<< a) >>> y) ↔ (0 < s >>> y ∨ 0 < (1 <<< a) >>> y) := by
          have e : ∀ u v : Nat, (u ||| v) = 0 ↔ u = 0 ∧ v = 0 := fun u v => Nat.or_eq_zero_iff
          have := e (s >>> y) ((1 <<< a) >>> y)
          rw [Nat.pos_iff_ne_zero, Nat.pos_iff_ne_zero, Nat.pos_iff_ne_zero, ne_eq, this]
          constructor
          · intro h
            by_cases h0 : s >>> y = 0
            · exact .inr fun h1 => h ⟨h0, h1⟩
            · exact .inl h0
          · rintro (h | h) ⟨h1, h2⟩
            · exact h h1
            · exact h h2
        rw [h2, h1, hsy]
        omega
      rw [orBits_rising n hn l x _ (fun y hy => hx y (.tail _ hy)) hq (or_small h16 (by omega)) (by omega)]
      have e1 : decide (x ≤ p) = false := by simpa using hpx
      have e2 : decide (n ≤ x) = false := by simpa using h0.2
      rw [e1, e2]
      simp
end Go.Rt.Sh
/- Plain words of the shop layer's reference: lists in their order, all sets of some shops, the worst of them. No conditions. -/
set_option linter.unusedSimpArgs false
set_option linter.unusedVariables false
namespace Go.Rt
def hasI (l : List Int) (z : Int) : Bool := l.any fun y => decide (y = z)
theorem hasI_succ {l : List Int} {z : Int} {i : Nat} (hi : i < l.length) : hasI (l.take (i + 1)) z = (hasI (l.take i) z || decide (l[i] = z)) := by
  unfold hasI; rw [List.take_succ_eq_append_getElem hi, List.any_append]; simp
theorem hasI_mem {l : List Int} {z : Int} : hasI l z = true ↔ z ∈ l := by simp [hasI]
/-- The numbers below n that are not in a list. -/
def othersTo (l : List Int) : Nat → List Int
  | 0 => []
  | i + 1 => if hasI l i then othersTo l i else othersTo l i ++ [(i : Int)]
theorem othersTo_yes {l : List Int} {i : Nat} (h : hasI l i = true) : othersTo l (i + 1) = othersTo l i := by simp [othersTo, h]
theorem othersTo_no {l : List Int} {i : Nat} (h : hasI l i = false) : othersTo l (i + 1) = othersTo l i ++ [(i : Int)] := by simp [othersTo, h]
theorem othersTo_len (l : List Int) : ∀ i, (othersTo l i).length ≤ i
  | 0 => by simp [othersTo]
  | i + 1 => by have := othersTo_len l i; unfold othersTo; split <;> simp <;> omega
/-! ### The order of lists -/
theorem less_trans : ∀ (a b c : List Int), less a b = true → less b c = true → less a c = true
  | a, [], _, h, _ => by cases a <;> simp [less] at h
  | _, _ :: _, [], _, h => by simp [less] at h
  | [], _ :: _, _ :: _, _, _ => rfl
  | x :: a, y :: b, z :: c, h1, h2 => by
    simp only [less] at h1 h2 ⊢
    by_cases e1 : x = y
    · subst e1
      simp only [if_true] at h1
      by_cases e2 : x = z
      · subst e2; simp only [if_true] at h2 ⊢; exact less_trans a b c h1 h2
      · rw [if_neg e2] at h2 ⊢; exact h2
    · rw [if_neg e1] at h1
      by_cases e2 : y = z
      · subst e2; rw [if_neg e1]; exact h1
      · rw [if_neg e2] at h2
        simp only [decide_eq_true_eq] at h1 h2
        rw [if_neg (by omega)]; simp only [decide_eq_true_eq]; omega
theorem less_asymm {a b : List Int} (h : less a b = true) : less b a = false := by
  cases hb : less b a with
  | false => rfl
  | true => have := less_trans a b a h hb; rw [less_irrefl] at this; cases this
/-! ### All lists of ascending numbers -/
def leastN (x : List Int) : Int := match x.getLast? with | none => 0 | some z => z + 1
def nextTo (x : List Int) (n : Nat) : List (List Int) := ((List.range n).filter fun q : Nat => decide (leastN x ≤ (q : Int))).map fun q : Nat => x ++ [(q : Int)]
def choices (below : Nat) : Nat → List (List Int)
  | 0 => [[]]
  | i + 1 => (choices below i).flatMap fun x => nextTo x below
def chTo (below i k : Nat) : List (List Int) := ((choices below i).take k).flatMap fun x => nextTo x below
theorem chTo_zero (below i : Nat) : chTo below i 0 = [] := rfl
theorem chTo_all {below i k : Nat} (h : (choices below i).length ≤ k) : chTo below i k = choices below (i + 1) := by unfold chTo; rw [List.take_of_length_le h]; rfl
theorem chTo_succ {below i k : Nat} (h : k < (choices below i).length) : chTo below i (k + 1) = chTo below i k ++ nextTo ((choices below i)[k]) below := by
  unfold chTo; rw [List.take_succ_eq_append_getElem h, List.flatMap_append]; simp
theorem nextTo_none {x : List Int} {n : Nat} (h : (n : Int) ≤ leastN x) : nextTo x n = [] := by
  unfold nextTo
  rw [List.filter_eq_nil_iff.2]
  · rfl
  · intro q hq; rw [List.mem_range] at hq; simp; omega
theorem nextTo_succ {x : List Int} {n : Nat} (h : leastN x ≤ (n : Int)) : nextTo x (n + 1) = nextTo x n ++ [x ++ [(n : Int)]] := by
  unfold nextTo; rw [List.range_succ, List.filter_append, List.map_append]; simp [h]
theorem nextTo_len (x : List Int) (n : Nat) : (nextTo x n).length ≤ n := by
  unfold nextTo; rw [List.length_map]; have := List.length_filter_le (fun q : Nat => decide (leastN x ≤ (q : Int))) (List.range n); rwa [List.length_range] at this
theorem flat_le {α β : Type} {f : α → List β} {m : Nat} : ∀ (l : List α), (∀ x ∈ l, (f x).length ≤ m) → (l.flatMap f).length ≤ l.length * m
  | [], _ => by simp
  | a :: l, h => by
    rw [List.flatMap_cons, List.length_append, List.length_cons, Nat.succ_mul]
    have h1 := h a (.head _)
    have h2 := flat_le l fun x hx => h x (.tail _ hx)
    omega
theorem choices_small {below : Nat} (hb : below ≤ 11) : ∀ i, i ≤ 11 → (choices below i).length ≤ 11 ^ i
  | 0, _ => by simp [choices]
  | i + 1, hi => by
    have ih := choices_small hb i (by omega)
    have h1 := flat_le (m := below) (choices below i) (f := fun x => nextTo x below) fun x _ => nextTo_len x below
    rw [Nat.pow_succ]
    have : (choices below i).length * below ≤ 11 ^ i * 11 := Nat.mul_le_mul ih hb
    simp only [choices]; omega
theorem choices_max {below i : Nat} (hb : below ≤ 11) (hi : i ≤ 11) : (choices below i).length ≤ 285311670611 := by
  have h1 := choices_small hb i hi
  have h2 : 11 ^ i ≤ 11 ^ 11 := Nat.pow_le_pow_right (by omega) hi
  have h3 : (11 : Nat) ^ 11 = 285311670611 := by decide
  omega
theorem choices_len {below : Nat} : ∀ (i : Nat), ∀ x ∈ choices below i, x.length = i ∧ ∀ z ∈ x, 0 ≤ z ∧ z < below
  | 0, x, h => by simp [choices] at h; subst h; simp
  | i + 1, x, h => by
    simp only [choices, List.mem_flatMap] at h
    obtain ⟨y, hy, h⟩ := h
    have ih := choices_len i y hy
    unfold nextTo at h
    obtain ⟨q, hq, rfl⟩ := List.mem_map.1 h
    have hq := (List.mem_filter.1 hq).1
    rw [List.mem_range] at hq
    refine ⟨by simp [ih.1], fun z hz => ?_⟩
    rcases List.mem_append.1 hz with h | h
    · exact ih.2 z h
    · simp at h; omega
theorem leastN_nn {below i : Nat} {x : List Int} (h : x ∈ choices below i) : 0 ≤ leastN x ∧ leastN x ≤ below := by
  unfold leastN
  cases e : x.getLast? with
  | none => simp
  | some z => have := (choices_len i x h).2 z (List.mem_of_getLast? e); dsimp only; omega
theorem leastN_at {x : List Int} {i : Nat} (h : x.length = i) (hi : 0 < i) : leastN x = x[i - 1]'(by omega) + 1 := by
  unfold leastN; subst h; rw [List.getLast?_eq_getElem?, List.getElem?_eq_getElem (by omega)]
/-! ### All sets of some numbers -/
def pickL (shops l : List Int) : List Int := l.map fun z => shops.getD z.toNat 0
def setsMany (shops : List Int) (many : Nat) : List (List Int) := (choices shops.length many).map (pickL shops)
def setsTo (shops : List Int) : Nat → List (List Int)
  | 0 => []
  | k + 1 => setsTo shops k ++ setsMany shops k
def setsL (shops : List Int) : List (List Int) := setsTo shops (shops.length + 1)
/-- The one with most, of the first ones; the empty set is passed over. -/
def topStep (f : List Int → Int) (s : List Int × Int) (l : List Int) : List Int × Int := if f l > s.2 then (l, f l) else s
def topTo (f : List Int → Int) (all : List (List Int)) : Nat → List Int × Int
  | 0 => ([], 0)
  | k + 1 => if k = 0 then ([], 0) else match all[k]? with | some l => topStep f (topTo f all k) l | none => topTo f all k
theorem topTo_succ {f : List Int → Int} {all : List (List Int)} {k : Nat} (h0 : 0 < k) (h : k < all.length) : topTo f all (k + 1) = topStep f (topTo f all k) all[k] := by
  simp only [topTo]; rw [if_neg (by omega), List.getElem?_eq_getElem h]
theorem topTo_one {f : List Int → Int} {all : List (List Int)} : topTo f all 1 = ([], 0) := rfl
namespace Sh
theorem before_irrefl (a : List Int) : before a a = false := by simp [before, less_irrefl]
theorem before_trans {a b c : List Int} (h1 : before a b = true) (h2 : before b c = true) : before a c = true := by
  unfold before at *
  simp only [Bool.or_eq_true, Bool.and_eq_true, decide_eq_true_eq] at *
  rcases h1 with h1 | ⟨h1, h1'⟩ <;> rcases h2 with h2 | ⟨h2, h2'⟩
  · left; omega
  · left; omega
  · left; omega
  · right; exact ⟨by omega, less_trans _ _ _ h1' h2'⟩
theorem before_asymm {a b : List Int} (h : before a b = true) : before b a = false := by
  cases hb : before b a with
  | false => rfl
  | true => have := before_trans h hb; rw [before_irrefl] at this; cases this
theorem before_total {a b : List Int} (h1 : before a b = false) (h2 : before b a = false) : a = b := by
  unfold before at *
  simp only [Bool.or_eq_false_iff, Bool.and_eq_false_iff, decide_eq_false_iff_not] at *
  have hl : a.length = b.length := by omega
  have e1 : less a b = false := by rcases h1.2 with h | h; omega; exact h
  have e2 : less b a = false := by rcases h2.2 with h | h; omega; exact h
  exact less_both a b hl e1 e2
/-- The best of some lists: with most, at least 1; the first of these. -/
def Best (f : List Int → Int) (C : List Int → Prop) (s : List Int × Int) : Prop :=
  (s = ([], 0) ∧ ∀ l, C l → f l < 1) ∨ (∃ l, C l ∧ s = (l, f l) ∧ 1 ≤ f l ∧ ∀ c, C c → f c ≤ f l ∧ (f c = f l → c = l ∨ before l c = true))
theorem Best.uniq {f : List Int → Int} {C : List Int → Prop} {s t : List Int × Int} (h1 : Best f C s) (h2 : Best f C t) : s = t := by
  rcases h1 with ⟨rfl, a1⟩ | ⟨l, c1, rfl, b1, a1⟩ <;> rcases h2 with ⟨rfl, a2⟩ | ⟨l', c2, rfl, b2, a2⟩
  · rfl
  · have := a1 _ c2; omega
  · have := a2 _ c1; omega
  · have e1 := a1 _ c2
    have e2 := a2 _ c1
    have e : f l' = f l := by omega
    have : l' = l := by
      rcases e1.2 e with h | h
      · exact h
      · rcases e2.2 e.symm with h' | h'
        · exact h'.symm
        · rw [before_asymm h] at h'; cases h'
    rw [this]
theorem best_top {f : List Int → Int} {all : List (List Int)} (hp : all.Pairwise fun a b => before a b = true) (h0 : ∀ l, all[0]? = some l → f l < 1) : ∀ k, k ≤ all.length → Best f (fun l => l ∈ all.take k) (topTo f all k)
  | 0, _ => .inl ⟨rfl, fun l h => by simp at h⟩
  | k + 1, hk => by
    have ih := best_top hp h0 k (by omega)
    have hkl : k < all.length := by omega
    by_cases h : k = 0
    · subst h
      refine .inl ⟨rfl, fun l hl => ?_⟩
      rw [List.take_succ_eq_append_getElem hkl] at hl
      simp at hl
      exact h0 l (by rw [List.getElem?_eq_getElem hkl, hl])
    · rw [topTo_succ (by omega) hkl]
      have hmem : ∀ l, l ∈ all.take (k + 1) ↔ l ∈ all.take k ∨ l = all[k] := by
        intro l; rw [List.take_succ_eq_append_getElem hkl, List.mem_append, List.mem_singleton]
      have hb : ∀ l, l ∈ all.take k → before l all[k] = true := by
        intro l hl
        obtain ⟨i, hi, rfl⟩ := List.getElem_of_mem hl
        rw [List.getElem_take]
        rw [List.length_take] at hi
        exact (List.pairwise_iff_getElem.1 hp) i k (by omega) hkl (by omega)
      unfold topStep
      rcases ih with ⟨e, a⟩ | ⟨l, c, e, b, a⟩
      · rw [e]
        split
        · rename_i hf
          exact .inr ⟨all[k], (hmem _).2 (.inr rfl), rfl, (by have := hf; simp at this; omega), fun c hc => by
            rcases (hmem c).1 hc with h | h
            · have := a c h; simp at hf; exact ⟨by omega, fun e => by omega⟩
            · subst h; exact ⟨by omega, fun _ => .inl rfl⟩⟩
        · rename_i hf
          exact .inl ⟨rfl, fun c hc => by
            rcases (hmem c).1 hc with h | h
            · exact a c h
            · subst h; simp at hf; omega⟩
      · rw [e]
        split
        · rename_i hf
          refine .inr ⟨all[k], (hmem _).2 (.inr rfl), rfl, ?_, fun c hc => ?_⟩
          · simp at hf; omega
          · simp at hf
            rcases (hmem c).1 hc with h | h
            · have := (a c h).1; exact ⟨by omega, fun e => by omega⟩
            · subst h; exact ⟨by omega, fun _ => .inl rfl⟩
        · rename_i hf
          simp at hf
          refine .inr ⟨l, (hmem _).2 (.inl c), rfl, b, fun c' hc => ?_⟩
          rcases (hmem c').1 hc with h | h
          · exact a c' h
          · subst h; exact ⟨hf, fun _ => .inr (hb l c)⟩
theorem best_worst {f : List Int → Int} {n sub : Nat} {lk : List Int} (hf : ∀ b, b < 16 → bitDiff b sub = 0 → f (listL b n) = lk.getD b 0) : ∀ k, k ≤ 16 → Best f (fun l => ∃ b, b < k ∧ bitDiff b sub = 0 ∧ l = listL b n) (worstTo n sub lk k)
  | 0, _ => .inl ⟨rfl, fun l h => by obtain ⟨b, h, _⟩ := h; omega⟩
  | k + 1, hk => by
    have ih := best_worst (lk := lk) hf k (by omega)
    simp only [worstTo, worstStep]
    by_cases hd : bitDiff k sub = 0
    · have hfk := hf k (by omega) hd
      rw [← hfk]
      have hmem : ∀ l, (∃ b, b < k + 1 ∧ bitDiff b sub = 0 ∧ l = listL b n) ↔ (∃ b, b < k ∧ bitDiff b sub = 0 ∧ l = listL b n) ∨ l = listL k n := by
        intro l
        constructor
        · rintro ⟨b, h1, h2, h3⟩
          by_cases e : b = k
          · subst e; exact .inr h3
          · exact .inl ⟨b, by omega, h2, h3⟩
        · rintro (⟨b, h1, h2, h3⟩ | h)
          · exact ⟨b, by omega, h2, h3⟩
          · exact ⟨k, by omega, hd, h⟩
      rcases ih with ⟨e, a⟩ | ⟨l, c, e, b, a⟩
      · rw [e]
        split
        · rename_i h1
          exact .inl ⟨rfl, fun c hc => by
            rcases (hmem c).1 hc with h | h
            · exact a c h
            · subst h; simp at h1; omega⟩
        · rename_i h1
          simp at h1
          rw [if_pos (by left; simp; omega)]
          exact .inr ⟨_, (hmem _).2 (.inr rfl), rfl, by omega, fun c hc => by
            rcases (hmem c).1 hc with h | h
            · have := a c h; exact ⟨by omega, fun e => by omega⟩
            · subst h; exact ⟨by omega, fun _ => .inl rfl⟩⟩
      · rw [e]
        split
        · rename_i h1
          refine .inr ⟨l, (hmem _).2 (.inl c), rfl, b, fun c' hc => ?_⟩
          rcases (hmem c').1 hc with h | h
          · exact a c' h
          · subst h; simp at h1; exact ⟨by omega, fun e => by omega⟩
        · rename_i h1
          simp at h1
          split
          · rename_i h2
            refine .inr ⟨_, (hmem _).2 (.inr rfl), rfl, by omega, fun c' hc => ?_⟩
            rcases (hmem c').1 hc with h | h
            · have h3 := a c' h
              refine ⟨by omega, fun e => ?_⟩
              rcases h2 with h2 | h2
              · simp at h2; omega
              · rcases h3.2 (by omega) with h4 | h4
                · subst h4; exact .inr h2
                · exact .inr (before_trans h2 h4)
            · subst h; exact ⟨by omega, fun _ => .inl rfl⟩
          · rename_i h2
            simp only [not_or, Bool.not_eq_true] at h2
            refine .inr ⟨l, (hmem _).2 (.inl c), rfl, b, fun c' hc => ?_⟩
            rcases (hmem c').1 hc with h | h
            · exact a c' h
            · subst h
              refine ⟨by simp at h2; omega, fun _ => ?_⟩
              cases hbb : before l (listL k n) with
              | true => exact .inr rfl
              | false => exact .inl (before_total h2.2 hbb)
    · rw [if_pos (.inl hd)]
      have hiff : ∀ l, (∃ b, b < k + 1 ∧ bitDiff b sub = 0 ∧ l = listL b n) ↔ (∃ b, b < k ∧ bitDiff b sub = 0 ∧ l = listL b n) := by
        intro l
        constructor
        · rintro ⟨b, h1, h2, h3⟩
          by_cases e : b = k
          · subst e; exact absurd h2 hd
          · exact ⟨b, by omega, h2, h3⟩
        · rintro ⟨b, h1, h2, h3⟩; exact ⟨b, by omega, h2, h3⟩
      rcases ih with ⟨e, a⟩ | ⟨l, c, e, b, a⟩
      · exact .inl ⟨e, fun l hl => a l ((hiff l).1 hl)⟩
      · exact .inr ⟨l, (hiff l).2 c, e, b, fun c' hc => a c' ((hiff c').1 hc)⟩
/-! ### All sets, as bits -/
theorem sets_pairwise : ∀ n < 5, ∀ sub < 16, sub < 2 ^ n → (setsL (listL sub n)).Pairwise fun a b => before a b = true := by decide +kernel
theorem sets_in : ∀ n < 5, ∀ sub < 16, sub < 2 ^ n → ∀ l ∈ setsL (listL sub n), ∃ b, b < 16 ∧ (bitDiff b sub = 0 ∧ l = listL b n) := by
  have h : ∀ n < 5, ∀ sub < 16, sub < 2 ^ n → ∀ l ∈ setsL (listL sub n), ((List.range 16).any fun b => decide (bitDiff b sub = 0 ∧ l = listL b n)) = true := by decide +kernel
  intro n hn sub hs hs2 l hl
  obtain ⟨b, hb, hd⟩ := List.any_eq_true.1 (h n hn sub hs hs2 l hl)
  exact ⟨b, by simpa using hb, by simpa using hd⟩
theorem sets_all : ∀ n < 5, ∀ sub < 16, sub < 2 ^ n → ∀ b < 16, bitDiff b sub = 0 → listL b n ∈ setsL (listL sub n) := by
  have h : ∀ n < 5, ∀ sub < 16, sub < 2 ^ n → ((List.range 16).all fun b => !decide (bitDiff b sub = 0) || decide (listL b n ∈ setsL (listL sub n))) = true := by decide +kernel
  intro n hn sub hs hs2 b hb hd
  have := List.all_eq_true.1 (h n hn sub hs hs2) b (by simpa using hb)
  simpa [hd] using this
theorem sets_zero : ∀ n < 5, ∀ sub < 16, sub < 2 ^ n → (setsL (listL sub n))[0]? = some (listL 0 n) := by decide +kernel
/-- The reference's worst is the program's. -/
theorem top_worst {f : List Int → Int} {n sub : Nat} {lk : List Int} (hn : n ≤ 4) (hs : sub < 2 ^ n) (hf : ∀ b, b < 16 → bitDiff b sub = 0 → f (listL b n) = lk.getD b 0) (h0 : lk.getD 0 0 < 1) :
    topTo f (setsL (listL sub n)) (setsL (listL sub n)).length = worstTo n sub lk 16 := by
  have hs16 : sub < 16 := by
    have : 2 ^ n ≤ 2 ^ 4 := Nat.pow_le_pow_right (by omega) hn
    omega
  have h1 := best_top (f := f) (sets_pairwise n (by omega) sub hs16 hs) (fun l hl => by
    rw [sets_zero n (by omega) sub hs16 hs] at hl
    cases hl
    rw [hf 0 (by omega) (by simp [bitDiff])]; exact h0) _ (Nat.le_refl _)
  have h2 := best_worst (f := f) (n := n) (sub := sub) (lk := lk) hf 16 (Nat.le_refl _)
  refine Best.uniq (C := fun l => l ∈ setsL (listL sub n)) (by rwa [List.take_length] at h1) ?_
  have hiff : ∀ l, l ∈ setsL (listL sub n) ↔ (∃ b, b < 16 ∧ bitDiff b sub = 0 ∧ l = listL b n) := fun l =>
    ⟨fun h => by obtain ⟨b, hb, h1, h2⟩ := sets_in n (by omega) sub hs16 hs l h; exact ⟨b, hb, h1, h2⟩, fun ⟨b, hb, h1, h2⟩ => h2 ▸ sets_all n (by omega) sub hs16 hs b hb h1⟩
  rcases h2 with ⟨e, a⟩ | ⟨l, c, e, b, a⟩
  · exact .inl ⟨e, fun l hl => a l ((hiff l).1 hl)⟩
  · exact .inr ⟨l, (hiff l).2 c, e, b, fun c' hc => a c' ((hiff c').1 hc)⟩
end Sh
end Go.Rt
/- Plain words of the shop layer's reference: what some shops lack, the worst of all sets. No conditions. -/
set_option linter.unusedSimpArgs false
set_option linter.unusedVariables false
namespace Go.Rt
theorem setsTo_len {shops : List Int} (h : shops.length ≤ 11) : ∀ k, k ≤ 12 → (setsTo shops k).length ≤ k * 285311670611
  | 0, _ => by simp [setsTo]
  | k + 1, hk => by
    have ih := setsTo_len h k (by omega)
    have h1 := choices_max (below := shops.length) (i := k) h (by omega)
    simp only [setsTo, setsMany, List.length_append, List.length_map]
    omega
theorem setsL_max {shops : List Int} (h : shops.length ≤ 11) : (setsL shops).length ≤ 3423740047332 := by
  have := setsTo_len h (shops.length + 1) (by omega)
  unfold setsL
  have h2 : (shops.length + 1) * 285311670611 ≤ 12 * 285311670611 := Nat.mul_le_mul (by omega) (by omega)
  omega
theorem pickL_len (shops x : List Int) : (pickL shops x).length = x.length := by simp [pickL]
theorem pickL_step {shops x : List Int} {j : Nat} (hj : j < x.length) (h : x[j].toNat < shops.length) : (pickL shops x).take (j + 1) = (pickL shops x).take j ++ [shops[x[j].toNat]] := by
  rw [List.take_succ_eq_append_getElem (by rw [pickL_len]; exact hj)]
  congr 2
  simp [pickL, List.getD, h]
theorem sets_step {shops : List Int} {k q : Nat} (h : q < (choices shops.length k).length) : setsTo shops k ++ ((choices shops.length k).take (q + 1)).map (pickL shops) = (setsTo shops k ++ ((choices shops.length k).take q).map (pickL shops)) ++ [pickL shops (choices shops.length k)[q]] := by
  rw [List.take_succ_eq_append_getElem h, List.map_append, List.append_assoc]; rfl
theorem setsTo_in {shops : List Int} : ∀ k, ∀ s ∈ setsTo shops k, s.length < k ∧ ∀ z ∈ s, z ∈ shops
  | 0, s, h => by simp [setsTo] at h
  | k + 1, s, h => by
    simp only [setsTo, List.mem_append] at h
    rcases h with h | h
    · have := setsTo_in k s h; exact ⟨by omega, this.2⟩
    · unfold setsMany at h
      obtain ⟨x, hx, rfl⟩ := List.mem_map.1 h
      have hc := choices_len k x hx
      refine ⟨by rw [pickL_len]; omega, fun z hz => ?_⟩
      unfold pickL at hz
      obtain ⟨y, hy, rfl⟩ := List.mem_map.1 hz
      have := hc.2 y hy
      have hl : y.toNat < shops.length := by omega
      simp only [List.getD, List.getElem?_eq_getElem hl, Option.getD_some]
      exact List.getElem_mem hl
theorem setsL_in {shops s : List Int} (h : s ∈ setsL shops) : s.length ≤ shops.length ∧ ∀ z ∈ s, z ∈ shops := by
  have := setsTo_in _ s h; exact ⟨by omega, this.2⟩
theorem setsL_pos (shops : List Int) : 1 ≤ (setsL shops).length := by
  have h : ∀ k, 1 ≤ (setsTo shops (k + 1)).length := by
    intro k
    induction k with
    | zero => simp [setsTo, setsMany, choices]
    | succ k ih => rw [setsTo, List.length_append]; omega
  exact h _
namespace Sh
/-! ### What some shops lack -/
def wantR (wants set : List Int) : Nat → Int
  | 0 => 0
  | i + 1 => wantR wants set i + wants.getD (set.getD i 0).toNat 0
def capRf (m : Market) (set : List Int) (fro r : Nat) : Nat → Int
  | 0 => 0
  | i + 1 => match m.trains[i]? with
    | some t => if fro ≤ i ∧ t.room = r ∧ hasI set t.shop = true ∧ leaves m t = true then capRf m set fro r i + t.cap else capRf m set fro r i
    | none => capRf m set fro r i
def handR (m : Market) (hands set : List Int) (fro : Nat) : Nat → Int
  | 0 => 0
  | r + 1 => handR m hands set fro r + min (hands.getD r 0) (capRf m set fro r m.trains.length)
def lackR (m : Market) (hands wants set : List Int) (fro : Nat) : Int := wantR wants set set.length - handR m hands set fro m.rooms.length
def worstR (m : Market) (hands wants shops : List Int) (fro : Nat) : List Int × Int := topTo (fun s => lackR m hands wants s fro) (setsL shops) (setsL shops).length
theorem wantR_step {wants set : List Int} {i : Nat} (hi : i < set.length) (h : set[i].toNat < wants.length) : wantR wants set (i + 1) = wantR wants set i + wants[set[i].toNat] := by
  simp [wantR, List.getD, hi, h]
theorem capRf_zero (m : Market) (set : List Int) (fro r : Nat) : ∀ i, i ≤ fro → capRf m set fro r i = 0
  | 0, _ => rfl
  | i + 1, h => by
    have ih := capRf_zero m set fro r i (by omega)
    unfold capRf
    cases m.trains[i]? with
    | none => exact ih
    | some t => dsimp only; rw [if_neg (by omega)]; exact ih
theorem capRf_yes {m : Market} {set : List Int} {fro r i : Nat} (hi : i < m.trains.length) (h : fro ≤ i ∧ m.trains[i].room = r ∧ hasI set m.trains[i].shop = true ∧ leaves m m.trains[i] = true) : capRf m set fro r (i + 1) = capRf m set fro r i + m.trains[i].cap := by
  simp only [capRf, List.getElem?_eq_getElem hi]; rw [if_pos h]
theorem capRf_no {m : Market} {set : List Int} {fro r i : Nat} (hi : i < m.trains.length) (h : ¬ (fro ≤ i ∧ m.trains[i].room = r ∧ hasI set m.trains[i].shop = true ∧ leaves m m.trains[i] = true)) : capRf m set fro r (i + 1) = capRf m set fro r i := by
  simp only [capRf, List.getElem?_eq_getElem hi]; rw [if_neg h]
theorem capRf_bound {m : Market} (hok : m.Ok) (set : List Int) (fro r : Nat) : ∀ i, i ≤ m.trains.length → 0 ≤ capRf m set fro r i ∧ capRf m set fro r i ≤ 60 * (i : Int)
  | 0, _ => by simp [capRf]
  | i + 1, hi => by
    have ih := capRf_bound hok set fro r i (by omega)
    have ht := hok.train _ (List.getElem_mem (show i < m.trains.length by omega))
    by_cases h : fro ≤ i ∧ (m.trains[i]'(by omega)).room = r ∧ hasI set (m.trains[i]'(by omega)).shop = true ∧ leaves m (m.trains[i]'(by omega)) = true
    · rw [capRf_yes (by omega) h]; omega
    · rw [capRf_no (by omega) h]; omega
theorem wantR_bound {wants : List Int} (hw : ∀ z ∈ wants, -10000 ≤ z ∧ z ≤ 10000) (set : List Int) : ∀ i : Nat, -(10000 * (i : Int)) ≤ wantR wants set i ∧ wantR wants set i ≤ 10000 * (i : Int)
  | 0 => by simp [wantR]
  | i + 1 => by
    have ih := wantR_bound hw set i
    have h1 := getD_in (by omega) (by omega) hw (set.getD i 0).toNat
    unfold wantR
    omega
theorem handR_bound {m : Market} (hok : m.Ok) {hands : List Int} (hh : ∀ z ∈ hands, -10000 ≤ z ∧ z ≤ 10000) (set : List Int) (fro : Nat) : ∀ i : Nat, -(10000 * (i : Int)) ≤ handR m hands set fro i ∧ handR m hands set fro i ≤ 10000 * (i : Int)
  | 0 => by simp [handR]
  | i + 1 => by
    have ih := handR_bound hok hh set fro i
    have h1 := getD_in (by omega) (by omega) hh i
    have h2 := capRf_bound hok set fro i m.trains.length (Nat.le_refl _)
    have := hok.lt
    unfold handR
    omega
theorem handR_step {m : Market} {hands set : List Int} {fro r : Nat} (h : r < hands.length) : handR m hands set fro (r + 1) = handR m hands set fro r + min hands[r] (capRf m set fro r m.trains.length) := by
  simp [handR, List.getD, h]
theorem lackR_bound {m : Market} (hok : m.Ok) {hands wants set : List Int} (hh : ∀ z ∈ hands, -10000 ≤ z ∧ z ≤ 10000) (hw : ∀ z ∈ wants, -10000 ≤ z ∧ z ≤ 10000) (hs : set.length ≤ 4) (fro : Nat) : -100000 ≤ lackR m hands wants set fro ∧ lackR m hands wants set fro ≤ 100000 := by
  have h1 := wantR_bound hw set set.length
  have h2 := handR_bound hok hh set fro m.rooms.length
  have := hok.lr
  unfold lackR
  omega
theorem topTo_bound {f : List Int → Int} {all : List (List Int)} (h : ∀ s ∈ all, f s ≤ 100000) : ∀ k, 0 ≤ (topTo f all k).2 ∧ (topTo f all k).2 ≤ 100000
  | 0 => by simp [topTo]
  | k + 1 => by
    have ih := topTo_bound h k
    simp only [topTo]
    split
    · simp
    · cases e : all[k]? with
      | none => exact ih
      | some l =>
        dsimp only [topStep]
        split
        · exact ⟨by have := ih.1; show 0 ≤ f l; omega, h l (List.mem_of_getElem? e)⟩
        · exact ih
end Sh
end Go.Rt
/- Plain words of the shop layer's reference: what Can, Proof, Without return. No conditions. -/
set_option linter.unusedSimpArgs false
set_option linter.unusedVariables false
namespace Go.Rt.Sh
def leastL (m : Market) : List Int := m.rooms.map (·.lo)
def mostL (m : Market) : List Int := m.rooms.map (·.hi)
def wantsL (m : Market) : List Int := m.shops.map (·.want)
theorem leastL_in {m : Market} (hok : m.Ok) : ∀ z ∈ leastL m, -10000 ≤ z ∧ z ≤ 10000 := by
  intro z hz; obtain ⟨r, hr, rfl⟩ := List.mem_map.1 hz; have := hok.room r hr; omega
theorem mostL_in {m : Market} (hok : m.Ok) : ∀ z ∈ mostL m, -10000 ≤ z ∧ z ≤ 10000 := by
  intro z hz; obtain ⟨r, hr, rfl⟩ := List.mem_map.1 hz; have := hok.room r hr; omega
theorem wantsL_in {m : Market} (hok : m.Ok) : ∀ z ∈ wantsL m, -10000 ≤ z ∧ z ≤ 10000 := by
  intro z hz; obtain ⟨r, hr, rfl⟩ := List.mem_map.1 hz; have := hok.shop r hr; omega
def servedR (m : Market) (hands shops : List Int) : Bool := decide ((worstR m hands (wantsL m) shops 0).2 = 0)
def askTo (m : Market) (l : List Int) (i : Nat) : Int := if (check m).2.2 ≠ 0 then (check m).2.2 else if (l.take i).any (out 0 (m.shops.length - 1)) then 4 else 0
def askedE (m : Market) (l : List Int) : Int := if askTo m l l.length = 0 ∧ rising m.shops.length (-1) l = false then 2 else askTo m l l.length
theorem askTo_zero (m : Market) (l : List Int) : askTo m l 0 = (check m).2.2 := by
  unfold askTo
  split
  · rfl
  · rename_i h; simp at h ⊢; exact h.symm
theorem askTo_chk {m : Market} {l : List Int} {i : Nat} (h : askTo m l i = 0) : (check m).2.2 = 0 := by
  unfold askTo at h
  split at h
  · rename_i h1; exact absurd h h1
  · rename_i h1; simpa using h1
theorem any_false {m : Market} {l : List Int} {i : Nat} (h : askTo m l i = 0) : (l.take i).any (out 0 (m.shops.length - 1)) = false := by
  unfold askTo at h
  rw [if_neg (by simpa using askTo_chk h)] at h
  split at h
  · cases h
  · rename_i h2; simpa using h2
theorem any_snoc {l : List Int} {f : Int → Bool} {i : Nat} (hi : i < l.length) : (l.take (i + 1)).any f = ((l.take i).any f || f l[i]) := by
  rw [List.take_succ_eq_append_getElem hi, List.any_append]; simp
theorem askTo_bad {m : Market} {l : List Int} {i : Nat} (hi : i < l.length) (h : askTo m l i = 0) (h2 : ¬ (0 ≤ l[i] ∧ l[i] ≤ (m.shops.length : Int) - 1)) : askTo m l (i + 1) = 4 := by
  have h1 := any_false h
  unfold askTo
  rw [if_neg (by simpa using askTo_chk h), any_snoc hi, h1]
  have : out 0 (m.shops.length - 1) l[i] = true := by simp [out]; omega
  rw [this]; rfl
theorem askTo_good {m : Market} {l : List Int} {i : Nat} (hi : i < l.length) (h : askTo m l i = 0) (h2 : 0 ≤ l[i] ∧ l[i] ≤ (m.shops.length : Int) - 1) : askTo m l (i + 1) = askTo m l i := by
  have h1 := any_false h
  rw [h]
  unfold askTo
  rw [if_neg (by simpa using askTo_chk h), any_snoc hi, h1]
  have : out 0 (m.shops.length - 1) l[i] = false := by simp [out]; omega
  rw [this]; rfl
theorem askTo_stop {m : Market} {l : List Int} {i : Nat} (hi : i ≤ l.length) (h : askTo m l i ≠ 0) : askTo m l l.length = askTo m l i := by
  unfold askTo at h ⊢
  by_cases h1 : (check m).2.2 ≠ 0
  · rw [if_pos h1, if_pos h1]
  · rw [if_neg h1] at h ⊢
    rw [if_neg h1]
    by_cases h2 : (l.take i).any (out 0 (m.shops.length - 1)) = true
    · rw [if_pos h2, if_pos]
      rw [List.take_length]
      obtain ⟨x, hx, hf⟩ := List.any_eq_true.1 h2
      exact List.any_eq_true.2 ⟨x, List.mem_of_mem_take hx, hf⟩
    · rw [if_neg h2] at h; exact absurd rfl h
theorem askedE_chk {m : Market} {l : List Int} (h : askedE m l = 0) : (check m).2.2 = 0 ∧ (∀ x ∈ l, 0 ≤ x ∧ x < m.shops.length) ∧ rising m.shops.length (-1) l = true := by
  unfold askedE at h
  split at h
  · cases h
  · rename_i h1
    have h2 := any_false h
    rw [List.take_length] at h2
    refine ⟨askTo_chk h, fun x hx => ?_, ?_⟩
    · have := List.any_eq_false.1 h2 x hx
      simp [out] at this; omega
    · cases hr : rising m.shops.length (-1) l with
      | true => rfl
      | false => exact absurd ⟨h, hr⟩ h1
theorem rising_len {n : Int} : ∀ (l : List Int) (p : Int), rising n p l = true → -1 ≤ p → p < n → (l.length : Int) + p + 1 ≤ n
  | [], p, _, _, h => by simp; omega
  | x :: l, p, h, hp, hn => by
    simp only [rising, Bool.and_eq_true, Bool.not_eq_true', Bool.or_eq_false_iff, decide_eq_false_iff_not] at h
    have := rising_len l x h.2 (by omega) (by omega)
    simp only [List.length_cons]; omega
theorem asked_len {m : Market} {l : List Int} (h : askedE m l = 0) : l.length ≤ m.shops.length := by
  obtain ⟨_, h2, h3⟩ := askedE_chk h
  match l, h2, h3 with
  | [], _, _ => simp
  | x :: l, h2, h3 =>
    have h0 := h2 x (.head _)
    have := rising_len (x :: l) (-1) h3 (by omega) (by omega)
    omega
def canR (m : Market) (l : List Int) : Int × Int := if askedE m l ≠ 0 then (0, askedE m l) else if servedR m (leastL m) l then (1, 0) else if servedR m (mostL m) l = false then (2, 0) else (0, 0)
def proofR (m : Market) (l : List Int) : List Int × Int × Int := if askedE m l ≠ 0 then ([], 0, askedE m l) else if (worstR m (leastL m) (wantsL m) l 0).2 = 0 then ([], 0, 9) else ((worstR m (leastL m) (wantsL m) l 0).1, (worstR m (leastL m) (wantsL m) l 0).2, 0)
/-- The first of some sets without which the others are served. -/
def firstW (m : Market) : List (List Int) → List Int
  | [] => []
  | s :: r => if servedR m (leastL m) (othersTo s m.shops.length) then s else firstW m r
def withoutR (m : Market) : List Int × Int := if (check m).2.2 ≠ 0 then ([], (check m).2.2) else (firstW m (setsL (othersTo [] m.shops.length)), 0)
theorem firstW_here {m : Market} {l : List (List Int)} {i : Nat} (hi : i < l.length) (h : servedR m (leastL m) (othersTo l[i] m.shops.length) = true) : firstW m (l.drop i) = l[i] := by
  rw [List.drop_eq_getElem_cons hi, firstW, if_pos h]
theorem firstW_on {m : Market} {l : List (List Int)} {i : Nat} (hi : i < l.length) (h : servedR m (leastL m) (othersTo l[i] m.shops.length) = false) : firstW m (l.drop i) = firstW m (l.drop (i + 1)) := by
  rw [List.drop_eq_getElem_cons hi, firstW, if_neg (by simp [h])]
theorem firstW_end {m : Market} {l : List (List Int)} {i : Nat} (hi : l.length ≤ i) : firstW m (l.drop i) = [] := by rw [List.drop_of_length_le hi]; rfl
theorem othersTo_in (l : List Int) : ∀ n, ∀ z ∈ othersTo l n, 0 ≤ z ∧ z < n
  | 0, z, h => by simp [othersTo] at h
  | n + 1, z, h => by
    unfold othersTo at h
    split at h
    · have := othersTo_in l n z h; omega
    · rcases List.mem_append.1 h with h | h
      · have := othersTo_in l n z h; omega
      · simp at h; omega
end Go.Rt.Sh
/- Loads of trains from rooms to shops: if no shops lack anything, there is a load that serves them, train by train. Plain numbers. No conditions. -/
set_option linter.unusedSimpArgs false
set_option linter.unusedVariables false
namespace Go.Rt.Sh
def sumN : Nat → (Nat → Int) → Int
  | 0, _ => 0
  | n + 1, f => sumN n f + f n
structure Tr where
  room : Nat
  shop : Nat
  cap : Int
def capR (T : List Tr) (s : Nat → Bool) (r : Nat) : Int := T.foldr (fun t n => (if t.room = r ∧ s t.shop = true then t.cap else 0) + n) 0
def lk (R S : Nat) (T : List Tr) (h w : Nat → Int) (s : Nat → Bool) : Int := sumN S (fun i => if s i then w i else 0) - sumN R (fun r => min (h r) (capR T s r))
def Sub (a b : Nat → Bool) : Prop := ∀ i, a i = true → b i = true
def NoLack (R S : Nat) (T : List Tr) (h w : Nat → Int) (sh : Nat → Bool) : Prop := ∀ s, Sub s sh → lk R S T h w s ≤ 0
def put (f : Nat → Int) (i : Nat) (v : Int) : Nat → Int := fun j => if j = i then v else f j
theorem sumN_congr {f g : Nat → Int} : ∀ (n : Nat), (∀ i, i < n → f i = g i) → sumN n f = sumN n g
  | 0, _ => rfl
  | n + 1, h => by simp only [sumN]; rw [sumN_congr n fun i hi => h i (by omega), h n (by omega)]
theorem sumN_le {f g : Nat → Int} : ∀ (n : Nat), (∀ i, i < n → f i ≤ g i) → sumN n f ≤ sumN n g
  | 0, _ => by simp [sumN]
  | n + 1, h => by
    simp only [sumN]
    have h1 := sumN_le n fun i hi => h i (by omega)
    have h2 := h n (by omega)
    omega
theorem sumN_add (f g : Nat → Int) : ∀ n, sumN n f + sumN n g = sumN n (fun i => f i + g i)
  | 0 => rfl
  | n + 1 => by simp only [sumN]; have := sumN_add f g n; omega
theorem sumN_zero : ∀ n, sumN n (fun _ => 0) = 0
  | 0 => rfl
  | n + 1 => by simp only [sumN]; rw [sumN_zero n]; rfl
theorem sumN_split (f : Nat → Int) (k : Nat) : ∀ n, k < n → sumN n f = sumN n (fun i => if i = k then 0 else f i) + f k
  | 0, h => by omega
  | n + 1, h => by
    simp only [sumN]
    by_cases e : n = k
    · subst e
      rw [if_pos rfl]
      have : sumN n f = sumN n (fun i => if i = n then 0 else f i) := sumN_congr n fun i hi => by rw [if_neg (by omega)]
      omega
    · rw [if_neg e]
      have := sumN_split f k n (by omega)
      omega
theorem capR_cons (t : Tr) (T : List Tr) (s : Nat → Bool) (r : Nat) : capR (t :: T) s r = (if t.room = r ∧ s t.shop = true then t.cap else 0) + capR T s r := rfl
theorem capR_mono {T : List Tr} (hc : ∀ t ∈ T, 0 ≤ t.cap) {a b : Nat → Bool} (h : Sub a b) (r : Nat) : capR T a r ≤ capR T b r := by
  induction T with
  | nil => simp [capR]
  | cons t T ih =>
    rw [capR_cons, capR_cons]
    have h1 := ih fun t ht => hc t (.tail _ ht)
    have h2 := hc t (.head _)
    by_cases ha : t.room = r ∧ a t.shop = true
    · rw [if_pos ha, if_pos ⟨ha.1, h _ ha.2⟩]; omega
    · rw [if_neg ha]; split <;> omega
theorem capR_nn {T : List Tr} (hc : ∀ t ∈ T, 0 ≤ t.cap) (a : Nat → Bool) (r : Nat) : 0 ≤ capR T a r := by
  induction T with
  | nil => simp [capR]
  | cons t T ih =>
    rw [capR_cons]
    have h1 := ih fun t ht => hc t (.tail _ ht)
    have h2 := hc t (.head _)
    split <;> omega
theorem capR_mod (T : List Tr) (a b : Nat → Bool) (r : Nat) : capR T (fun i => a i || b i) r + capR T (fun i => a i && b i) r = capR T a r + capR T b r := by
  induction T with
  | nil => simp [capR]
  | cons t T ih =>
    simp only [capR_cons]
    by_cases h : t.room = r
    · cases ha : a t.shop <;> cases hb : b t.shop <;> simp [h, ha, hb] <;> omega
    · simp [h]; exact ih
theorem capR_congr {T : List Tr} {a b : Nat → Bool} {r : Nat} (h : ∀ t ∈ T, a t.shop = b t.shop) : capR T a r = capR T b r := by
  induction T with
  | nil => rfl
  | cons t T ih =>
    rw [capR_cons, capR_cons, ih fun t ht => h t (.tail _ ht), h t (.head _)]
theorem lk_split {R S : Nat} {T : List Tr} {h w : Nat → Int} {s : Nat → Bool} {p : Nat} (hp : p < R) : lk R S T h w s = sumN S (fun i => if s i then w i else 0) - sumN R (fun r => if r = p then 0 else min (h r) (capR T s r)) - min (h p) (capR T s p) := by
  unfold lk
  rw [sumN_split _ p R hp]
  omega
/-- What all but one room give. -/
def rst (R : Nat) (T : List Tr) (h : Nat → Int) (p : Nat) (s : Nat → Bool) : Int := sumN R (fun r => if r = p then 0 else min (h r) (capR T s r))
def wsum (S : Nat) (w : Nat → Int) (s : Nat → Bool) : Int := sumN S (fun i => if s i then w i else 0)
theorem lk_eq {R S : Nat} {T : List Tr} {h w : Nat → Int} {s : Nat → Bool} {p : Nat} (hp : p < R) : lk R S T h w s = wsum S w s - rst R T h p s - min (h p) (capR T s p) := lk_split hp
theorem rst_cons {R : Nat} {t : Tr} {T : List Tr} {h : Nat → Int} {s : Nat → Bool} : rst R (t :: T) h t.room s = rst R T h t.room s := by
  unfold rst
  refine sumN_congr R fun r _ => ?_
  by_cases e : r = t.room
  · rw [if_pos e, if_pos e]
  · rw [if_neg e, if_neg e, capR_cons, if_neg (fun hh => e hh.1.symm)]; simp
theorem rst_put {R : Nat} {T : List Tr} {h : Nat → Int} {p : Nat} {s : Nat → Bool} (v : Int) : rst R T (put h p v) p s = rst R T h p s := by
  unfold rst
  refine sumN_congr R fun r _ => ?_
  by_cases e : r = p
  · rw [if_pos e, if_pos e]
  · rw [if_neg e, if_neg e]; unfold put; rw [if_neg e]
theorem rst_sub {R : Nat} {T : List Tr} {h : Nat → Int} (hc : ∀ t ∈ T, 0 ≤ t.cap) (p : Nat) (a b : Nat → Bool) : rst R T h p (fun i => a i || b i) + rst R T h p (fun i => a i && b i) ≤ rst R T h p a + rst R T h p b := by
  unfold rst
  rw [sumN_add, sumN_add]
  refine sumN_le R fun r _ => ?_
  by_cases e : r = p
  · simp [e]
  · simp only [if_neg e]
    have h1 := capR_mod T a b r
    have h2 := capR_mono (r := r) hc (a := fun i => a i && b i) (b := a) (fun i hi => by simp at hi; exact hi.1)
    have h3 := capR_mono (r := r) hc (a := fun i => a i && b i) (b := b) (fun i hi => by simp at hi; exact hi.2)
    omega
theorem rst_mono {R : Nat} {T : List Tr} {h : Nat → Int} (hc : ∀ t ∈ T, 0 ≤ t.cap) (p : Nat) {a b : Nat → Bool} (hs : Sub a b) : rst R T h p a ≤ rst R T h p b := by
  unfold rst
  refine sumN_le R fun r _ => ?_
  by_cases e : r = p
  · simp [e]
  · simp only [if_neg e]
    have := capR_mono (r := r) hc hs
    omega
theorem wsum_mod (S : Nat) (w : Nat → Int) (a b : Nat → Bool) : wsum S w (fun i => a i || b i) + wsum S w (fun i => a i && b i) = wsum S w a + wsum S w b := by
  unfold wsum
  rw [sumN_add, sumN_add]
  refine sumN_congr S fun i _ => ?_
  cases ha : a i <;> cases hb : b i <;> simp [ha, hb]
theorem wsum_put {S : Nat} {w : Nat → Int} {s : Nat → Bool} {q : Nat} (hq : q < S) (n : Int) : wsum S (put w q (w q - n)) s = wsum S w s - (if s q then n else 0) := by
  unfold wsum
  rw [sumN_split _ q S hq, sumN_split (fun i => if s i then w i else 0) q S hq]
  have : sumN S (fun i => if i = q then 0 else if s i then put w q (w q - n) i else 0) = sumN S (fun i => if i = q then 0 else if s i then w i else 0) := sumN_congr S fun i _ => by
    by_cases e : i = q
    · simp [e]
    · simp [e, put]
  rw [this]
  unfold put
  simp only [if_true]
  split <;> omega
theorem wsum_del {S : Nat} {w : Nat → Int} {s : Nat → Bool} {q : Nat} (hq : q < S) (hs : s q = true) : wsum S w s = wsum S w (fun i => s i && !Nat.beq i q) + w q := by
  unfold wsum
  rw [sumN_split _ q S hq, sumN_split (fun i => if s i && !Nat.beq i q then w i else 0) q S hq]
  have : sumN S (fun i => if i = q then 0 else if s i then w i else 0) = sumN S (fun i => if i = q then 0 else if s i && !Nat.beq i q then w i else 0) := sumN_congr S fun i _ => by
    by_cases e : i = q
    · simp [e]
    · have : Nat.beq i q = false := by cases hb : Nat.beq i q; rfl; exact absurd (Nat.eq_of_beq_eq_true hb) e
      simp [e, this]
  rw [this]
  simp [hs]
/-- One train: if no shops lack anything, it can carry so many that none lack anything behind it. -/
theorem one_train {R S : Nat} {t : Tr} {T : List Tr} {h w : Nat → Int} {sh : Nat → Bool} (hr : t.room < R) (hs : t.shop < S) (hc : 0 ≤ t.cap) (hT : ∀ t ∈ T, 0 ≤ t.cap) (hh : ∀ r, 0 ≤ h r) (hw : ∀ i, 0 ≤ w i)
    (hsh : sh t.shop = true) (hn : NoLack R S (t :: T) h w sh) : ∃ n : Nat, (n : Int) ≤ t.cap ∧ (n : Int) ≤ h t.room ∧ (n : Int) ≤ w t.shop ∧ NoLack R S T (put h t.room (h t.room - n)) (put w t.shop (w t.shop - n)) sh := by
  have hT' : ∀ u ∈ t :: T, 0 ≤ u.cap := by
    intro u hu
    cases hu with
    | head => exact hc
    | tail _ hu => exact hT u hu
  -- what is known of each set
  have base : ∀ s, Sub s sh → wsum S w s - rst R T h t.room s ≤ h t.room ∧ wsum S w s - rst R T h t.room s ≤ (if s t.shop = true then t.cap else 0) + capR T s t.room := by
    intro s hss
    have h1 := hn s hss
    rw [lk_eq hr, rst_cons, capR_cons] at h1
    by_cases e : s t.shop = true
    · rw [if_pos ⟨rfl, e⟩] at h1; rw [if_pos e]; omega
    · rw [if_neg (fun hh => e hh.2)] at h1; rw [if_neg e]; omega
  -- the least number
  let Q : Nat → Prop := fun n => ∀ s, Sub s sh → s t.shop = true → wsum S w s - rst R T h t.room s - capR T s t.room ≤ (n : Int)
  have hQ : ∃ n, Q n := ⟨t.cap.toNat, fun s hss e => by
    have := (base s hss).2
    rw [if_pos e] at this
    omega⟩
  obtain ⟨n, hQn, hmin⟩ : ∃ n, Q n ∧ ∀ m, m < n → ¬ Q m := by
    obtain ⟨k, hk⟩ := hQ
    have key : ∀ k, Q k → ∃ n, Q n ∧ ∀ m, m < n → ¬ Q m := by
      intro k
      induction k using Nat.strongRecOn with
      | _ k ih =>
        intro hk
        by_cases hex : ∃ m, m < k ∧ Q m
        · obtain ⟨m, hm, hq⟩ := hex; exact ih m hm hq
        · exact ⟨k, hk, fun m hm hq => hex ⟨m, hm, hq⟩⟩
    exact key k hk
  -- a set that makes it the least
  have hA : n = 0 ∨ ∃ A, Sub A sh ∧ A t.shop = true ∧ wsum S w A - rst R T h t.room A - capR T A t.room = (n : Int) := by
    by_cases h0 : n = 0
    · exact .inl h0
    · right
      have := hmin (n - 1) (by omega)
      simp only [Q] at this
      have ⟨A, hA⟩ := Classical.not_forall.1 this
      have ⟨hA1, hA⟩ := Classical.not_forall.1 hA
      have ⟨hA2, hA⟩ := Classical.not_forall.1 hA
      have := hQn A hA1 hA2
      exact ⟨A, hA1, hA2, by omega⟩
  have ncap : (n : Int) ≤ t.cap := by
    rcases hA with rfl | ⟨A, a1, a2, a3⟩
    · simpa using hc
    · have := (base A a1).2; rw [if_pos a2] at this; omega
  have hex : ∀ B, Sub B sh → B t.shop = false → (n : Int) ≤ h t.room - wsum S w B + rst R T h t.room B := by
    intro B hB hB2
    have hb := (base B hB).1
    rcases hA with rfl | ⟨A, a1, a2, a3⟩
    · simp; omega
    · have h1 := wsum_mod S w A B
      have h2 := rst_sub (R := R) (h := h) hT t.room A B
      have h3 := (base (fun i => A i || B i) (fun i hi => by simp at hi; rcases hi with hi | hi; exact a1 i hi; exact hB i hi)).1
      have h4 := (base (fun i => A i && B i) (fun i hi => by simp at hi; exact a1 i hi.1)).2
      rw [if_neg (by simp [hB2])] at h4
      have h5 := capR_mono (r := t.room) hT (a := fun i => A i && B i) (b := A) (fun i hi => by simp at hi; exact hi.1)
      omega
  have nh : (n : Int) ≤ h t.room := by
    have h1 := hex (fun _ => false) (fun i hi => by cases hi) rfl
    have e1 : wsum S w (fun _ => false) = 0 := by unfold wsum; simp [sumN_zero]
    have e2 : rst R T h t.room (fun _ => false) ≤ 0 := by
      have hle : rst R T h t.room (fun _ => false) ≤ sumN R (fun _ => 0) := by
       unfold rst
       refine sumN_le R fun r _ => ?_
       show (if r = t.room then (0 : Int) else min (h r) (capR T (fun _ => false) r)) ≤ 0
       have : capR T (fun _ => false) r = 0 := by
        clear hn hT hT' base hQ hQn hmin hA ncap hex h1
        induction T with
        | nil => rfl
        | cons u T ih => rw [capR_cons, ih]; simp
       rw [this]
       have := hh r
       split <;> omega
      rwa [sumN_zero] at hle
    omega
  have nw : (n : Int) ≤ w t.shop := by
    rcases hA with rfl | ⟨A, a1, a2, a3⟩
    · simpa using hw _
    · have h1 := wsum_del (w := w) hs a2
      have hsub : Sub (fun i => A i && !Nat.beq i t.shop) A := fun i hi => by simp at hi; exact hi.1
      have h2 := (base (fun i => A i && !Nat.beq i t.shop) (fun i hi => a1 i (hsub i hi))).2
      rw [if_neg (by simp)] at h2
      have h3 := rst_mono (R := R) (h := h) hT t.room hsub
      have h4 := capR_mono (r := t.room) hT hsub
      omega
  refine ⟨n, ncap, nh, nw, fun s hss => ?_⟩
  rw [lk_eq hr, rst_put, wsum_put hs]
  have hb := base s hss
  have e : put h t.room (h t.room - n) t.room = h t.room - n := by unfold put; rw [if_pos rfl]
  rw [e]
  by_cases es : s t.shop = true
  · rw [if_pos es] at hb ⊢
    have := hQn s hss es
    omega
  · rw [if_neg es] at hb ⊢
    have := hex s hss (by simpa using es)
    omega
end Go.Rt.Sh
/- Plain laws of the shop layer: what sets lack, as the program and as the reference sum it, is the same; so are the worst sets. No conditions. -/
set_option linter.unusedSimpArgs false
set_option linter.unusedVariables false
namespace Go.Rt.Sh
def toTr (t : Train) : Tr := ⟨t.room.toNat, t.shop.toNat, t.cap⟩
/-- The trains that go, from one on and below another one. -/
def trsTo (m : Market) (fro : Nat) : Nat → List Tr
  | 0 => []
  | i + 1 => match m.trains[i]? with
    | some t => if fro ≤ i ∧ leaves m t = true then trsTo m fro i ++ [toTr t] else trsTo m fro i
    | none => trsTo m fro i
def trs (m : Market) (fro : Nat) : List Tr := trsTo m fro m.trains.length
def bset (b : Nat) : Nat → Bool := fun i => decide (bit b i = 1)
theorem capR_snoc (T : List Tr) (t : Tr) (s : Nat → Bool) (r : Nat) : capR (T ++ [t]) s r = capR T s r + (if t.room = r ∧ s t.shop = true then t.cap else 0) := by
  induction T with
  | nil => simp [capR]
  | cons u T ih => rw [List.cons_append, capR_cons, capR_cons, ih]; omega
theorem bit_or (b j : Nat) : bit b j = 0 ∨ bit b j = 1 := by have := bit_le b j; omega
theorem capsU_capR {m : Market} (hok : m.Ok) (fro b r : Nat) (hr : r < 3) : ∀ i, i ≤ m.trains.length → (capsU m fro b i).getD r 0 = capR (trsTo m fro i) (bset b) r
  | 0, _ => by
    have : r = 0 ∨ r = 1 ∨ r = 2 := by omega
    rcases this with rfl | rfl | rfl <;> rfl
  | i + 1, hi => by
    have ih := capsU_capR hok fro b r hr i (by omega)
    have hil : i < m.trains.length := by omega
    have ht := hok.train _ (List.getElem_mem hil)
    have hlr := hok.lr
    have hl := capsU_len m fro b i
    simp only [trsTo, List.getElem?_eq_getElem hil]
    by_cases h : (i : Int) < (fro : Int) ∨ bit b m.trains[i].shop.toNat = 0 ∨ leaves m m.trains[i] = false
    · rw [capsU_skip hil h, ih]
      by_cases h1 : fro ≤ i ∧ leaves m m.trains[i] = true
      · rw [if_pos h1, capR_snoc]
        have h2 : bit b m.trains[i].shop.toNat = 0 := by
          rcases h with h | h | h
          · omega
          · exact h
          · rw [h1.2] at h; cases h
        rw [if_neg]
        · omega
        · rintro ⟨_, h3⟩
          have h4 : bit b m.trains[i].shop.toNat = 1 := of_decide_eq_true h3
          omega
      · rw [if_neg h1]
    · rw [capsU_add hil h]
      simp only [not_or, Int.not_lt, Bool.not_eq_false] at h
      rw [if_pos ⟨by omega, h.2.2⟩, capR_snoc]
      have hb : bset b m.trains[i].shop.toNat = true := by
        have := bit_or b m.trains[i].shop.toNat
        simp only [bset, decide_eq_true_eq]
        rcases this with h1 | h1
        · exact absurd h1 h.2.1
        · exact h1
      by_cases e : m.trains[i].room.toNat = r
      · rw [if_pos ⟨e, hb⟩, e, getD_set (by omega), ih]; rfl
      · rw [if_neg (fun hh => e hh.1), getD_other e, ih]; omega
theorem hasI_listL (b : Nat) : ∀ (n : Nat) (z : Int), hasI (listL b n) z = true ↔ 0 ≤ z ∧ z < n ∧ bit b z.toNat = 1
  | 0, z => by simp [listL, hasI]; omega
  | n + 1, z => by
    have ih := hasI_listL b n z
    have e : hasI (listL b (n + 1)) z = (hasI (listL b n) z || (decide (bit b n = 1) && decide ((n : Int) = z))) := by
      by_cases h : bit b n = 1
      · simp [hasI, listL, List.any_append, h]
      · simp [hasI, listL, List.any_append, h]
    rw [e, Bool.or_eq_true, ih, Bool.and_eq_true, decide_eq_true_eq, decide_eq_true_eq]
    constructor
    · rintro (h | ⟨h1, rfl⟩)
      · omega
      · refine ⟨by omega, by omega, by simpa using h1⟩
    · rintro ⟨h1, h2, h3⟩
      by_cases hz : z = n
      · right; subst hz; exact ⟨by simpa using h3, rfl⟩
      · left; exact ⟨h1, by omega, h3⟩
theorem capRf_capR {m : Market} (hok : m.Ok) (fro b r : Nat) : ∀ i, i ≤ m.trains.length → capRf m (listL b m.shops.length) fro r i = capR (trsTo m fro i) (bset b) r
  | 0, _ => rfl
  | i + 1, hi => by
    have ih := capRf_capR hok fro b r i (by omega)
    have hil : i < m.trains.length := by omega
    have ht := hok.train _ (List.getElem_mem hil)
    have hh := hasI_listL b m.shops.length m.trains[i].shop
    simp only [trsTo, capRf, List.getElem?_eq_getElem hil]
    by_cases h1 : fro ≤ i ∧ leaves m m.trains[i] = true
    · rw [if_pos h1, capR_snoc, ih]
      by_cases h2 : m.trains[i].room = (r : Int) ∧ bit b m.trains[i].shop.toNat = 1
      · rw [if_pos ⟨h1.1, h2.1, hh.2 ⟨by omega, by omega, h2.2⟩, h1.2⟩, if_pos]
        · rfl
        · exact ⟨by simp only [toTr]; omega, by unfold bset; exact decide_eq_true h2.2⟩
      · rw [if_neg, if_neg]
        · omega
        · rintro ⟨h3, h4⟩
          unfold bset at h4
          simp only [toTr] at h3
          exact h2 ⟨by omega, of_decide_eq_true h4⟩
        · rintro ⟨_, h3, h4, _⟩
          exact h2 ⟨h3, (hh.1 h4).2.2⟩
    · rw [if_neg h1, if_neg, ih]
      rintro ⟨h3, _, _, h4⟩
      exact h1 ⟨h3, h4⟩
theorem wantR_pre (wants l : List Int) (z : Int) : ∀ i, i ≤ l.length → wantR wants (l ++ [z]) i = wantR wants l i
  | 0, _ => rfl
  | i + 1, h => by
    simp only [wantR]
    rw [wantR_pre wants l z i (by omega)]
    congr 3
    simp [List.getD, List.getElem?_append_left (show i < l.length by omega)]
theorem wantR_snoc (wants l : List Int) (z : Int) : wantR wants (l ++ [z]) (l ++ [z]).length = wantR wants l l.length + wants.getD z.toNat 0 := by
  rw [List.length_append, List.length_singleton]
  simp only [wantR]
  rw [wantR_pre wants l z _ (Nat.le_refl _)]
  congr 2
  simp [List.getD]
theorem wantR_sum (wants : List Int) (b : Nat) : ∀ n, wantR wants (listL b n) (listL b n).length = sumN n (fun i => if bset b i then wants.getD i 0 else 0)
  | 0 => rfl
  | n + 1 => by
    have ih := wantR_sum wants b n
    simp only [sumN]
    by_cases h : bit b n = 1
    · rw [listL_yes h, wantR_snoc, ih]; simp [bset, h]
    · rw [listL_no h, ih]; simp [bset, h]
theorem handR_sum {m : Market} (hok : m.Ok) (hands : List Int) (b fro : Nat) : ∀ n, handR m hands (listL b m.shops.length) fro n = sumN n (fun r => min (hands.getD r 0) (capR (trs m fro) (bset b) r))
  | 0 => rfl
  | n + 1 => by
    have ih := handR_sum hok hands b fro n
    simp only [handR, sumN, ih, capRf_capR hok fro b n _ (Nat.le_refl _)]; rfl
/-- The reference's sum. -/
theorem lackR_lk {m : Market} (hok : m.Ok) (hands wants : List Int) (b fro : Nat) : lackR m hands wants (listL b m.shops.length) fro = lk m.rooms.length m.shops.length (trs m fro) (fun r => hands.getD r 0) (fun i => wants.getD i 0) (bset b) := by
  unfold lackR lk; rw [wantR_sum, handR_sum hok]
theorem wantU_sum (x : List Int) (b : Nat) : ∀ n, wantU x b n = sumN n (fun i => if bset b i then x.getD (3 + i) 0 else 0)
  | 0 => rfl
  | n + 1 => by
    simp only [wantU, sumN, wantU_sum x b n]
    rcases bit_or b n with h | h <;> simp [bset, h]
theorem handU_sum (c x : List Int) (g : Nat → Int) (h : ∀ r < 3, c.getD r 0 = g r) : ∀ n, n ≤ 3 → handU c x n = sumN n (fun r => min (x.getD r 0) (g r))
  | 0, _ => rfl
  | n + 1, hn => by
    simp only [handU, sumN, handU_sum c x g h n (by omega), h n (by omega)]; omega
/-- The program's sum. -/
theorem lackB_lk {m : Market} (hok : m.Ok) (x : List Int) (b fro : Nat) (h7 : x.getD 7 0 = fro) : lackB m x b = lk 3 4 (trs m fro) (fun r => x.getD r 0) (fun i => x.getD (3 + i) 0) (bset b) := by
  unfold lackB lk
  rw [wantU_sum, h7, handU_sum _ x (fun r => capR (trs m fro) (bset b) r) (fun r hr => capsU_capR hok fro b r hr _ (Nat.le_refl _)) 3 (Nat.le_refl _)]
theorem trsTo_mem {m : Market} {fro : Nat} {t : Tr} : ∀ i, t ∈ trsTo m fro i → ∃ u ∈ m.trains, t = toTr u ∧ leaves m u = true
  | 0, h => by simp [trsTo] at h
  | i + 1, h => by
    unfold trsTo at h
    cases e : m.trains[i]? with
    | none => rw [e] at h; exact trsTo_mem i h
    | some u =>
      rw [e] at h
      dsimp only at h
      split at h
      · rename_i h1
        rcases List.mem_append.1 h with h | h
        · exact trsTo_mem i h
        · simp at h; exact ⟨u, List.mem_of_getElem? e, h, h1.2⟩
      · exact trsTo_mem i h
theorem trs_fine {m : Market} (hok : m.Ok) {fro : Nat} {t : Tr} (h : t ∈ trs m fro) : t.room < m.rooms.length ∧ t.shop < m.shops.length ∧ 0 ≤ t.cap ∧ t.cap ≤ 60 := by
  obtain ⟨u, hu, rfl, _⟩ := trsTo_mem _ h
  have := hok.train u hu
  simp only [toTr]; omega
theorem capR_out {T : List Tr} {s : Nat → Bool} {r : Nat} (h : ∀ t ∈ T, t.room ≠ r) : capR T s r = 0 := by
  induction T with
  | nil => rfl
  | cons t T ih => rw [capR_cons, ih fun t ht => h t (.tail _ ht), if_neg (fun hh => h t (.head _) hh.1)]; rfl
theorem sumN_more (f : Nat → Int) {n : Nat} : ∀ k, (∀ i, n ≤ i → f i = 0) → sumN (n + k) f = sumN n f
  | 0, _ => rfl
  | k + 1, h => by rw [← Nat.add_assoc]; simp only [sumN]; rw [sumN_more f k h, h (n + k) (by omega)]; omega
theorem lk_wide {m : Market} (hok : m.Ok) (fro : Nat) (h w : Nat → Int) (hh : ∀ r, m.rooms.length ≤ r → 0 ≤ h r) (hw : ∀ i, m.shops.length ≤ i → w i = 0) (s : Nat → Bool) : lk 3 4 (trs m fro) h w s = lk m.rooms.length m.shops.length (trs m fro) h w s := by
  unfold lk
  have h1 := hok.lr
  have h2 := hok.ls
  obtain ⟨a, ha⟩ : ∃ a, 3 = m.rooms.length + a := ⟨3 - m.rooms.length, by omega⟩
  obtain ⟨c, hc⟩ : ∃ c, 4 = m.shops.length + c := ⟨4 - m.shops.length, by omega⟩
  rw [ha, hc, sumN_more _ c (fun i hi => by rw [hw i hi]; simp), sumN_more _ a (fun r hr => by
    rw [capR_out fun t ht e => by have := (trs_fine hok ht).1; omega]
    have := hh r hr
    omega)]
/-- What is left, told as the program tells it. -/
def packX (hands wants : List Int) (fro : Nat) : List Int := [hands.getD 0 0, hands.getD 1 0, hands.getD 2 0, wants.getD 0 0, wants.getD 1 0, wants.getD 2 0, wants.getD 3 0, (fro : Int)]
theorem packX_hand (hands wants : List Int) (fro : Nat) {r : Nat} (h : r < 3) : (packX hands wants fro).getD r 0 = hands.getD r 0 := by
  have : r = 0 ∨ r = 1 ∨ r = 2 := by omega
  rcases this with rfl | rfl | rfl <;> rfl
theorem packX_want (hands wants : List Int) (fro : Nat) {r : Nat} (h : r < 4) : (packX hands wants fro).getD (3 + r) 0 = wants.getD r 0 := by
  have : r = 0 ∨ r = 1 ∨ r = 2 ∨ r = 3 := by omega
  rcases this with rfl | rfl | rfl | rfl <;> rfl
theorem lk_congr {R S : Nat} {T : List Tr} {h h' w w' : Nat → Int} {s : Nat → Bool} (h1 : ∀ r < R, h r = h' r) (h2 : ∀ i < S, w i = w' i) : lk R S T h w s = lk R S T h' w' s := by
  unfold lk
  rw [sumN_congr S fun i hi => by rw [h2 i hi], sumN_congr R fun r hr => by rw [h1 r hr]]
theorem lack_same {m : Market} (hok : m.Ok) {hands wants : List Int} (hh : hands.length = m.rooms.length) (hw : wants.length = m.shops.length) (b fro : Nat) : lackR m hands wants (listL b m.shops.length) fro = lackB m (packX hands wants fro) b := by
  rw [lackR_lk hok, lackB_lk hok (packX hands wants fro) b fro rfl, lk_congr (h' := fun r => hands.getD r 0) (w' := fun i => wants.getD i 0) (fun r hr => packX_hand _ _ _ hr) (fun i hi => packX_want _ _ _ hi),
    lk_wide hok fro _ _ (fun r hr => by simp [List.getD, List.getElem?_eq_none (show hands.length ≤ r by omega)]) (fun i hi => by simp [List.getD, List.getElem?_eq_none (show wants.length ≤ i by omega)])]
theorem capR_none (T : List Tr) (r : Nat) : capR T (bset 0) r = 0 := by
  induction T with
  | nil => rfl
  | cons t T ih => rw [capR_cons, ih, if_neg]; rfl; rintro ⟨_, h⟩; simp [bset, bit] at h
theorem lackB_zero {m : Market} (hok : m.Ok) {x : List Int} {fro : Nat} (h7 : x.getD 7 0 = fro) (hn : ∀ z ∈ x, 0 ≤ z) : lackB m x 0 = 0 := by
  rw [lackB_lk hok x 0 fro h7]
  have hg : ∀ r, 0 ≤ x.getD r 0 := fun r => by
    by_cases hl : r < x.length
    · have := hn _ (List.getElem_mem hl); simpa [List.getD, hl] using this
    · simp [List.getD, hl]
  unfold lk
  rw [sumN_congr (g := fun _ => 0) 4 fun i hi => by simp [bset, bit], sumN_congr (g := fun _ => 0) 3 fun r hr => by
    dsimp only
    rw [capR_none]
    have := hg r
    omega]
  rw [sumN_zero, sumN_zero]; rfl
theorem getD_nn {l : List Int} (h : ∀ z ∈ l, 0 ≤ z) (r : Nat) : 0 ≤ l.getD r 0 := by
  by_cases hl : r < l.length
  · have := h _ (List.getElem_mem hl); simpa [List.getD, hl] using this
  · simp [List.getD, hl]
theorem packX_nn {hands wants : List Int} {fro : Nat} (h1 : ∀ z ∈ hands, 0 ≤ z) (h2 : ∀ z ∈ wants, 0 ≤ z) : ∀ z ∈ packX hands wants fro, 0 ≤ z := by
  intro z hz
  simp only [packX, List.mem_cons, List.not_mem_nil, or_false] at hz
  rcases hz with rfl | rfl | rfl | rfl | rfl | rfl | rfl | rfl
  · exact getD_nn h1 _
  · exact getD_nn h1 _
  · exact getD_nn h1 _
  · exact getD_nn h2 _
  · exact getD_nn h2 _
  · exact getD_nn h2 _
  · exact getD_nn h2 _
  · omega
theorem sub_small : ∀ n < 5, ∀ sub < 16, sub < 2 ^ n → ∀ b < 16, bitDiff b sub = 0 → b < 2 ^ n := by
  have h : ∀ n < 5, ∀ sub < 16, sub < 2 ^ n → ((List.range 16).all fun b => !decide (bitDiff b sub = 0) || decide (b < 2 ^ n)) = true := by decide +kernel
  intro n hn sub hs hs2 b hb hd
  have := List.all_eq_true.1 (h n hn sub hs hs2) b (by simpa using hb)
  simpa [hd] using this
/-- The reference's worst set is the program's. -/
theorem worst_same {m : Market} (hok : m.Ok) {hands wants : List Int} (hh : hands.length = m.rooms.length) (hw : wants.length = m.shops.length) (h1 : ∀ z ∈ hands, 0 ≤ z) (h2 : ∀ z ∈ wants, 0 ≤ z) {sub : Nat} (hs : sub < 2 ^ m.shops.length) (fro : Nat) :
    worstR m hands wants (listL sub m.shops.length) fro = worst m (packX hands wants fro) sub := by
  unfold worstR worst
  refine top_worst hok.ls hs (fun b hb hd => ?_) ?_
  · rw [lacksV_get hb]; exact lack_same hok hh hw b fro
  · rw [lacksV_get (by omega), lackB_zero hok (fro := fro) rfl (packX_nn h1 h2)]; omega
end Go.Rt.Sh
/- Plain laws of the shop layer: Can, Proof and Without of the program are the reference's. No conditions. -/
set_option linter.unusedSimpArgs false
set_option linter.unusedVariables false
namespace Go.Rt.Sh
theorem ext_getD {a b : List Int} (h : a.length = b.length) (hg : ∀ i < a.length, a.getD i 0 = b.getD i 0) : a = b := by
  apply List.ext_getElem h
  intro i h1 h2
  have := hg i h1
  simpa [List.getD, h1, h2] using this
def handsL (m : Market) (most : Bool) : List Int := if most then mostL m else leastL m
theorem handsL_len (m : Market) (t : Bool) : (handsL m t).length = m.rooms.length := by cases t <;> simp [handsL, mostL, leastL]
theorem wantsL_len (m : Market) : (wantsL m).length = m.shops.length := by simp [wantsL]
theorem handsL_get (m : Market) (t : Bool) (r : Nat) : (handsL m t).getD r 0 = match m.rooms[r]? with | some x => if t then x.hi else x.lo | none => 0 := by
  cases t <;> simp only [handsL, mostL, leastL, List.getD, if_true, Bool.false_eq_true, if_false] <;> rw [List.getElem?_map] <;> cases m.rooms[r]? <;> rfl
theorem wantsL_get (m : Market) (r : Nat) : (wantsL m).getD r 0 = match m.shops[r]? with | some x => x.want | none => 0 := by
  simp only [wantsL, List.getD]; rw [List.getElem?_map]; cases m.shops[r]? <;> rfl
theorem handsTo_get (m : Market) (t : Bool) : ∀ n, n ≤ m.rooms.length → n ≤ 8 → ∀ r, (handsTo m t n).getD r 0 = if r < n then (handsL m t).getD r 0 else 0
  | 0, _, _, r => by
    have e : (List.replicate 8 (0 : Int)).getD r 0 = 0 := by rw [List.getD, List.getElem?_replicate]; split <;> rfl
    rw [if_neg (by omega)]; exact e
  | n + 1, h, h8, r => by
    have ih := handsTo_get m t n (by omega) (by omega) r
    unfold handsTo
    by_cases e : n = r
    · subst e
      rw [getD_set (by rw [handsTo_len]; omega), if_pos (by omega), handsL_get]; cases m.rooms[n]? <;> rfl
    · rw [getD_other e, ih]
      by_cases h1 : r < n
      · rw [if_pos h1, if_pos (by omega)]
      · rw [if_neg h1, if_neg (by omega)]
theorem wantsTo_get (m : Market) (t : Bool) : ∀ n, n ≤ m.shops.length → n ≤ 5 → ∀ r, (wantsTo m t n).getD r 0 = if 3 ≤ r ∧ r < 3 + n then (wantsL m).getD (r - 3) 0 else (handsTo m t m.rooms.length).getD r 0
  | 0, _, _, r => by rw [if_neg (by omega)]; rfl
  | n + 1, h, h8, r => by
    have ih := wantsTo_get m t n (by omega) (by omega) r
    unfold wantsTo
    by_cases e : 3 + n = r
    · subst e
      rw [getD_set (by rw [wantsTo_len]; omega), if_pos (by omega), wantsL_get, show 3 + n - 3 = n by omega]; cases m.shops[n]? <;> rfl
    · rw [getD_other e, ih]
      by_cases h1 : 3 ≤ r ∧ r < 3 + n
      · rw [if_pos h1, if_pos (by omega)]
      · rw [if_neg h1, if_neg (by omega)]
theorem allX_pack {m : Market} (hok : m.Ok) (t : Bool) : allX m t = packX (handsL m t) (wantsL m) 0 := by
  have h1 := hok.lr
  have h2 := hok.ls
  have hl := handsL_len m t
  have hw := wantsL_len m
  have hz : ∀ {l : List Int} {r : Nat}, l.length ≤ r → l.getD r 0 = 0 := fun h => by simp [List.getD, List.getElem?_eq_none h]
  refine ext_getD (by rw [allX_len]; rfl) fun i hi => ?_
  rw [allX_len] at hi
  unfold allX
  rw [wantsTo_get m t _ (Nat.le_refl _) (by omega), handsTo_get m t _ (Nat.le_refl _) (by omega)]
  by_cases hi3 : i < 3
  · rw [packX_hand _ _ _ hi3, if_neg (by omega)]
    split
    · rfl
    · rw [hz (by omega)]
  · by_cases hi7 : i < 7
    · obtain ⟨j, rfl⟩ : ∃ j, i = 3 + j := ⟨i - 3, by omega⟩
      rw [packX_want _ _ _ (by omega), show 3 + j - 3 = j by omega]
      by_cases hj : j < m.shops.length
      · rw [if_pos (by omega)]
      · rw [if_neg (by omega), if_neg (by omega), hz (by omega)]
    · have : i = 7 := by omega
      subst this
      rw [if_neg (by omega), if_neg (by omega)]; rfl
theorem handsL_nn {m : Market} (hok : m.Ok) (t : Bool) : ∀ z ∈ handsL m t, 0 ≤ z := by
  intro z hz
  cases t
  · simp only [handsL, Bool.false_eq_true, if_false, leastL] at hz
    obtain ⟨r, hr, rfl⟩ := List.mem_map.1 hz; have := hok.room r hr; omega
  · simp only [handsL, if_true, mostL] at hz
    obtain ⟨r, hr, rfl⟩ := List.mem_map.1 hz; have := hok.room r hr; omega
theorem wantsL_nn {m : Market} (hok : m.Ok) : ∀ z ∈ wantsL m, 0 ≤ z := by
  intro z hz; obtain ⟨r, hr, rfl⟩ := List.mem_map.1 hz; have := hok.shop r hr; omega
theorem worst_all {m : Market} (hok : m.Ok) (t : Bool) {sub : Nat} (hs : sub < 2 ^ m.shops.length) : worstR m (handsL m t) (wantsL m) (listL sub m.shops.length) 0 = worst m (allX m t) sub := by
  rw [allX_pack hok, worst_same hok (handsL_len m t) (wantsL_len m) (handsL_nn hok t) (wantsL_nn hok) hs]
theorem served_all {m : Market} (hok : m.Ok) (t : Bool) {sub : Nat} (hs : sub < 2 ^ m.shops.length) : servedR m (handsL m t) (listL sub m.shops.length) = servedS m (allX m t) sub := by
  unfold servedR servedS; rw [worst_all hok t hs]
/-! ### Rising numbers, as bits -/
def allL : Nat → List (List Int)
  | 0 => [[]]
  | k + 1 => (allL k).flatMap fun l => [0, 1, 2, 3].map fun z => z :: l
theorem mem_allL : ∀ (l : List Int), (∀ z ∈ l, 0 ≤ z ∧ z < 4) → l ∈ allL l.length
  | [], _ => by simp [allL]
  | z :: l, h => by
    have ih := mem_allL l fun y hy => h y (.tail _ hy)
    have hz := h z (.head _)
    simp only [List.length_cons, allL, List.mem_flatMap]
    refine ⟨l, ih, ?_⟩
    rw [List.mem_map]
    have : z = 0 ∨ z = 1 ∨ z = 2 ∨ z = 3 := by omega
    rcases this with rfl | rfl | rfl | rfl <;> exact ⟨_, by simp, rfl⟩
theorem rise_fin : ∀ n : Nat, n < 5 → ∀ k : Nat, k < 5 → ∀ l ∈ allL k, (!(rising (n : Int) (-1) l && l.all fun x => decide (x < (n : Int))) || (decide (someS l < 2 ^ n) && decide (listL (someS l) n = l))) = true := by decide +kernel
theorem rise_some {n : Nat} {l : List Int} (hn : n ≤ 4) (h : ∀ x ∈ l, 0 ≤ x ∧ x < (n : Int)) (hr : rising n (-1) l = true) : someS l < 2 ^ n ∧ listL (someS l) n = l := by
  have hl : l.length ≤ 4 := by
    match l, h, hr with
    | [], _, _ => simp
    | x :: l, h, hr =>
      have h0 := h x (.head _)
      have := rising_len (x :: l) (-1) hr (by omega) (by omega)
      omega
  have := rise_fin n (by omega) l.length (by omega) l (mem_allL l fun z hz => by have := h z hz; omega)
  rw [hr, List.all_eq_true.2 fun x hx => by simpa using (h x hx).2] at this
  simpa using this
theorem some_list : ∀ n < 5, ∀ b < 16, b < 2 ^ n → someS (listL b n) = b := by decide +kernel
theorem asked_some {m : Market} (l : List Int) : askedE m l = someE m l := by
  have hA : askTo m l l.length = enterE m m.shops.length l := by unfold askTo enterE; rw [List.take_length]
  unfold askedE someE
  rw [hA]
  by_cases h : enterE m m.shops.length l = 0
  · rw [if_neg (show ¬ (enterE m m.shops.length l ≠ 0) by simp [h])]
    obtain ⟨hck, hx⟩ := enterE_ok h
    have hok := check_ok hck
    have hls := hok.ls
    have hor := orBits_rising m.shops.length (by omega) l (-1) 0 hx (fun x hx => by simp; omega) (by omega) (by omega)
    cases e : orBits 0 l with
    | none => rw [if_pos ⟨h, hor.1 e⟩]
    | some s =>
      rw [if_neg, h]
      rintro ⟨_, h⟩
      rw [hor.2 h] at e; cases e
  · rw [if_neg (fun h' => h h'.1), if_pos h]
theorem can_same (m : Market) (l : List Int) : canR m l = canP m l := by
  unfold canR canP
  rw [← asked_some]
  by_cases h : askedE m l = 0
  · have hne : ¬ (askedE m l ≠ 0) := by simp [h]
    rw [if_neg hne, if_neg hne]
    obtain ⟨hck, hlb, hri⟩ := askedE_chk h
    have hok := check_ok hck
    obtain ⟨h1, h2⟩ := rise_some hok.ls hlb hri
    have e1 := served_all hok false h1
    have e2 := served_all hok true h1
    rw [h2] at e1 e2
    simp only [handsL, Bool.false_eq_true, if_false, if_true] at e1 e2
    rw [e1, e2]
    cases servedS m (allX m false) (someS l) <;> cases servedS m (allX m true) (someS l) <;> rfl
  · rw [if_pos h, if_pos h]
theorem proof_same (m : Market) (l : List Int) : proofR m l = proofP m l := by
  unfold proofR proofP
  rw [← asked_some]
  by_cases h : askedE m l = 0
  · have hne : ¬ (askedE m l ≠ 0) := by simp [h]
    rw [if_neg hne, if_neg hne]
    obtain ⟨hck, hlb, hri⟩ := askedE_chk h
    have hok := check_ok hck
    obtain ⟨h1, h2⟩ := rise_some hok.ls hlb hri
    have e1 := worst_all hok false h1
    rw [h2] at e1
    simp only [handsL, Bool.false_eq_true, if_false] at e1
    rw [e1]
  · rw [if_pos h, if_pos h]
/-! ### Without -/
def MinW (C P : List Int → Prop) (s : List Int) : Prop := C s ∧ P s ∧ ∀ c, C c → P c → c = s ∨ before s c = true
theorem MinW.uniq {C P : List Int → Prop} {s t : List Int} (h1 : MinW C P s) (h2 : MinW C P t) : s = t := by
  rcases h1.2.2 t h2.1 h2.2.1 with h | h
  · exact h.symm
  · rcases h2.2.2 s h1.1 h1.2.1 with h' | h'
    · exact h'
    · rw [before_asymm h] at h'; cases h'
def othersOk (m : Market) (s : List Int) : Prop := servedR m (leastL m) (othersTo s m.shops.length) = true
theorem firstW_min {m : Market} : ∀ (L : List (List Int)), L.Pairwise (fun a b => before a b = true) → (∃ s ∈ L, othersOk m s) → MinW (· ∈ L) (othersOk m) (firstW m L)
  | [], _, h => by obtain ⟨s, h, _⟩ := h; cases h
  | x :: L, hp, h => by
    rw [List.pairwise_cons] at hp
    unfold firstW
    by_cases hx : servedR m (leastL m) (othersTo x m.shops.length) = true
    · rw [if_pos hx]
      refine ⟨.head _, hx, fun c hc _ => ?_⟩
      cases hc with
      | head => exact .inl rfl
      | tail _ hc => exact .inr (hp.1 c hc)
    · rw [if_neg hx]
      obtain ⟨s, hs, hso⟩ := h
      have hsL : s ∈ L := by
        cases hs with
        | head => exact absurd hso hx
        | tail _ hs => exact hs
      obtain ⟨h1, h2, h3⟩ := firstW_min L hp.2 ⟨s, hsL, hso⟩
      refine ⟨.tail _ h1, h2, fun c hc hco => ?_⟩
      cases hc with
      | head => exact absurd hco hx
      | tail _ hc => exact h3 c hc hco
theorem others_list : ∀ n < 5, ∀ b < 16, b < 2 ^ n → othersTo (listL b n) n = listL (bitDiff (1 <<< n - 1) b) n ∧ bitDiff (1 <<< n - 1) b < 2 ^ n := by decide +kernel
theorem others_nil : ∀ n < 5, othersTo [] n = listL (1 <<< n - 1) n ∧ 1 <<< n - 1 < 2 ^ n ∧ othersTo (listL (1 <<< n - 1) n) n = [] ∧ 1 <<< n - 1 < 16 ∧ 2 ^ n = 1 <<< n := by decide +kernel
theorem servedR_nil (m : Market) (hands : List Int) : servedR m hands [] = true := by
  have : setsL [] = [[]] := by decide
  unfold servedR worstR
  rw [this]
  rfl
theorem withoutTo_min {m : Market} (hok : m.Ok) : ∀ k, k ≤ 1 <<< m.shops.length - 1 → MinW (fun l => l = listL (1 <<< m.shops.length - 1) m.shops.length ∨ ∃ b, b < k ∧ l = listL b m.shops.length) (othersOk m) (withoutTo m k)
  | 0, _ => by
    have h := others_nil m.shops.length (by have := hok.ls; omega)
    refine ⟨.inl rfl, ?_, fun c hc _ => ?_⟩
    · show servedR m (leastL m) (othersTo (listL (1 <<< m.shops.length - 1) m.shops.length) m.shops.length) = true
      rw [h.2.2.1]; exact servedR_nil _ _
    · rcases hc with h | ⟨b, h, _⟩
      · exact .inl h
      · omega
  | k + 1, hk => by
    obtain ⟨h1, h2, h3⟩ := withoutTo_min hok k (by omega)
    have hn := others_nil m.shops.length (by have := hok.ls; omega)
    have hok2 := others_list m.shops.length (by have := hok.ls; omega) k (by omega) (by omega)
    have hsv := served_all hok false hok2.2
    simp only [handsL, Bool.false_eq_true, if_false] at hsv
    have hP : othersOk m (listL k m.shops.length) ↔ servedS m (allX m false) (bitDiff (1 <<< m.shops.length - 1) k) = true := by
      unfold othersOk; rw [hok2.1, hsv]
    simp only [withoutTo, withoutStep]
    by_cases hb : before (listL k m.shops.length) (withoutTo m k) = true
    · by_cases hsd : servedS m (allX m false) (bitDiff (1 <<< m.shops.length - 1) k) = true
      · rw [hb, hsd]
        refine ⟨.inr ⟨k, by omega, rfl⟩, hP.2 hsd, fun c hc hco => ?_⟩
        have hc' : (c = listL (1 <<< m.shops.length - 1) m.shops.length ∨ ∃ b, b < k ∧ c = listL b m.shops.length) ∨ c = listL k m.shops.length := by
          rcases hc with h | ⟨b, hb, h⟩
          · exact .inl (.inl h)
          · by_cases e : b = k
            · subst e; exact .inr h
            · exact .inl (.inr ⟨b, by omega, h⟩)
        rcases hc' with hc' | hc'
        · rcases h3 c hc' hco with h | h
          · subst h; exact .inr hb
          · exact .inr (before_trans hb h)
        · exact .inl hc'
      · rw [hb]
        simp only [Bool.not_eq_true] at hsd
        rw [hsd]
        refine ⟨?_, h2, fun c hc hco => ?_⟩
        · rcases h1 with h | ⟨b, hb, h⟩
          · exact .inl h
          · exact .inr ⟨b, by omega, h⟩
        · rcases hc with h | ⟨b, hb, h⟩
          · exact h3 c (.inl h) hco
          · by_cases e : b = k
            · subst e; subst h; rw [hP.1 hco] at hsd; cases hsd
            · exact h3 c (.inr ⟨b, by omega, h⟩) hco
    · simp only [Bool.not_eq_true] at hb
      rw [hb]
      refine ⟨?_, h2, fun c hc hco => ?_⟩
      · rcases h1 with h | ⟨b, hb, h⟩
        · exact .inl h
        · exact .inr ⟨b, by omega, h⟩
      · rcases hc with h | ⟨b, hb', h⟩
        · exact h3 c (.inl h) hco
        · by_cases e : b = k
          · subst e; subst h
            show listL b m.shops.length = withoutTo m b ∨ before (withoutTo m b) (listL b m.shops.length) = true
            cases hbb : before (withoutTo m b) (listL b m.shops.length) with
            | true => exact .inr rfl
            | false => exact .inl (before_total hb hbb)
          · exact h3 c (.inr ⟨b, by omega, h⟩) hco
theorem diff_all : ∀ n < 5, ∀ b < 16, (bitDiff b (1 <<< n - 1) = 0 ↔ b < 2 ^ n) := by decide +kernel
theorem withoutL_min {m : Market} (hok : m.Ok) : MinW (· ∈ setsL (othersTo [] m.shops.length)) (othersOk m) (withoutL m) := by
  have hls := hok.ls
  have hn := others_nil m.shops.length (by omega)
  obtain ⟨h1, h2, h3⟩ := withoutTo_min hok _ (Nat.le_refl _)
  have hiff : ∀ l, l ∈ setsL (othersTo [] m.shops.length) ↔ (l = listL (1 <<< m.shops.length - 1) m.shops.length ∨ ∃ b, b < 1 <<< m.shops.length - 1 ∧ l = listL b m.shops.length) := by
    intro l
    rw [hn.1]
    constructor
    · intro h
      obtain ⟨b, hb, hd, e⟩ := sets_in m.shops.length (by omega) _ hn.2.2.2.1 hn.2.1 l h
      have := (diff_all m.shops.length (by omega) b hb).1 hd
      by_cases e2 : b = 1 <<< m.shops.length - 1
      · subst e2; exact .inl e
      · exact .inr ⟨b, by omega, e⟩
    · rintro (e | ⟨b, hb, e⟩)
      · subst e
        exact sets_all m.shops.length (by omega) _ hn.2.2.2.1 hn.2.1 _ hn.2.2.2.1 ((diff_all m.shops.length (by omega) _ hn.2.2.2.1).2 hn.2.1)
      · subst e
        exact sets_all m.shops.length (by omega) _ hn.2.2.2.1 hn.2.1 _ (by omega) ((diff_all m.shops.length (by omega) _ (by omega)).2 (by omega))
  exact ⟨(hiff _).2 h1, h2, fun c hc hco => h3 c ((hiff c).1 hc) hco⟩
theorem sets_pair_all {m : Market} (hok : m.Ok) : (setsL (othersTo [] m.shops.length)).Pairwise fun a b => before a b = true := by
  have hn := others_nil m.shops.length (by have := hok.ls; omega)
  rw [hn.1]
  exact sets_pairwise m.shops.length (by have := hok.ls; omega) _ hn.2.2.2.1 hn.2.1
theorem first_without {m : Market} (hok : m.Ok) : firstW m (setsL (othersTo [] m.shops.length)) = withoutL m :=
  (firstW_min _ (sets_pair_all hok) ⟨_, (withoutL_min hok).1, (withoutL_min hok).2.1⟩).uniq (withoutL_min hok)
theorem without_same (m : Market) : withoutR m = withoutP m := by
  unfold withoutR withoutP
  by_cases h : (check m).2.2 = 0
  · have hne : ¬ ((check m).2.2 ≠ 0) := by simp [h]
    rw [if_neg hne, if_neg hne, first_without (check_ok h)]
  · rw [if_pos h, if_pos h]
end Go.Rt.Sh
/- Plain laws of the shop layer: a room with more hands, a train that is late; More and Late of the program are the reference's. No conditions. -/
set_option linter.unusedSimpArgs false
set_option linter.unusedVariables false
namespace Go.Rt
theorem setMany_mid : ∀ (vs old pre post : List Value), old.length = vs.length → setMany (pre ++ (old ++ post)) pre.length vs = pre ++ (vs ++ post)
  | [], [], pre, post, _ => by simp [setMany]
  | v :: vs, o :: old, pre, post, h => by
    have ih := setMany_mid vs old (pre ++ [v]) post (by simpa using h)
    simp only [setMany]
    rw [List.set_append_right _ _ (Nat.le_refl _), Nat.sub_self, List.cons_append, List.set_cons_zero]
    simpa using ih
  | [], _ :: _, _, _, h => by simp at h
  | _ :: _, [], _, _, h => by simp at h
theorem flat_len_sz {rows : List (List Value)} {sz : Nat} (hr : ∀ row ∈ rows, row.length = sz) : rows.flatten.length = rows.length * sz := by
  induction rows with
  | nil => simp
  | cons r l ih => rw [List.flatten_cons, List.length_append, hr r (.head _), ih fun x hx => hr x (.tail _ hx), List.length_cons, Nat.succ_mul]; omega
theorem setMany_rows {rows : List (List Value)} {sz i n : Nat} {row cs : List Value} (hn : rows.length = n) (hr : ∀ row ∈ rows, row.length = sz) (hi : i < rows.length) (hrow : row.length = sz) (h : cs.take (n * sz) = rows.flatten) : (setMany cs (i * sz) row).take (n * sz) = (rows.set i row).flatten := by
  have hpre : (rows.take i).flatten.length = i * sz := by
    rw [flat_len_sz (fun x hx => hr x (List.mem_of_mem_take hx)), List.length_take, Nat.min_eq_left (by omega)]
  have e1 : rows.flatten = (rows.take i).flatten ++ (rows[i] ++ (rows.drop (i + 1)).flatten) := by
    rw [← List.flatten_cons, ← List.drop_eq_getElem_cons hi, ← List.flatten_append, List.take_append_drop]
  have e2 : cs = (rows.take i).flatten ++ (rows[i] ++ ((rows.drop (i + 1)).flatten ++ cs.drop (n * sz))) := by
    have := List.take_append_drop (n * sz) cs
    rw [h, e1] at this
    simpa [List.append_assoc] using this.symm
  have e3 := setMany_mid row rows[i] (rows.take i).flatten ((rows.drop (i + 1)).flatten ++ cs.drop (n * sz)) (by rw [hrow, hr _ (List.getElem_mem hi)])
  rw [← e2, hpre] at e3
  rw [e3]
  have e4 : (rows.set i row).flatten = (rows.take i).flatten ++ (row ++ (rows.drop (i + 1)).flatten) := by
    rw [List.set_eq_take_append_cons_drop, if_pos hi, List.flatten_append, List.flatten_cons]
  have e5 : (rows.set i row).flatten.length = n * sz := by
    rw [flat_len_sz, List.length_set, hn]
    intro x hx
    rcases List.mem_or_eq_of_mem_set hx with h | h
    · exact hr x h
    · rw [h]; exact hrow
  have e6 : (rows.take i).flatten ++ (row ++ ((rows.drop (i + 1)).flatten ++ cs.drop (n * sz))) = (rows.set i row).flatten ++ cs.drop (n * sz) := by rw [e4]; simp [List.append_assoc]
  rw [e6, List.take_append_of_le_length (Nat.le_of_eq e5.symm), List.take_of_length_le (Nat.le_of_eq e5)]
namespace Sh
def addH (r : Room) (n : Int) : Room := { r with lo := r.lo + n, hi := r.hi + n }
def addRoom : List Room → Nat → Int → List Room
  | [], _, _ => []
  | r :: l, 0, n => addH r n :: l
  | r :: l, i + 1, n => r :: addRoom l i n
theorem addRoom_set : ∀ (l : List Room) (i : Nat) (n : Int) (h : i < l.length), addRoom l i n = l.set i (addH l[i] n)
  | [], _, _, h => by simp at h
  | _ :: _, 0, _, _ => rfl
  | _ :: l, i + 1, n, h => by simp [addRoom, addRoom_set l i n (by simpa using h)]
theorem setLate_set : ∀ (l : List Train) (i : Nat) (h : i < l.length), setLate l i = l.set i (late l[i])
  | [], _, h => by simp at h
  | _ :: _, 0, _ => rfl
  | _ :: l, i + 1, h => by simp [setLate, setLate_set l i (by simpa using h)]
theorem addRoom_len : ∀ (l : List Room) (i : Nat) (n : Int), (addRoom l i n).length = l.length
  | [], _, _ => rfl
  | _ :: _, 0, _ => rfl
  | _ :: l, i + 1, n => by simp [addRoom, addRoom_len l i n]
def withM (m : Market) (i : Nat) (n : Int) : Market := { m with rooms := addRoom m.rooms i n }
theorem mem_addRoom {l : List Room} {i : Nat} {n : Int} {t : Room} (h : t ∈ addRoom l i n) : t ∈ l ∨ ∃ t' ∈ l, t = addH t' n := by
  induction l generalizing i with
  | nil => simp [addRoom] at h
  | cons x l ih =>
    cases i with
    | zero =>
      simp only [addRoom, List.mem_cons] at h
      rcases h with rfl | h
      · exact .inr ⟨x, .head _, rfl⟩
      · exact .inl (.tail _ h)
    | succ i =>
      simp only [addRoom, List.mem_cons] at h
      rcases h with rfl | h
      · exact .inl (.head _)
      · rcases ih h with h | ⟨t', h1, h2⟩
        · exact .inl (.tail _ h)
        · exact .inr ⟨t', .tail _ h1, h2⟩
theorem check_room {m : Market} (h : (check m).2.2 = 0) : ∀ r ∈ m.rooms, 0 ≤ r.lo ∧ r.lo ≤ r.hi ∧ r.hi ≤ 60 := by
  obtain ⟨h1, _, _⟩ := check_parts h
  intro t ht
  obtain ⟨k, hk, rfl⟩ := List.getElem_of_mem ht
  have := roomE_zero ((failE_zero h1).2 k hk)
  omega
theorem withM_ok {m : Market} (h : (check m).2.2 = 0) (i : Nat) {n : Int} (hn : 0 ≤ n ∧ n ≤ 60) : (withM m i n).Ok := by
  have hok := check_ok h
  have hd := check_room h
  refine ⟨by show (addRoom _ _ _).length ≤ 3; rw [addRoom_len]; exact hok.lr, hok.ls, hok.lt, fun t ht => ?_, hok.shop, fun t ht => ?_⟩
  · rcases mem_addRoom ht with h | ⟨t', h1, rfl⟩
    · exact hok.room t h
    · have h2 := hok.room t' h1
      have h3 := hd t' h1
      show 0 ≤ t'.lo + n ∧ t'.lo + n ≤ t'.hi + n ∧ t'.hi + n ≤ 200 ∧ 0 ≤ t'.fro ∧ t'.fro ≤ t'.las ∧ t'.las ≤ 9
      omega
  · have := hok.train t ht
    show 0 ≤ t.room ∧ t.room < (addRoom m.rooms i n).length ∧ _
    rw [addRoom_len]; exact this
theorem withM_cells (m : Market) (i : Nat) (n : Int) (p : At3) : (withM m i n).cells p = [.slice p.ar m.rooms.length p.cr, .slice p.az m.shops.length p.cs, .slice p.at_ m.trains.length p.ct] := by simp [Market.cells, withM, addRoom_len]
theorem rrows_row (l : List Room) : ∀ row ∈ rrows l, row.length = 5 := by intro row h; obtain ⟨q, _, rfl⟩ := List.mem_map.1 h; rfl
theorem trows_row (l : List Train) : ∀ row ∈ trows l, row.length = 4 := by intro row h; obtain ⟨q, _, rfl⟩ := List.mem_map.1 h; rfl
theorem cells_room {cs : List Value} {l : List Room} {n i : Nat} {x : Int} (hn : l.length = n) (h : cs.take (n * 5) = (rrows l).flatten) (hi : i < l.length) : (setMany cs (i * 5) (addH l[i] x).cells).take (n * 5) = (rrows (addRoom l i x)).flatten := by
  have := setMany_rows (row := (addH l[i] x).cells) (by simpa [rrows] using hn) (rrows_row l) (by simpa [rrows] using hi) rfl h
  rw [this, addRoom_set l i x hi]; simp [rrows, List.map_set]
theorem cells_slow {cs : List Value} {l : List Train} {n i : Nat} (hn : l.length = n) (h : cs.take (n * 4) = (trows l).flatten) (hi : i < l.length) : (setMany cs (i * 4) (late l[i]).cells).take (n * 4) = (trows (setLate l i)).flatten := by
  have := setMany_rows (row := (late l[i]).cells) (by simpa [trows] using hn) (trows_row l) (by simpa [trows] using hi) rfl h
  rw [this, setLate_set l i hi]; simp [trows, List.map_set]
/-! ### More and Late -/
def allL' (m : Market) : List Int := othersTo [] m.shops.length
def moreToR (m : Market) (r i : Nat) : Nat → Option Nat
  | 0 => none
  | k + 1 => if servedR m (leastL (withM m r i)) (allL' m) then some i else moreToR m r (i + 1) k
def moreR (m : Market) (r : Int) : Int × Int := if enterE m m.rooms.length [r] ≠ 0 then (0, enterE m m.rooms.length [r]) else match moreToR m r.toNat 0 61 with | some n => ((n : Int), 0) | none => (0, 9)
theorem moreToR_yes {m : Market} {r i k : Nat} (h : servedR m (leastL (withM m r i)) (allL' m) = true) : moreToR m r i (k + 1) = some i := by unfold moreToR; rw [if_pos h]
theorem moreToR_no {m : Market} {r i k : Nat} (h : servedR m (leastL (withM m r i)) (allL' m) = false) : moreToR m r i (k + 1) = moreToR m r (i + 1) k := by rw [moreToR, if_neg (by simp [h])]
def lateR (m : Market) (r : Int) : Int × Int :=
  if enterE m m.trains.length [r] ≠ 0 then (0, enterE m m.trains.length [r]) else
    (max (0 : Int) ((worstR (lateM m r.toNat) (leastL m) (wantsL m) (allL' m) 0).2 - (worstR m (leastL m) (wantsL m) (allL' m) 0).2), 0)
theorem leastL_with {m : Market} {r : Nat} (n : Int) (hr : r < m.rooms.length) : leastL (withM m r n) = (leastL m).set r ((leastL m).getD r 0 + n) := by
  unfold leastL withM
  rw [addRoom_set _ _ _ hr, List.map_set]
  congr 1
  simp [List.getD, hr, addH]
theorem packX_set {hands wants : List Int} {fro r : Nat} {z : Int} (hr : r < 3) (hl : r < hands.length) : packX (hands.set r z) wants fro = (packX hands wants fro).set r z := by
  refine ext_getD (by simp [packX]) fun i hi => ?_
  have hi8 : i < 8 := hi
  by_cases h3 : i < 3
  · rw [packX_hand _ _ _ h3]
    by_cases e : r = i
    · subst e
      rw [getD_set hl, getD_set (by simp [packX]; omega)]
    · rw [getD_other e, getD_other e, packX_hand _ _ _ h3]
  · rw [getD_other (x := packX hands wants fro) (by omega)]
    have : i = 3 ∨ i = 4 ∨ i = 5 ∨ i = 6 ∨ i = 7 := by omega
    rcases this with rfl | rfl | rfl | rfl | rfl <;> rfl
theorem all_list {m : Market} (hok : m.Ok) : allL' m = listL (1 <<< m.shops.length - 1) m.shops.length ∧ 1 <<< m.shops.length - 1 < 2 ^ m.shops.length := by
  have hn := others_nil m.shops.length (by have := hok.ls; omega)
  exact ⟨hn.1, hn.2.1⟩
theorem served_more {m : Market} (h : (check m).2.2 = 0) {r i : Nat} (hr : r < m.rooms.length) (hi : i ≤ 60) : servedR m (leastL (withM m r i)) (allL' m) = servedS m (moreX m r i) (1 <<< m.shops.length - 1) := by
  have hok := check_ok h
  have hlr := hok.lr
  have ha := all_list hok
  have hl : (leastL m).length = m.rooms.length := by simp [leastL]
  have hnn : ∀ z ∈ leastL (withM m r i), 0 ≤ z := handsL_nn (withM_ok h r (n := i) (by omega)) false
  have hlen : (leastL (withM m r i)).length = m.rooms.length := by simp [leastL, withM, addRoom_len]
  unfold servedR servedS moreX
  rw [ha.1, worst_same hok hlen (wantsL_len m) hnn (wantsL_nn hok) ha.2, leastL_with _ hr, packX_set (by omega) (by omega), allX_pack hok]
  simp only [handsL, Bool.false_eq_true, if_false]
  rw [packX_hand _ _ _ (by omega)]
theorem more_same (m : Market) (r : Int) : moreR m r = moreP m r := by
  unfold moreR moreP
  by_cases h : enterE m m.rooms.length [r] = 0
  · have hne : ¬ (enterE m m.rooms.length [r] ≠ 0) := by simp [h]
    rw [if_neg hne, if_neg hne]
    obtain ⟨hck, hr⟩ := enterE_ok h
    have hr := hr r (.head _)
    have hk : ∀ k i, i + k = 61 → moreToR m r.toNat i k = moreTo m r.toNat i k := by
      intro k
      induction k with
      | zero => intro i _; rfl
      | succ k ih =>
        intro i hi
        unfold moreToR moreTo
        rw [served_more hck (by omega) (by omega), ih (i + 1) (by omega)]
    rw [hk 61 0 rfl]; cases moreTo m r.toNat 0 61 <;> rfl
  · rw [if_pos h, if_pos h]
theorem moreR_1 {m : Market} {r : Int} (h : enterE m m.rooms.length [r] ≠ 0) : moreR m r = (0, enterE m m.rooms.length [r]) := by unfold moreR; rw [if_pos h]
theorem moreR_2 {m : Market} {r : Int} {n : Nat} (h : enterE m m.rooms.length [r] = 0) (h2 : moreToR m r.toNat 0 61 = some n) : moreR m r = ((n : Int), 0) := by unfold moreR; rw [if_neg (by simp [h]), h2]
theorem moreR_3 {m : Market} {r : Int} (h : enterE m m.rooms.length [r] = 0) (h2 : moreToR m r.toNat 0 61 = none) : moreR m r = (0, 9) := by unfold moreR; rw [if_neg (by simp [h]), h2]
theorem moreR_here {m : Market} {r i k : Nat} (hk : k = 61 - i) (hi : i < 61) (h : servedR m (leastL (withM m r i)) (allL' m) = true) : moreToR m r i k = some i := by
  obtain ⟨q, rfl⟩ : ∃ q, k = q + 1 := ⟨k - 1, by omega⟩
  exact moreToR_yes h
theorem moreR_on {m : Market} {r i : Nat} (hi : i < 61) (h : servedR m (leastL (withM m r i)) (allL' m) = false) : moreToR m r i (61 - i) = moreToR m r (i + 1) (61 - (i + 1)) := by
  rw [show 61 - i = (61 - (i + 1)) + 1 by omega]; exact moreToR_no h
theorem moreR_end {m : Market} {r i : Nat} (hi : 61 ≤ i) : moreToR m r i (61 - i) = none := by rw [show 61 - i = 0 by omega]; rfl
theorem lateR_1 {m : Market} {r : Int} (h : enterE m m.trains.length [r] ≠ 0) : lateR m r = (0, enterE m m.trains.length [r]) := by unfold lateR; rw [if_pos h]
theorem lateR_2 {m : Market} {r : Int} (h : enterE m m.trains.length [r] = 0) : lateR m r = (max (0 : Int) ((worstR (lateM m r.toNat) (leastL m) (wantsL m) (allL' m) 0).2 - (worstR m (leastL m) (wantsL m) (allL' m) 0).2), 0) := by unfold lateR; rw [if_neg (by simp [h])]
theorem worstR_bound {m : Market} (hok : m.Ok) {hands wants shops : List Int} (hh : ∀ z ∈ hands, -10000 ≤ z ∧ z ≤ 10000) (hw : ∀ z ∈ wants, -10000 ≤ z ∧ z ≤ 10000) (hs : shops.length ≤ 4) (fro : Nat) : 0 ≤ (worstR m hands wants shops fro).2 ∧ (worstR m hands wants shops fro).2 ≤ 100000 :=
  topTo_bound (fun s h => (lackR_bound hok hh hw (by have := (setsL_in h).1; omega) fro).2) _
theorem late_same (m : Market) (r : Int) : lateR m r = lateP m r := by
  unfold lateR lateP
  by_cases h : enterE m m.trains.length [r] = 0
  · have hne : ¬ (enterE m m.trains.length [r] ≠ 0) := by simp [h]
    rw [if_neg hne, if_neg hne]
    obtain ⟨hck, hr⟩ := enterE_ok h
    have hok := check_ok hck
    have hokl := lateM_ok hck r.toNat
    have ha := all_list hok
    have e1 := worst_all hok false ha.2
    have e2 := worst_same hokl (hands := leastL m) (wants := wantsL m) (by simp [leastL]; rfl) (wantsL_len m) (handsL_nn hok false) (wantsL_nn hok) (sub := 1 <<< m.shops.length - 1) ha.2 0
    have e3 := allX_pack hok false
    simp only [handsL, Bool.false_eq_true, if_false] at e1 e3
    rw [← e3] at e2
    rw [ha.1, e1]
    have e4 : (lateM m r.toNat).shops = m.shops := rfl
    rw [e4] at e2
    rw [e2]
  · rw [if_pos h, if_pos h]
end Sh
end Go.Rt
/- Plain laws of the shop layer: no shops lack anything just if the worst set lacks nothing; Give, train by train. No conditions. -/
set_option linter.unusedSimpArgs false
set_option linter.unusedVariables false
namespace Go.Rt.Sh
def gD (l : List Int) : Nat → Int := fun r => l.getD r 0
theorem bits4 : ∀ a b c d : Bool, (cond a 1 0 + cond b 2 0 + cond c 4 0 + cond d 8 0 < 16) ∧ ∀ i < 4, bset (cond a 1 0 + cond b 2 0 + cond c 4 0 + cond d 8 0) i = (if i = 0 then a else if i = 1 then b else if i = 2 then c else d) := by decide
theorem bset_out {b i : Nat} (hb : b < 16) (hi : 4 ≤ i) : bset b i = false := by
  have : b >>> i = 0 := by
    rw [Nat.shiftRight_eq_div_pow]
    have : 2 ^ 4 ≤ 2 ^ i := Nat.pow_le_pow_right (by omega) hi
    exact Nat.div_eq_of_lt (by omega)
  simp [bset, bit, this]
theorem diff_sub : ∀ b < 16, ∀ sub < 16, (bitDiff b sub = 0 ↔ ∀ i < 4, bset b i = true → bset sub i = true) := by decide +kernel
theorem bset_sub {b sub : Nat} (hb : b < 16) (hs : sub < 16) : bitDiff b sub = 0 ↔ Sub (bset b) (bset sub) := by
  rw [diff_sub b hb sub hs]
  constructor
  · intro h i hi
    by_cases h4 : i < 4
    · exact h i h4 hi
    · rw [bset_out hb (by omega)] at hi; cases hi
  · intro h i _ hi; exact h i hi
theorem sub_bits {s : Nat → Bool} {sub : Nat} (hs : sub < 16) (h : Sub s (bset sub)) : ∃ b < 16, bset b = s ∧ bitDiff b sub = 0 := by
  have hb := bits4 (s 0) (s 1) (s 2) (s 3)
  refine ⟨_, hb.1, ?_, ?_⟩
  · funext i
    by_cases h4 : i < 4
    · rw [hb.2 i h4]
      have : i = 0 ∨ i = 1 ∨ i = 2 ∨ i = 3 := by omega
      rcases this with rfl | rfl | rfl | rfl <;> rfl
    · rw [bset_out hb.1 (by omega)]
      cases e : s i with
      | false => rfl
      | true => have := h i e; rw [bset_out hs (by omega)] at this; cases this
  · rw [diff_sub _ hb.1 _ hs]
    intro i hi hi2
    rw [hb.2 i hi] at hi2
    apply h
    have : i = 0 ∨ i = 1 ∨ i = 2 ∨ i = 3 := by omega
    rcases this with rfl | rfl | rfl | rfl <;> simpa using hi2
theorem pow_16 {n sub : Nat} (hn : n ≤ 4) (hs : sub < 2 ^ n) : sub < 16 := by
  have : 2 ^ n ≤ 2 ^ 4 := Nat.pow_le_pow_right (by omega) hn
  omega
/-- The best, told by what all sets lack. -/
theorem worst_best {m : Market} (hok : m.Ok) (hands wants : List Int) {sub : Nat} (hs : sub < 2 ^ m.shops.length) (fro : Nat) (h0 : lackR m hands wants (listL 0 m.shops.length) fro < 1) :
    Best (fun s => lackR m hands wants s fro) (fun l => ∃ b, b < 16 ∧ bitDiff b sub = 0 ∧ l = listL b m.shops.length) (worstR m hands wants (listL sub m.shops.length) fro) := by
  have hls := hok.ls
  have hs16 := pow_16 hls hs
  have h1 := best_top (f := fun s => lackR m hands wants s fro) (sets_pairwise m.shops.length (by omega) sub hs16 hs) (fun l hl => by
    rw [sets_zero m.shops.length (by omega) sub hs16 hs] at hl
    cases hl
    exact h0) _ (Nat.le_refl _)
  rw [List.take_length] at h1
  have hiff : ∀ l, l ∈ setsL (listL sub m.shops.length) ↔ (∃ b, b < 16 ∧ bitDiff b sub = 0 ∧ l = listL b m.shops.length) := fun l =>
    ⟨fun h => by obtain ⟨b, hb, h1, h2⟩ := sets_in m.shops.length (by omega) sub hs16 hs l h; exact ⟨b, hb, h1, h2⟩, fun ⟨b, hb, h1, h2⟩ => h2 ▸ sets_all m.shops.length (by omega) sub hs16 hs b hb h1⟩
  rcases h1 with ⟨e, a⟩ | ⟨l, c, e, b, a⟩
  · exact .inl ⟨e, fun l hl => a l ((hiff l).2 hl)⟩
  · exact .inr ⟨l, (hiff l).1 c, e, b, fun c' hc => a c' ((hiff c').2 hc)⟩
theorem lack_empty {m : Market} (hok : m.Ok) {hands : List Int} (wants : List Int) (hh : ∀ z ∈ hands, 0 ≤ z) (fro : Nat) : lackR m hands wants (listL 0 m.shops.length) fro = 0 := by
  rw [lackR_lk hok]
  unfold lk
  have e1 : sumN m.shops.length (fun i => if bset 0 i then wants.getD i 0 else 0) = 0 := by
    rw [sumN_congr (g := fun _ => 0) _ fun i _ => by simp [bset, bit]]; exact sumN_zero _
  have e2 : sumN m.rooms.length (fun r => min (hands.getD r 0) (capR (trs m fro) (bset 0) r)) = 0 := by
    rw [sumN_congr (g := fun _ => 0) _ fun r _ => by rw [capR_none]; have := getD_nn hh r; omega]; exact sumN_zero _
  rw [e1, e2]; rfl
theorem served_iff {m : Market} (hok : m.Ok) {hands : List Int} (wants : List Int) (hh : ∀ z ∈ hands, 0 ≤ z) {sub : Nat} (hs : sub < 2 ^ m.shops.length) (fro : Nat) :
    (worstR m hands wants (listL sub m.shops.length) fro).2 = 0 ↔ NoLack m.rooms.length m.shops.length (trs m fro) (gD hands) (gD wants) (bset sub) := by
  have hs16 := pow_16 hok.ls hs
  have hb := worst_best hok hands wants hs fro (by rw [lack_empty hok wants hh]; omega)
  constructor
  · intro h s hsub
    obtain ⟨b, hb16, hbs, hbd⟩ := sub_bits hs16 hsub
    rw [← hbs]
    have e := lackR_lk hok hands wants b fro
    rcases hb with ⟨_, a⟩ | ⟨l, _, e2, h1, _⟩
    · have := a (listL b m.shops.length) ⟨b, hb16, hbd, rfl⟩
      dsimp only at this
      rw [e] at this
      show lk _ _ _ (fun r => hands.getD r 0) (fun i => wants.getD i 0) _ ≤ 0
      omega
    · rw [e2] at h; dsimp only at h h1; omega
  · intro h
    rcases hb with ⟨e, _⟩ | ⟨l, ⟨b, hb16, hbd, rfl⟩, e2, h1, _⟩
    · rw [e]
    · have := h (bset b) ((bset_sub hb16 hs16).1 hbd)
      dsimp only at h1
      rw [lackR_lk hok] at h1
      exact absurd (show lk _ _ _ (fun r => hands.getD r 0) (fun i => wants.getD i 0) _ ≤ 0 from this) (by omega)
/-! ### Trains, one by one -/
theorem trsTo_cons {m : Market} {i : Nat} (hi : i < m.trains.length) : ∀ k, i < k → k ≤ m.trains.length → trsTo m i k = (if leaves m m.trains[i] then [toTr m.trains[i]] else []) ++ trsTo m (i + 1) k
  | 0, h, _ => by omega
  | k + 1, h, hk => by
    simp only [trsTo, List.getElem?_eq_getElem (show k < m.trains.length by omega)]
    by_cases e : i = k
    · subst e
      have h0 : ∀ (f j : Nat), j ≤ f → trsTo m f j = [] := by
        intro f j
        induction j with
        | zero => intro _; rfl
        | succ j ih =>
          intro hj
          unfold trsTo
          cases m.trains[j]? with
          | none => exact ih (by omega)
          | some t => dsimp only; rw [if_neg (by omega)]; exact ih (by omega)
      rw [h0 i i (Nat.le_refl _), h0 (i + 1) i (by omega), if_neg (show ¬ (i + 1 ≤ i ∧ leaves m m.trains[i] = true) by omega)]
      by_cases hl : leaves m m.trains[i] = true
      · rw [if_pos ⟨Nat.le_refl _, hl⟩, if_pos hl]; rfl
      · rw [if_neg (fun h => hl h.2), if_neg hl]; rfl
    · have ih := trsTo_cons hi k (by omega) (by omega)
      rw [ih]
      generalize (if leaves m m.trains[i] = true then [toTr m.trains[i]] else []) = P
      by_cases hl : leaves m m.trains[k] = true
      · rw [if_pos ⟨by omega, hl⟩, if_pos ⟨by omega, hl⟩, List.append_assoc]
      · rw [if_neg (fun h => hl h.2), if_neg (fun h => hl h.2)]
theorem trs_cons {m : Market} {i : Nat} (hi : i < m.trains.length) : trs m i = (if leaves m m.trains[i] then [toTr m.trains[i]] else []) ++ trs m (i + 1) := trsTo_cons hi _ hi (Nat.le_refl _)
theorem lk_skip {R S : Nat} {t : Tr} {T : List Tr} {h w : Nat → Int} {s : Nat → Bool} (hs : s t.shop = false) : lk R S (t :: T) h w s = lk R S T h w s := by
  unfold lk
  congr 1
  refine sumN_congr R fun r _ => ?_
  rw [capR_cons, if_neg (by simp [hs])]; simp
def subAt (l : List Int) (i : Nat) (n : Int) : List Int := l.set i (l.getD i 0 - n)
theorem subAt_len (l : List Int) (i : Nat) (n : Int) : (subAt l i n).length = l.length := by simp [subAt]
theorem subAt_put {l : List Int} {i : Nat} (n : Int) (hi : i < l.length) : gD (subAt l i n) = put (gD l) i (gD l i - n) := by
  funext j
  unfold gD subAt put
  by_cases e : j = i
  · subst e; rw [if_pos rfl, getD_set hi]
  · rw [if_neg e, getD_other (Ne.symm e)]
theorem subAt_in {l : List Int} {i : Nat} {n b : Int} (h : ∀ z ∈ l, 0 ≤ z ∧ z ≤ b) (hn : 0 ≤ n) (hle : n ≤ gD l i) : ∀ z ∈ subAt l i n, 0 ≤ z ∧ z ≤ b := by
  intro z hz
  rcases List.mem_or_eq_of_mem_set hz with h1 | h1
  · exact h z h1
  · have hg : gD l i ≤ max 0 b := by
      unfold gD
      by_cases hl : i < l.length
      · have := h _ (List.getElem_mem hl); simp [List.getD, hl]; omega
      · simp [List.getD, hl]; omega
    have hb : 0 ≤ b ∨ l = [] := by
      cases l with
      | nil => exact .inr rfl
      | cons y _ => have := h y (.head _); left; omega
    rcases hb with hb | hb
    · unfold gD at hle hg; omega
    · subst hb; simp [subAt] at hz
/-- Fine: what is left is not below 0, and no shops lack anything by the trains from i on. -/
structure FineS (m : Market) (sub i : Nat) (h w : List Int) : Prop where
  hl : h.length = m.rooms.length
  wl : w.length = m.shops.length
  hn : ∀ z ∈ h, 0 ≤ z ∧ z ≤ 200
  wn : ∀ z ∈ w, 0 ≤ z ∧ z ≤ 60
  no : NoLack m.rooms.length m.shops.length (trs m i) (gD h) (gD w) (bset sub)
def okAt (m : Market) (shops h w : List Int) (i : Nat) (t : Train) (n : Nat) : Bool := decide ((worstR m (subAt h t.room.toNat n) (subAt w t.shop.toNat n) shops (i + 1)).2 = 0)
def firstN (p : Nat → Bool) : Nat → Nat → Nat
  | n, 0 => n
  | n, k + 1 => if p n then n else firstN p (n + 1) k
theorem firstN_spec {p : Nat → Bool} : ∀ (k n : Nat), (∃ q, n ≤ q ∧ q < n + k ∧ p q = true) → p (firstN p n k) = true ∧ n ≤ firstN p n k ∧ (∀ q, n ≤ q → q < firstN p n k → p q = false) ∧ ∀ q, n ≤ q → p q = true → firstN p n k ≤ q
  | 0, n, h => by obtain ⟨q, h1, h2, _⟩ := h; omega
  | k + 1, n, h => by
    unfold firstN
    by_cases hn : p n = true
    · rw [if_pos hn]; exact ⟨hn, Nat.le_refl _, fun q h1 h2 => by omega, fun q h1 _ => h1⟩
    · rw [if_neg hn]
      obtain ⟨q, h1, h2, h3⟩ := h
      have hne : q ≠ n := fun e => hn (e ▸ h3)
      obtain ⟨a, b, c, d⟩ := firstN_spec k (n + 1) ⟨q, by omega, by omega, h3⟩
      refine ⟨a, by omega, fun q' h4 h5 => ?_, fun q' h4 h5 => ?_⟩
      · by_cases e : q' = n
        · subst e; simpa using hn
        · exact c q' (by omega) h5
      · have : q' ≠ n := fun e => hn (e ▸ h5)
        exact d q' (by omega) h5
def goesS (m : Market) (shops : List Int) (t : Train) : Bool := leaves m t && hasI shops t.shop
def nAt (m : Market) (shops h w : List Int) (i : Nat) (t : Train) : Nat := if goesS m shops t then firstN (okAt m shops h w i t) 0 61 else 0
theorem goesS_iff {m : Market} (hok : m.Ok) {sub : Nat} {t : Train} (ht : t ∈ m.trains) : goesS m (listL sub m.shops.length) t = true ↔ leaves m t = true ∧ bset sub t.shop.toNat = true := by
  have hh := hasI_listL sub m.shops.length t.shop
  have htt := hok.train t ht
  unfold goesS
  rw [Bool.and_eq_true, hh]
  constructor
  · rintro ⟨h1, _, _, h2⟩; exact ⟨h1, by unfold bset; exact decide_eq_true h2⟩
  · rintro ⟨h1, h2⟩; exact ⟨h1, by omega, by omega, of_decide_eq_true h2⟩
theorem fine_served {m : Market} (hok : m.Ok) {sub i : Nat} {h w : List Int} (hs : sub < 2 ^ m.shops.length) (hf : FineS m sub i h w) : (worstR m h w (listL sub m.shops.length) i).2 = 0 :=
  (served_iff hok w (fun z hz => (hf.hn z hz).1) hs i).2 hf.no
/-- A train that goes to one of the shops: some number is fine. -/
theorem some_ok {m : Market} (hok : m.Ok) {sub i : Nat} {h w : List Int} (hs : sub < 2 ^ m.shops.length) (hf : FineS m sub i h w) (hi : i < m.trains.length) (hg : goesS m (listL sub m.shops.length) m.trains[i] = true) :
    ∃ n : Nat, (n : Int) ≤ m.trains[i].cap ∧ (n : Int) ≤ gD h m.trains[i].room.toNat ∧ (n : Int) ≤ gD w m.trains[i].shop.toNat ∧ okAt m (listL sub m.shops.length) h w i m.trains[i] n = true := by
  have ht := List.getElem_mem hi
  have htt := hok.train _ ht
  obtain ⟨hlv, hsub⟩ := (goesS_iff hok ht).1 hg
  have hno := hf.no
  rw [trs_cons hi, if_pos hlv] at hno
  have hgn : ∀ r, 0 ≤ gD h r := fun r => getD_nn (fun z hz => (hf.hn z hz).1) r
  have hwn : ∀ r, 0 ≤ gD w r := fun r => getD_nn (fun z hz => (hf.wn z hz).1) r
  obtain ⟨n, h1, h2, h3, h4⟩ := one_train (R := m.rooms.length) (S := m.shops.length) (t := toTr m.trains[i]) (T := trs m (i + 1)) (h := gD h) (w := gD w) (sh := bset sub) (by simp only [toTr]; omega) (by simp only [toTr]; omega) (by simp only [toTr]; omega)
    (fun u hu => (trs_fine hok hu).2.2.1) hgn hwn hsub hno
  refine ⟨n, h1, h2, h3, ?_⟩
  unfold okAt
  have h2' : (n : Int) ≤ gD h m.trains[i].room.toNat := h2
  rw [decide_eq_true_eq, served_iff hok _ (fun z hz => (subAt_in hf.hn (by omega) h2' z hz).1) hs, subAt_put _ (by rw [hf.hl]; omega), subAt_put _ (by rw [hf.wl]; omega)]
  exact h4
/-- What is left behind a train. -/
def nextH (m : Market) (shops h w : List Int) (i : Nat) (t : Train) : List Int := if goesS m shops t then subAt h t.room.toNat (nAt m shops h w i t) else h
def nextW (m : Market) (shops h w : List Int) (i : Nat) (t : Train) : List Int := if goesS m shops t then subAt w t.shop.toNat (nAt m shops h w i t) else w
theorem nAt_spec {m : Market} (hok : m.Ok) {sub i : Nat} {h w : List Int} (hs : sub < 2 ^ m.shops.length) (hf : FineS m sub i h w) (hi : i < m.trains.length) (hg : goesS m (listL sub m.shops.length) m.trains[i] = true) :
    okAt m (listL sub m.shops.length) h w i m.trains[i] (nAt m (listL sub m.shops.length) h w i m.trains[i]) = true ∧ (∀ q < nAt m (listL sub m.shops.length) h w i m.trains[i], okAt m (listL sub m.shops.length) h w i m.trains[i] q = false) ∧
    ((nAt m (listL sub m.shops.length) h w i m.trains[i] : Nat) : Int) ≤ m.trains[i].cap ∧ ((nAt m (listL sub m.shops.length) h w i m.trains[i] : Nat) : Int) ≤ gD h m.trains[i].room.toNat ∧ ((nAt m (listL sub m.shops.length) h w i m.trains[i] : Nat) : Int) ≤ gD w m.trains[i].shop.toNat := by
  have htt := hok.train _ (List.getElem_mem hi)
  obtain ⟨n, h1, h2, h3, h4⟩ := some_ok hok hs hf hi hg
  have hsp := firstN_spec (p := okAt m (listL sub m.shops.length) h w i m.trains[i]) 61 0 ⟨n, by omega, by omega, h4⟩
  have e : nAt m (listL sub m.shops.length) h w i m.trains[i] = firstN (okAt m (listL sub m.shops.length) h w i m.trains[i]) 0 61 := by unfold nAt; rw [if_pos hg]
  rw [e]
  have hle := hsp.2.2.2 n (by omega) h4
  exact ⟨hsp.1, fun q hq => hsp.2.2.1 q (by omega) hq, by omega, by omega, by omega⟩
theorem fine_next {m : Market} (hok : m.Ok) {sub i : Nat} {h w : List Int} (hs : sub < 2 ^ m.shops.length) (hf : FineS m sub i h w) (hi : i < m.trains.length) :
    FineS m sub (i + 1) (nextH m (listL sub m.shops.length) h w i m.trains[i]) (nextW m (listL sub m.shops.length) h w i m.trains[i]) := by
  have ht := List.getElem_mem hi
  have htt := hok.train _ ht
  by_cases hg : goesS m (listL sub m.shops.length) m.trains[i] = true
  · obtain ⟨h1, _, h3, h4, h5⟩ := nAt_spec hok hs hf hi hg
    unfold nextH nextW
    rw [if_pos hg, if_pos hg]
    have hh := subAt_in hf.hn (by omega) h4
    refine ⟨by rw [subAt_len]; exact hf.hl, by rw [subAt_len]; exact hf.wl, hh, subAt_in hf.wn (by omega) h5, ?_⟩
    unfold okAt at h1
    rw [decide_eq_true_eq, served_iff hok _ (fun z hz => (hh z hz).1) hs] at h1
    exact h1
  · unfold nextH nextW
    rw [if_neg hg, if_neg hg]
    refine ⟨hf.hl, hf.wl, hf.hn, hf.wn, fun s hss => ?_⟩
    have h1 := hf.no s hss
    rw [trs_cons hi] at h1
    by_cases hlv : leaves m m.trains[i] = true
    · rw [if_pos hlv] at h1
      have hsf : s m.trains[i].shop.toNat = false := by
        cases e : s m.trains[i].shop.toNat with
        | false => rfl
        | true => exact absurd ((goesS_iff hok ht).2 ⟨hlv, hss _ e⟩) hg
      rw [show ([toTr m.trains[i]] ++ trs m (i + 1)) = toTr m.trains[i] :: trs m (i + 1) from rfl, lk_skip (by exact hsf)] at h1
      exact h1
    · rw [if_neg hlv] at h1; exact h1
/-- Train by train, from i on. -/
def greedy (m : Market) (shops : List Int) : Nat → Nat → List Int → List Int → List Int
  | 0, _, _, _ => []
  | rem + 1, i, h, w => match m.trains[i]? with
    | some t => (nAt m shops h w i t : Int) :: greedy m shops rem (i + 1) (nextH m shops h w i t) (nextW m shops h w i t)
    | none => []
/-- What has been given and what is left, behind i trains. -/
def giveTo (m : Market) (shops : List Int) : Nat → List Int × List Int × List Int
  | 0 => ([], leastL m, wantsL m)
  | i + 1 => match m.trains[i]? with
    | some t => ((giveTo m shops i).1 ++ [(nAt m shops (giveTo m shops i).2.1 (giveTo m shops i).2.2 i t : Int)], nextH m shops (giveTo m shops i).2.1 (giveTo m shops i).2.2 i t, nextW m shops (giveTo m shops i).2.1 (giveTo m shops i).2.2 i t)
    | none => giveTo m shops i
theorem giveTo_succ {m : Market} {shops : List Int} {i : Nat} (hi : i < m.trains.length) : giveTo m shops (i + 1) = ((giveTo m shops i).1 ++ [(nAt m shops (giveTo m shops i).2.1 (giveTo m shops i).2.2 i m.trains[i] : Int)], nextH m shops (giveTo m shops i).2.1 (giveTo m shops i).2.2 i m.trains[i], nextW m shops (giveTo m shops i).2.1 (giveTo m shops i).2.2 i m.trains[i]) := by
  simp only [giveTo, List.getElem?_eq_getElem hi]
theorem giveTo_len {m : Market} {shops : List Int} : ∀ i, i ≤ m.trains.length → (giveTo m shops i).1.length = i
  | 0, _ => rfl
  | i + 1, h => by have ih := giveTo_len (m := m) (shops := shops) i (by omega); rw [giveTo_succ (by omega)]; simp [ih]
theorem giveTo_greedy {m : Market} {shops : List Int} : ∀ (rem i : Nat), i + rem = m.trains.length → (giveTo m shops m.trains.length).1 = (giveTo m shops i).1 ++ greedy m shops rem i (giveTo m shops i).2.1 (giveTo m shops i).2.2
  | 0, i, h => by
    have : i = m.trains.length := by omega
    subst this; simp [greedy]
  | rem + 1, i, h => by
    have hi : i < m.trains.length := by omega
    rw [giveTo_greedy rem (i + 1) (by omega), giveTo_succ hi]
    simp only [greedy, List.getElem?_eq_getElem hi]
    simp
theorem fine_start {m : Market} (hok : m.Ok) {sub : Nat} (hs : sub < 2 ^ m.shops.length) (h : servedR m (leastL m) (listL sub m.shops.length) = true) : FineS m sub 0 (leastL m) (wantsL m) := by
  have hnn := handsL_nn hok false
  simp only [handsL, Bool.false_eq_true, if_false] at hnn
  refine ⟨by simp [leastL], wantsL_len m, fun z hz => ?_, fun z hz => ?_, ?_⟩
  · obtain ⟨r, hr, rfl⟩ := List.mem_map.1 hz; have := hok.room r hr; omega
  · obtain ⟨r, hr, rfl⟩ := List.mem_map.1 hz; have := hok.shop r hr; omega
  · unfold servedR at h
    rw [decide_eq_true_eq, served_iff hok _ hnn hs] at h
    exact h
theorem fine_to {m : Market} (hok : m.Ok) {sub : Nat} (hs : sub < 2 ^ m.shops.length) (h : servedR m (leastL m) (listL sub m.shops.length) = true) : ∀ i, i ≤ m.trains.length → FineS m sub i (giveTo m (listL sub m.shops.length) i).2.1 (giveTo m (listL sub m.shops.length) i).2.2
  | 0, _ => fine_start hok hs h
  | i + 1, hi => by
    have ih := fine_to hok hs h i (by omega)
    rw [giveTo_succ (by omega)]
    exact fine_next hok hs ih (by omega)
end Go.Rt.Sh
/- Plain laws of the shop layer: what the reference gives, train by train, is the first of the program's loads. No conditions. -/
set_option linter.unusedSimpArgs false
set_option linter.unusedVariables false
namespace Go.Rt.Sh
theorem packX_len (h w : List Int) (f : Nat) : (packX h w f).length = 8 := rfl
theorem packX_setH {h w : List Int} {f r : Nat} {z : Int} (hr : r < 3) (hl : r < h.length) : packX (h.set r z) w f = (packX h w f).set r z := packX_set hr hl
theorem packX_setW {h w : List Int} {f s : Nat} {z : Int} (hs : s < 4) (hl : s < w.length) : packX h (w.set s z) f = (packX h w f).set (3 + s) z := by
  refine ext_getD (by simp [packX]) fun i hi => ?_
  have hi8 : i < 8 := hi
  by_cases h3 : 3 ≤ i ∧ i < 7
  · obtain ⟨j, rfl⟩ : ∃ j, i = 3 + j := ⟨i - 3, by omega⟩
    rw [packX_want _ _ _ (by omega)]
    by_cases e : s = j
    · subst e
      rw [getD_set hl, getD_set (by rw [packX_len]; omega)]
    · rw [getD_other e, getD_other (by omega), packX_want _ _ _ (by omega)]
  · rw [getD_other (x := packX h w f) (by omega)]
    have : i = 0 ∨ i = 1 ∨ i = 2 ∨ i = 7 := by omega
    rcases this with rfl | rfl | rfl | rfl <;> rfl
theorem packX_at7 (h w : List Int) (f : Nat) : (packX h w f).getD 7 0 = f := rfl
theorem packX_next (h w : List Int) (f : Nat) : (packX h w f).set 7 ((packX h w f).getD 7 0 + 1) = packX h w (f + 1) := by
  simp [packX]
theorem nextX_pack {m : Market} (hok : m.Ok) {h w : List Int} {i : Nat} {t : Train} (ht : t ∈ m.trains) (hl : h.length = m.rooms.length) (wl : w.length = m.shops.length) (n : Int) : nextX (packX h w i) t n = packX (subAt h t.room.toNat n) (subAt w t.shop.toNat n) (i + 1) := by
  have htt := hok.train t ht
  have hlr := hok.lr
  have hls := hok.ls
  have e1 : nx1 (packX h w i) = packX h w (i + 1) := packX_next h w i
  have e2 : nx2 (packX h w i) t.room.toNat n = packX (subAt h t.room.toNat n) w (i + 1) := by
    unfold nx2 subAt
    rw [e1, packX_setH (by omega) (by omega), packX_hand _ _ _ (by omega)]
  unfold nextX
  rw [e2, packX_want _ _ _ (by omega)]
  conv => rhs; rw [subAt.eq_def w]
  rw [packX_setW (by omega) (by omega)]
theorem served_pack {m : Market} (hok : m.Ok) {h w : List Int} (hl : h.length = m.rooms.length) (wl : w.length = m.shops.length) (hn : ∀ z ∈ h, 0 ≤ z) (wn : ∀ z ∈ w, 0 ≤ z) {sub : Nat} (hs : sub < 2 ^ m.shops.length) (i : Nat) : servedS m (packX h w i) sub = decide ((worstR m h w (listL sub m.shops.length) i).2 = 0) := by
  unfold servedS; rw [worst_same hok hl wl hn wn hs]
theorem subAt_zero (l : List Int) (i : Nat) : subAt l i 0 = l := by
  unfold subAt
  apply List.ext_getElem (by simp)
  intro j h1 h2
  rw [List.getElem_set]
  split
  · rename_i e; subst e; simp [List.getD, h2]
  · rfl
theorem flat_first {α : Type} {f : Nat → List α} {n : Nat} : ∀ (k : Nat), n < k → (∀ q < n, f q = []) → (f n ≠ []) → ((List.range k).flatMap f).head? = (f n).head?
  | 0, h, _, _ => by omega
  | k + 1, h, h0, hn => by
    rw [List.range_succ, List.flatMap_append]
    by_cases e : n = k
    · subst e
      have : (List.range n).flatMap f = [] := by
        rw [List.flatMap_eq_nil_iff]
        intro q hq; rw [List.mem_range] at hq; exact h0 q hq
      rw [this]; simp
    · have ih := flat_first k (by omega) h0 hn
      rw [List.head?_append, ih]
      cases e2 : (f n).head? with
      | none => exact absurd (List.head?_eq_none_iff.1 e2) hn
      | some x => rfl
/-- The first of the loads that the program yields is the greedy one. -/
theorem loads_first {m : Market} (hok : m.Ok) {sub : Nat} (hs : sub < 2 ^ m.shops.length) : ∀ (rem i : Nat) (h w : List Int), i + rem = m.trains.length → FineS m sub i h w → (loadsX m sub rem (packX h w i)).head? = some (greedy m (listL sub m.shops.length) rem i h w)
  | 0, i, h, w, _, _ => rfl
  | rem + 1, i, h, w, hir, hf => by
    have hi : i < m.trains.length := by omega
    have ht := List.getElem_mem hi
    have htt := hok.train _ ht
    have hlr := hok.lr
    have hls := hok.ls
    have hnx := fine_next hok hs hf hi
    have ih := loads_first hok hs rem (i + 1) _ _ (by omega) hnx
    have hgl := goesS_iff hok (sub := sub) ht
    have hnn : ∀ z ∈ h, 0 ≤ z := fun z hz => (hf.hn z hz).1
    have hwn : ∀ z ∈ w, 0 ≤ z := fun z hz => (hf.wn z hz).1
    have e7 : m.trains[((packX h w i).getD 7 0).toNat]? = some m.trains[i] := by
      rw [packX_at7, Int.toNat_natCast, List.getElem?_eq_getElem hi]
    have hmost : (nAt m (listL sub m.shops.length) h w i m.trains[i] : Int) ≤ mostX m sub (packX h w i) m.trains[i] ∧ (∀ q : Nat, q ≤ nAt m (listL sub m.shops.length) h w i m.trains[i] → (q : Int) ≤ gD h m.trains[i].room.toNat ∧ (q : Int) ≤ gD w m.trains[i].shop.toNat) ∧
        (nextH m (listL sub m.shops.length) h w i m.trains[i] = subAt h m.trains[i].room.toNat (nAt m (listL sub m.shops.length) h w i m.trains[i]) ∧ nextW m (listL sub m.shops.length) h w i m.trains[i] = subAt w m.trains[i].shop.toNat (nAt m (listL sub m.shops.length) h w i m.trains[i])) ∧
        ∀ q < nAt m (listL sub m.shops.length) h w i m.trains[i], okAt m (listL sub m.shops.length) h w i m.trains[i] q = false := by
      by_cases hg : goesS m (listL sub m.shops.length) m.trains[i] = true
      · obtain ⟨_, h2, h3, h4, h5⟩ := nAt_spec hok hs hf hi hg
        obtain ⟨g1, g2⟩ := hgl.1 hg
        refine ⟨?_, fun q hq => ⟨by omega, by omega⟩, ⟨by unfold nextH; rw [if_pos hg], by unfold nextW; rw [if_pos hg]⟩, h2⟩
        rw [mostX_yes g1 (of_decide_eq_true g2), packX_hand _ _ _ (by omega), packX_want _ _ _ (by omega)]
        unfold gD at h4 h5
        omega
      · have e0 : nAt m (listL sub m.shops.length) h w i m.trains[i] = 0 := by unfold nAt; rw [if_neg hg]
        rw [e0]
        refine ⟨?_, fun q hq => ?_, ⟨by unfold nextH; rw [if_neg hg]; exact (subAt_zero _ _).symm, by unfold nextW; rw [if_neg hg]; exact (subAt_zero _ _).symm⟩, fun q hq => by omega⟩
        · rw [mostX_no]
          · simp
          · by_cases hl : leaves m m.trains[i] = true
            · right; intro hb; exact hg (hgl.2 ⟨hl, by unfold bset; exact decide_eq_true hb⟩)
            · left; simpa using hl
        · have : q = 0 := by omega
          subst this
          exact ⟨getD_nn hnn _, getD_nn hwn _⟩
    obtain ⟨hm1, hm2, ⟨hm3, hm4⟩, hm5⟩ := hmost
    have hsv : ∀ q : Nat, q ≤ nAt m (listL sub m.shops.length) h w i m.trains[i] → servedS m (nextX (packX h w i) m.trains[i] q) sub = okAt m (listL sub m.shops.length) h w i m.trains[i] q := by
      intro q hq
      obtain ⟨a1, a2⟩ := hm2 q hq
      rw [nextX_pack hok ht hf.hl hf.wl, served_pack hok (by rw [subAt_len]; exact hf.hl) (by rw [subAt_len]; exact hf.wl) (fun z hz => (subAt_in hf.hn (by omega) a1 z hz).1) (fun z hz => (subAt_in hf.wn (by omega) a2 z hz).1) hs]
      rfl
    have hok1 : okAt m (listL sub m.shops.length) h w i m.trains[i] (nAt m (listL sub m.shops.length) h w i m.trains[i]) = true := by
      unfold okAt
      rw [← hm3, ← hm4, decide_eq_true_eq]
      exact fine_served hok hs hnx
    simp only [loadsX, e7, greedy, List.getElem?_eq_getElem hi]
    rw [flat_first (n := nAt m (listL sub m.shops.length) h w i m.trains[i]) _ (by omega) (fun q hq => by rw [hsv q (by omega), hm5 q hq]; rfl)]
    · rw [hsv _ (Nat.le_refl _), hok1, if_pos rfl, List.head?_map, nextX_pack hok ht hf.hl hf.wl, ← hm3, ← hm4, ih]; rfl
    · rw [hsv _ (Nat.le_refl _), hok1, if_pos rfl, nextX_pack hok ht hf.hl hf.wl, ← hm3, ← hm4]
      intro e
      rw [List.map_eq_nil_iff] at e
      rw [e] at ih; cases ih
theorem sub_list : ∀ n < 5, ∀ b < 16, b < 2 ^ n → giveSub (1 <<< n - 1) (listL b n) = bitDiff (1 <<< n - 1) b := by decide +kernel
/-- The set of those that are served. -/
theorem without_sub {m : Market} (hok : m.Ok) : ∃ b < 2 ^ m.shops.length, withoutL m = listL b m.shops.length ∧ othersTo (withoutL m) m.shops.length = listL (giveSub (1 <<< m.shops.length - 1) (withoutL m)) m.shops.length ∧ giveSub (1 <<< m.shops.length - 1) (withoutL m) < 2 ^ m.shops.length ∧ servedR m (leastL m) (othersTo (withoutL m) m.shops.length) = true := by
  have hls := hok.ls
  have hn := others_nil m.shops.length (by omega)
  obtain ⟨h1, h2, _⟩ := withoutTo_min hok _ (Nat.le_refl _)
  have hb : ∃ b < 2 ^ m.shops.length, withoutL m = listL b m.shops.length := by
    rcases h1 with e | ⟨b, hb, e⟩
    · exact ⟨_, hn.2.1, e⟩
    · exact ⟨b, by omega, e⟩
  obtain ⟨b, hb, e⟩ := hb
  have h16 := pow_16 hls hb
  have ho := others_list m.shops.length (by omega) b h16 hb
  refine ⟨b, hb, e, ?_, ?_, h2⟩
  · rw [e, ho.1, sub_list m.shops.length (by omega) b h16 hb]
  · rw [e, sub_list m.shops.length (by omega) b h16 hb]; exact ho.2
def giveR (m : Market) : List Int × Int := if (withoutR m).2 ≠ 0 then ([], (withoutR m).2) else ((giveTo m (othersTo (withoutR m).1 m.shops.length) m.trains.length).1, 0)
theorem giveTo_giveL {m : Market} (hok : m.Ok) : (giveTo m (othersTo (withoutL m) m.shops.length) m.trains.length).1 = giveL m := by
  obtain ⟨b, hb, e, e1, e2, h2⟩ := without_sub hok
  rw [e1] at h2 ⊢
  have hf := fine_start hok e2 h2
  have hfi := loads_first hok e2 m.trains.length 0 _ _ (by omega) hf
  have hg := giveTo_greedy (m := m) (shops := listL (giveSub (1 <<< m.shops.length - 1) (withoutL m)) m.shops.length) m.trains.length 0 (by omega)
  have hx := allX_pack hok false
  simp only [handsL, Bool.false_eq_true, if_false] at hx
  unfold giveL allLoads
  rw [hx]
  cases hL : loadsX m (giveSub (1 <<< m.shops.length - 1) (withoutL m)) m.trains.length (packX (leastL m) (wantsL m) 0) with
  | nil => rw [hL] at hfi; cases hfi
  | cons l R =>
    rw [hL] at hfi
    have e3 : l = greedy m (listL (giveSub (1 <<< m.shops.length - 1) (withoutL m)) m.shops.length) m.trains.length 0 (leastL m) (wantsL m) := by simpa using hfi
    have hlen := (loads_len (m := m) (sub := giveSub (1 <<< m.shops.length - 1) (withoutL m)) m.trains.length (packX (leastL m) (wantsL m) 0) l (by rw [hL]; exact .head _)).1
    rw [hg]
    simp only [List.map_cons]
    show [] ++ greedy m _ _ 0 (leastL m) (wantsL m) = (pad6 l).take m.trains.length
    rw [← e3]
    unfold pad6
    rw [List.take_append_of_le_length (by omega), List.take_of_length_le (by omega)]; rfl
theorem give_same (m : Market) : giveR m = giveP m := by
  unfold giveR giveP
  rw [without_same]
  by_cases h : (check m).2.2 = 0
  · have hne : ¬ ((check m).2.2 ≠ 0) := by simp [h]
    have e : withoutP m = (withoutL m, 0) := by unfold withoutP; rw [if_neg hne]
    rw [e, if_neg hne, if_neg (by simp)]
    show ((giveTo m (othersTo (withoutL m) m.shops.length) m.trains.length).1, (0 : Int)) = (giveL m, 0)
    rw [giveTo_giveL (check_ok h)]
  · have e : withoutP m = ([], (check m).2.2) := by unfold withoutP; rw [if_pos h]
    rw [e, if_pos h, if_pos h]
end Go.Rt.Sh
namespace Go.Rt.Sh
theorem topTo_nn (f : List Int → Int) (all : List (List Int)) : ∀ k, 0 ≤ (topTo f all k).2
  | 0 => by simp [topTo]
  | k + 1 => by
    have ih := topTo_nn f all k
    simp only [topTo]
    split
    · simp
    · cases e : all[k]? with
      | none => exact ih
      | some l =>
        dsimp only [topStep]
        split
        · show 0 ≤ f l; omega
        · exact ih
theorem worstR_nn (m : Market) (hands wants shops : List Int) (fro : Nat) : 0 ≤ (worstR m hands wants shops fro).2 := topTo_nn _ _ _
theorem withoutR_ok {m : Market} (h : (withoutR m).2 = 0) : (check m).2.2 = 0 ∧ (withoutR m).1 = withoutL m := by
  rw [without_same] at h ⊢
  by_cases h1 : (check m).2.2 = 0
  · have hne : ¬ ((check m).2.2 ≠ 0) := by simp [h1]
    unfold withoutP; rw [if_neg hne]; exact ⟨h1, rfl⟩
  · unfold withoutP at h; rw [if_pos h1] at h; exact absurd h h1
theorem subAt_bound {l : List Int} {i : Nat} {n : Int} (h : ∀ z ∈ l, 0 ≤ z ∧ z ≤ 200) (hn : 0 ≤ n ∧ n ≤ 60) : ∀ z ∈ subAt l i n, -10000 ≤ z ∧ z ≤ 10000 := by
  intro z hz
  rcases List.mem_or_eq_of_mem_set hz with h1 | h1
  · have := h z h1; omega
  · have := getD_in (a := 0) (b := 200) (by omega) (by omega) h i
    omega
theorem subAt_cells {cs : List Value} {l : List Int} {r n : Nat} {z : Int} (hn : l.length = n) (hr : r < l.length) (h : cs.take (n * 1) = iv l) : (cs.set r (.int .i64 (l[r] - z))).take (n * 1) = iv (subAt l r z) := by
  rw [List.take_set, h]
  simp [subAt, iv, List.map_set, List.getD, hr]
theorem give_here {m : Market} {shops : List Int} (hsh : ∃ sub < 2 ^ m.shops.length, shops = listL sub m.shops.length ∧ servedR m (leastL m) shops = true) (hok : m.Ok) {i : Nat} (hi : i ≤ m.trains.length) : ∃ sub, FineS m sub i (giveTo m shops i).2.1 (giveTo m shops i).2.2 := by
  obtain ⟨sub, h1, rfl, h2⟩ := hsh
  exact ⟨sub, fine_to hok h1 h2 i hi⟩
theorem nAt_here {m : Market} {shops : List Int} (hsh : ∃ sub < 2 ^ m.shops.length, shops = listL sub m.shops.length ∧ servedR m (leastL m) shops = true) (hok : m.Ok) {i : Nat} (hi : i < m.trains.length) (hg : goesS m shops m.trains[i] = true) :
    okAt m shops (giveTo m shops i).2.1 (giveTo m shops i).2.2 i m.trains[i] (nAt m shops (giveTo m shops i).2.1 (giveTo m shops i).2.2 i m.trains[i]) = true ∧ nAt m shops (giveTo m shops i).2.1 (giveTo m shops i).2.2 i m.trains[i] ≤ 60 ∧ ∀ q < nAt m shops (giveTo m shops i).2.1 (giveTo m shops i).2.2 i m.trains[i], okAt m shops (giveTo m shops i).2.1 (giveTo m shops i).2.2 i m.trains[i] q = false := by
  obtain ⟨sub, h1, rfl, h2⟩ := hsh
  have htt := hok.train _ (List.getElem_mem hi)
  obtain ⟨a, b, c, _⟩ := nAt_spec hok h1 (fine_to hok h1 h2 i (by omega)) hi hg
  exact ⟨a, by omega, b⟩
theorem shops_here {m : Market} (hok : m.Ok) (h : (withoutR m).1 = withoutL m) : ∃ sub < 2 ^ m.shops.length, othersTo (withoutR m).1 m.shops.length = listL sub m.shops.length ∧ servedR m (leastL m) (othersTo (withoutR m).1 m.shops.length) = true := by
  obtain ⟨b, hb, e, e1, e2, h2⟩ := without_sub hok
  rw [h]
  exact ⟨_, e2, e1, h2⟩
theorem withoutL_len (m : Market) : (withoutL m).length ≤ m.shops.length := withoutTo_len m _
end Go.Rt.Sh
/- Plain words that laws of all layers share: numbers by turns, bits. No conditions. -/
set_option linter.unusedSimpArgs false
set_option linter.unusedVariables false
namespace Go.Rt
def turnOf (x : List Int) (n : Nat) : Int := if x.length = 0 then 0 else x.getD (n % x.length) 0
theorem turn_in {x : List Int} (h : ∀ z ∈ x, 0 ≤ z ∧ z ≤ 255) (n : Nat) : 0 ≤ turnOf x n ∧ turnOf x n ≤ 255 := by
  unfold turnOf
  split
  · omega
  · rename_i h0
    have hl : n % x.length < x.length := Nat.mod_lt _ (by omega)
    simp only [List.getD, List.getElem?_eq_getElem hl, Option.getD_some]
    exact h _ (List.getElem_mem hl)
theorem turn_at {x : List Int} {n : Nat} (h : 0 < x.length) : x[n % x.length]'(Nat.mod_lt _ h) = turnOf x n := by
  unfold turnOf
  rw [if_neg (by omega)]
  simp [List.getD, Nat.mod_lt _ h]
theorem shr_half (b i : Nat) : (b >>> i : Nat) / 2 = b >>> (i + 1) := by rw [Nat.shiftRight_succ]
theorem shr_le (b i : Nat) : b >>> i ≤ b := by rw [Nat.shiftRight_eq_div_pow]; exact Nat.div_le_self _ _
end Go.Rt
/- Plain words of the shop layer's laws: any load, what shops get. No conditions. -/
set_option linter.unusedSimpArgs false
set_option linter.unusedVariables false
namespace Go.Rt.Sh
theorem bit_odd (b i : Nat) : (((b >>> i : Nat) : Int) % 2 = 1) ↔ bit b i = 1 := by
  unfold bit
  rw [Nat.and_one_is_mod]; omega
/-- Any load, by turns: what trains below i carry, and what rooms have left. -/
def anyN (m : Market) (x left : List Int) (i : Nat) (t : Train) : Int := if leaves m t then turnOf x i % (min t.cap (left.getD t.room.toNat 0) + 1) else 0
def anyTo (m : Market) (hands x : List Int) : Nat → List Int × List Int
  | 0 => ([], hands)
  | i + 1 => match m.trains[i]? with
    | some t => ((anyTo m hands x i).1 ++ [anyN m x (anyTo m hands x i).2 i t], subAt (anyTo m hands x i).2 t.room.toNat (anyN m x (anyTo m hands x i).2 i t))
    | none => anyTo m hands x i
theorem anyTo_succ {m : Market} {hands x : List Int} {i : Nat} (hi : i < m.trains.length) : anyTo m hands x (i + 1) = ((anyTo m hands x i).1 ++ [anyN m x (anyTo m hands x i).2 i m.trains[i]], subAt (anyTo m hands x i).2 m.trains[i].room.toNat (anyN m x (anyTo m hands x i).2 i m.trains[i])) := by
  simp only [anyTo, List.getElem?_eq_getElem hi]
theorem anyN_in {m : Market} {x left : List Int} {t : Train} (hl : ∀ z ∈ left, 0 ≤ z ∧ z ≤ 200) (hc : 1 ≤ t.cap ∧ t.cap ≤ 60) (i : Nat) : 0 ≤ anyN m x left i t ∧ anyN m x left i t ≤ t.cap ∧ anyN m x left i t ≤ left.getD t.room.toNat 0 ∧ (leaves m t = false → anyN m x left i t = 0) := by
  have hg := getD_in (a := 0) (b := 200) (by omega) (by omega) hl t.room.toNat
  unfold anyN
  split
  · rename_i h
    have h1 := Int.emod_nonneg (turnOf x i) (show min t.cap (left.getD t.room.toNat 0) + 1 ≠ 0 by omega)
    have h2 := Int.emod_lt_of_pos (turnOf x i) (show 0 < min t.cap (left.getD t.room.toNat 0) + 1 by omega)
    exact ⟨by omega, by omega, by omega, fun h' => by rw [h] at h'; cases h'⟩
  · exact ⟨by omega, by omega, by omega, fun _ => rfl⟩
theorem anyTo_fine {m : Market} (hok : m.Ok) {hands x : List Int} (hl : hands.length = m.rooms.length) (hh : ∀ z ∈ hands, 0 ≤ z ∧ z ≤ 200) : ∀ i, i ≤ m.trains.length → (anyTo m hands x i).1.length = i ∧ (anyTo m hands x i).2.length = m.rooms.length ∧ (∀ z ∈ (anyTo m hands x i).2, 0 ≤ z ∧ z ≤ 200) ∧ ∀ z ∈ (anyTo m hands x i).1, 0 ≤ z ∧ z ≤ 60
  | 0, _ => ⟨rfl, hl, hh, by simp [anyTo]⟩
  | i + 1, hi => by
    obtain ⟨h1, h2, h3, h4⟩ := anyTo_fine hok hl hh i (by omega)
    have ht := hok.train _ (List.getElem_mem (show i < m.trains.length by omega))
    have hn := anyN_in (m := m) (x := x) h3 ⟨ht.2.2.2.2.2.2.1, ht.2.2.2.2.2.2.2⟩ i
    rw [anyTo_succ (by omega)]
    refine ⟨by simp [h1], by rw [subAt_len]; exact h2, subAt_in h3 hn.1 hn.2.2.1, fun z hz => ?_⟩
    rcases List.mem_append.1 hz with h | h
    · exact h4 z h
    · simp at h; omega
/-- What shops get of what trains below i carry. -/
def gotTo (m : Market) (load : List Int) : Nat → List Int
  | 0 => List.replicate m.shops.length 0
  | i + 1 => match m.trains[i]? with
    | some t => (gotTo m load i).set t.shop.toNat ((gotTo m load i).getD t.shop.toNat 0 + load.getD i 0)
    | none => gotTo m load i
theorem gotTo_succ {m : Market} {load : List Int} {i : Nat} (hi : i < m.trains.length) (hl : i < load.length) (hs : m.trains[i].shop.toNat < (gotTo m load i).length) : (gotTo m load i).set m.trains[i].shop.toNat ((gotTo m load i)[m.trains[i].shop.toNat] + load[i]) = gotTo m load (i + 1) := by
  simp [gotTo, List.getElem?_eq_getElem hi, List.getD, hl, hs]
theorem gotTo_len (m : Market) (load : List Int) : ∀ i, (gotTo m load i).length = m.shops.length
  | 0 => by simp [gotTo]
  | i + 1 => by
    unfold gotTo
    cases m.trains[i]? with
    | none => exact gotTo_len m load i
    | some t => dsimp only; rw [List.length_set]; exact gotTo_len m load i
theorem gotTo_in {m : Market} {load : List Int} (hl : ∀ z ∈ load, 0 ≤ z ∧ z ≤ 60) : ∀ i : Nat, ∀ z ∈ gotTo m load i, 0 ≤ z ∧ z ≤ 60 * (i : Int)
  | 0, z, h => by simp [gotTo] at h; omega
  | i + 1, z, h => by
    have ih := gotTo_in (m := m) hl i
    unfold gotTo at h
    cases e : m.trains[i]? with
    | none => rw [e] at h; have := ih z h; omega
    | some t =>
      rw [e] at h
      rcases List.mem_or_eq_of_mem_set h with h | h
      · have := ih z h; omega
      · have h1 := getD_in (a := 0) (b := 60 * (i : Int)) (by omega) (by omega) ih t.shop.toNat
        have h2 := getD_in (a := 0) (b := 60) (by omega) (by omega) hl i
        omega
/-- What is asked of how many sets. -/
theorem before_fewer (a b : List Int) : (if a.length = b.length then less a b else decide (a.length < b.length)) = before a b := by
  unfold before
  by_cases h : a.length = b.length
  · rw [if_pos h]; simp [h]
  · rw [if_neg h]; simp [h]
end Go.Rt.Sh
namespace Go.Rt.Sh
theorem anyN_yes {m : Market} {x left : List Int} {i : Nat} {t : Train} {z : Int} (h : leaves m t = true) (hg : left.getD t.room.toNat 0 = z) : anyN m x left i t = turnOf x i % (min t.cap z + 1) := by unfold anyN; rw [if_pos h, hg]
theorem anyN_no {m : Market} {x left : List Int} {i : Nat} {t : Train} (h : leaves m t = false) : anyN m x left i t = 0 := by unfold anyN; rw [if_neg (by simp [h])]
end Go.Rt.Sh
/- The walking engine, part 13: whole quotients. Plain theorems over the kit's fenced calculus. No conditions. -/
set_option linter.unusedSimpArgs false
set_option linter.unusedVariables false
namespace Go.Rt
variable {r : Option Nat} {P : Program} {ops : Array Oper} {Q : Exit → Act → World → Prop} {rest : List Oper} {n : Nat} {ρ : Nat → Value} {ds : List Deferred} {w w0 : World} {d : Option Nat} {ty : TypeId} {p : String} {e : Array Edge} {g : Option (Nat × Bool)} {L : List (Nat × Obj)}
theorem y_quo {t t2 : TypeId} {x y : Operand} {a b : Int} (ho : okO n x = true) (ho1 : okO n y = true) (hx : ev ρ x = .int .i64 a) (hy : ev ρ y = .int .i64 b) (ha : 0 ≤ a) (hb : 0 < b) (hm : a ≤ 9223372036854775807) :
    Yd P (A n ρ ds) ⟨d, .binOp .quo t x y t2, ty, p, e, g⟩ w (.int .i64 (a / b)) := y_bin ho ho1 hx hy fun w => by
  have h0 : b ≠ 0 := by omega
  have h1 : 0 ≤ a / b := Int.ediv_nonneg ha (by omega)
  have h2 : a / b ≤ a := Int.ediv_le_self _ ha
  have hw : IntKind.i64.wrap (a / b) = a / b := wrap_in (by omega) (by omega)
  simp [binOp_quo, Op.intDiv, h0, Int.tdiv_eq_ediv_of_nonneg ha, hw]
theorem y_eqB {t t2 : TypeId} {x y : Operand} {a b : Bool} (ht : P.underlying t = some .bool) (ho : okO n x = true) (ho1 : okO n y = true) (hx : ev ρ x = .bool a) (hy : ev ρ y = .bool b) :
    Yd P (A n ρ ds) ⟨d, .binOp .eql t x y t2, ty, p, e, g⟩ w (.bool (decide (a = b))) := by
  have : (a == b) = decide (a = b) := by cases a <;> cases b <;> rfl
  simp [Yd, execOp, ev_eq ho, ev_eq ho1, hx, hy, eqGuard_at_bool, Sem.run_bind, binOp, run_equal_bool w t a b ht, Result.andThen, this]
theorem y_neB {t t2 : TypeId} {x y : Operand} {a b : Bool} (ht : P.underlying t = some .bool) (ho : okO n x = true) (ho1 : okO n y = true) (hx : ev ρ x = .bool a) (hy : ev ρ y = .bool b) :
    Yd P (A n ρ ds) ⟨d, .binOp .neq t x y t2, ty, p, e, g⟩ w (.bool (!decide (a = b))) := by
  have : (a == b) = decide (a = b) := by cases a <;> cases b <;> rfl
  simp [Yd, execOp, ev_eq ho, ev_eq ho1, hx, hy, eqGuard_at_bool, Sem.run_bind, binOp, run_equal_bool w t a b ht, Result.andThen, this, bne]
/-- A region that draws its order: more is known at first than what stays. -/
theorem w_drawD {id : Nat} {l : List Oper} {Q : Exit → Act → World → Prop} {C0 C : World → Prop} (late : List Nat) (ord : List (Nat × Nat)) (hm : P.follows .mixedOrders = true) (hB : drawOK l.toArray late ord = true) (hC : C0 w) (h0 : ∀ w, C0 w → C w)
    (hdrew : ∀ w, C0 w → C0 { w with drawn := w.drawn + 1 }) (h : ∀ w', C0 w' → DW r P l.toArray (fun a w => Q .normal a w) C ord (A n ρ ds) w') : WC r P (.region id l.toArray true) Q (A n ρ ds) w := by
  unfold drawOK at hB
  simp only [Bool.and_eq_true] at hB
  obtain ⟨⟨⟨h1, h2⟩, h3⟩, h4⟩ := hB
  have hst' := hdrew _ hC
  have hsz : ord.length = l.toArray.size := Nat.eq_of_beq_eq_true h3
  have := wAH_of_DW h1 h2 ord (Array.replicate l.toArray.size false) (A n ρ ds) _ (by simp) h4 (fun _ => h0 _ hst') (h _ hst')
  have hany := wAny_of_wAH _ _ _ _ this
  rw [hsz] at hany
  refine wpIn_mono (wpIn_region_any hm hany) ?_
  intro e a w hq
  cases e <;> first | exact hq | exact hq.elim
end Go.Rt
/- Walks of this seat, printed by gen.py over the engine: what each function returns, in whatever world. No conditions but those of each contract. -/
set_option linter.unusedVariables false
set_option linter.unusedSimpArgs false
set_option maxRecDepth 20000
namespace Go.Proofs
open Go.Rt Go.Rt.Sh
attribute [local irreducible] WL WC Con Yd At Ats Sl Agree DW
theorem Try_R_fb4 (x0 : Int) (w : World) : (Instr.buildSlice 30 1 [(0, .int .i64 x0)].toArray).run Try.prog w = .ok (.slice (some ⟨w.heap.size, 0, none⟩) 1 1) (w.alloc (Go.Rt.blk 3 [.int .i64 x0])) := by kernel_rfl
theorem map_snoc {α : Type} {f : α → Int} {l : List α} {i : Nat} (hi : i < l.length) : (l.take i).map f ++ [f l[i]] = (l.take (i + 1)).map f := by
  rw [List.take_succ_eq_append_getElem hi, List.map_append]; rfl
theorem own_step {α : Type} {f : α → Int} {l : List α} {i : Nat} {v : Value} {B : List (Nat × Obj)} (hi : i < l.length) (h : Rt.Own v 3 1 (((l.take i).map f).length + 1) (iv ((l.take i).map f) ++ [[Value.int .i64 (f l[i])]].flatten) B) : Rt.Own v 3 1 ((l.take (i + 1)).map f).length (iv ((l.take (i + 1)).map f)) B := by
  rw [← map_snoc hi]; exact own_snoc h
theorem c37 {w0 w : World} {F : List (Nat × Obj)} (m : Market) (p : At3) (hm : MIn w0 F m p) (hok : m.Ok) (hs : St w0 w F) :
  Con Try.prog 37 [.agg (m.cells p).toArray] w fun v w' => ∃ B a c, v = .slice a (m.rooms.map (·.lo)).length c ∧ Sl w0 B a 1 ((m.rooms.map (·.lo)).map fun x => [Value.int .i64 x]) ∧ St w0 w' (B ++ F) := by
  refine con_of_wc (n := 23) Try.func37 rfl rfl (Nat.le_of_ble_eq_true rfl) ?_
  obtain ⟨ar, cr, as_, cs, at_, ct⟩ := p
  have hlr := hok.lr
  have hls := hok.ls
  refine w_seq (fun K2 hK1 => ?_)
  refine w_region ?_
  refine w_box (v := .agg #[.slice _ _ _, .slice _ _ _, .slice _ _ _]) (cs := [_, _, _]) want_none rfl rfl rfl hs (fun b3 w4 hs5 => ?_)
  refine w_pure want_none (y_assign (v := _) rfl rfl) rfl ?_
  refine w_nil ?_
  refine q_then (hK1 _ _ ?_)
  refine w_seq (fun K7 hK6 => ?_)
  refine w_region ?_
  refine w_pure want_none (y_assign (v := _) rfl rfl) rfl ?_
  refine w_nil ?_
  refine q_then (hK6 _ _ ?_)
  refine w_seq (fun K9 hK8 => ?_)
  refine w_seq (fun K11 hK10 => ?_)
  refine w_region ?_
  refine w_pure want_none (y_assign (v := _) rfl rfl) rfl ?_
  refine w_nil ?_
  refine q_then (hK10 _ _ ?_)
  refine w_block ?_
  refine w_loop [3, 4, 5, 6, 7, 8, 9, 10, 11, 12, 13, 14, 15, 16, 17, 18, 19, 20, 21] [3, 4] (fun k vs w => ∃ (i : Nat) (v : Value) (B : List (Nat × Obj)), vs = [v, .int .i64 i] ∧ i ≤ m.rooms.length ∧ k = m.rooms.length - i ∧ Rt.Own v 3 1 ((m.rooms.take i).map (·.lo)).length (iv ((m.rooms.take i).map (·.lo))) B ∧ St w0 w ((b3, blk 26 (m.cells ⟨ar, cr, as_, cs, at_, ct⟩)) :: (B ++ F))) (m.rooms.length) ?_ ?_
  ·
   exact ⟨0, _, [], rfl, by omega, by omega, own_nil 3 1, hs5⟩
  ·
   intro k vs μ w14 hI K13 hN12
   obtain ⟨i, v, B, rfl, hia, rfl, hown, hs⟩ := hI
   refine w_seq (fun K16 hK15 => ?_)
   refine w_seq (fun K18 hK17 => ?_)
   refine w_region ?_
   refine w_pure want_none (y_move (v := .int _ _) rfl rfl) rfl ?_
   refine w_pure want_none (y_fieldAddr (o := 0) (i := 0) Try.underlying26 rfl Try.sizeOf22 rfl rfl rfl) rfl ?_
   refine w_pure want_none (y_load1 Try.isAgg22 hs rfl rfl (ats_own (i := 0) (vs := [_]) rfl rfl)) rfl ?_
   refine w_pure want_none (y_lenS Try.underlying22 rfl rfl) rfl ?_
   refine w_pure want_none (y_lss rfl rfl rfl rfl) rfl ?_
   refine w_nil ?_
   refine q_then (hK17 _ _ ?_)
   refine w_cond rfl rfl (fun h19 => ?_) (fun h19 => ?_)
   ·
    try simp only [Bool.not_eq_true', Bool.not_eq_false', decide_eq_true_eq, decide_eq_false_iff_not, Int.not_lt, Int.not_le] at h19
    refine w_skip ?_
    refine q_then (hK15 _ _ ?_)
    refine w_seq (fun K21 hK20 => ?_)
    refine w_block ?_
    have hi2 : i < m.rooms.length := by omega
    obtain ⟨bx, ox, hbx, hx⟩ := sl_rrows hm.r hi2
    subst hbx
    have hln : ((m.rooms.take i).map (·.lo)).length ≤ i := by rw [List.length_map, List.length_take]; omega
    refine w_region ?_
    refine w_pure want_none (y_move (v := v) rfl rfl) rfl ?_
    refine w_pure want_none (y_fieldAddr (o := 0) (i := 0) Try.underlying26 rfl Try.sizeOf22 rfl rfl rfl) rfl ?_
    refine w_pure want_none (y_load1 Try.isAgg22 hs rfl rfl (ats_own (i := 0) (vs := [_]) rfl rfl)) rfl ?_
    refine w_pure want_none (y_move (v := .int _ _) rfl rfl) rfl ?_
    refine w_pure want_none (y_indexS Try.underlying22 Try.sizeOf69 rfl rfl rfl rfl (i := _) rfl (by omega)) rfl ?_
    refine w_pure want_none (y_fieldAddr (o := 1) (i := 1) Try.underlying69 rfl Try.sizeOf67 rfl rfl rfl) rfl ?_
    refine w_pure want_none (y_fieldAddr (o := 0) (i := 0) Try.underlying67 rfl Try.sizeOf3 rfl rfl rfl) rfl ?_
    refine w_pure want_none (y_load1 Try.isAgg3 hs.tail.drop rfl rfl (show Ats _ _ _ _ [_] from Ats.part hx 1 1)) rfl ?_
    refine w_bslice (ps := [(0, _)]) (pv := [(0, .int _ _)]) (cs := [_]) want_none rfl rfl (fun w => Try_R_fb4 _ w) hs (fun b22 w23 hs24 => ?_)
    refine w_append (X := (_ :: _ :: [])) (B := B) (rows := [[_]]) (sz := 1) (bytes := 8) want_none Try.underlying30 Try_info3 rfl rfl rfl rfl rfl rfl rfl rfl rfl hs24 hown (sl_own (i := 0) rfl (by simp) rfl) rfl (by simp) (by simp [Value.oneCell']) (by simp only [maxLen]; omega) (by omega) (fun v25 w26 B27 ho28 hs29 => ?_)
    replace hs29 := (show St _ _ (_ :: _ :: B27 ++ (F)) from hs29)
    refine w_pure want_none (y_assign (v := v25) rfl rfl) rfl ?_
    refine w_nil ?_
    refine q_blk_normal ?_
    refine q_then (hK20 _ _ ?_)
    refine w_region ?_
    refine w_pure want_none (y_move (v := .int _ _) rfl rfl) rfl ?_
    refine w_pure want_none (y_add rfl rfl rfl rfl (by omega) (by omega)) rfl ?_
    refine w_pure want_none (y_assign (v := .int _ _) rfl rfl) rfl ?_
    refine w_nil ?_
    refine q_then (hN12 _ _ (Nx.intro (m.rooms.length - (i + 1)) (by omega) (by repeat (first | exact agree_mix | refine agree_upd rfl ?_ | refine agree_updL rfl ?_ _ | refine agree_mixin rfl ?_)) ?_))
    exact ⟨i + 1, _, _, rfl, by omega, rfl, own_step hi2 ho28, hs29.tail⟩
   ·
    try simp only [Bool.not_eq_true', Bool.not_eq_false', decide_eq_true_eq, decide_eq_false_iff_not, Int.not_lt, Int.not_le] at h19
    refine w_exit ?_
    refine q_then_exit ?_
    refine q_then_exit ?_
    refine q_blk_this ?_
    refine q_then (hK8 _ _ ?_)
    refine w_seq (fun K31 hK30 => ?_)
    refine w_region ?_
    refine w_pure want_none (y_move (v := v) rfl rfl) rfl ?_
    refine w_pure want_none (y_assign (v := v) rfl rfl) rfl ?_
    refine w_nil ?_
    refine q_then (hK30 _ _ ?_)
    refine w_ret ?_
    refine q_ret (l := [.tmp 2]) (vs := [_]) rfl ⟨⟨rfl, show _ = (v : Value) from rfl⟩, trivial⟩ ?_
    have hil : i = m.rooms.length := by omega
    subst hil
    rw [List.take_length] at hown
    obtain ⟨ag, cg, rfl, hsg⟩ := own_sl_map (w0 := w0) hown rfl []
    rw [List.append_nil] at hsg
    exact ⟨B, ag, cg, rfl, hsg, hs.tail⟩

theorem c47 {w0 w : World} {F : List (Nat × Obj)} (m : Market) (p : At3) (hm : MIn w0 F m p) (hok : m.Ok) (hs : St w0 w F) :
  Con Try.prog 47 [.agg (m.cells p).toArray] w fun v w' => ∃ B a c, v = .slice a (m.rooms.map (·.hi)).length c ∧ Sl w0 B a 1 ((m.rooms.map (·.hi)).map fun x => [Value.int .i64 x]) ∧ St w0 w' (B ++ F) := by
  refine con_of_wc (n := 23) Try.func47 rfl rfl (Nat.le_of_ble_eq_true rfl) ?_
  obtain ⟨ar, cr, as_, cs, at_, ct⟩ := p
  have hlr := hok.lr
  have hls := hok.ls
  refine w_seq (fun K2 hK1 => ?_)
  refine w_region ?_
  refine w_box (v := .agg #[.slice _ _ _, .slice _ _ _, .slice _ _ _]) (cs := [_, _, _]) want_none rfl rfl rfl hs (fun b3 w4 hs5 => ?_)
  refine w_pure want_none (y_assign (v := _) rfl rfl) rfl ?_
  refine w_nil ?_
  refine q_then (hK1 _ _ ?_)
  refine w_seq (fun K7 hK6 => ?_)
  refine w_region ?_
  refine w_pure want_none (y_assign (v := _) rfl rfl) rfl ?_
  refine w_nil ?_
  refine q_then (hK6 _ _ ?_)
  refine w_seq (fun K9 hK8 => ?_)
  refine w_seq (fun K11 hK10 => ?_)
  refine w_region ?_
  refine w_pure want_none (y_assign (v := _) rfl rfl) rfl ?_
  refine w_nil ?_
  refine q_then (hK10 _ _ ?_)
  refine w_block ?_
  refine w_loop [3, 4, 5, 6, 7, 8, 9, 10, 11, 12, 13, 14, 15, 16, 17, 18, 19, 20, 21] [3, 4] (fun k vs w => ∃ (i : Nat) (v : Value) (B : List (Nat × Obj)), vs = [v, .int .i64 i] ∧ i ≤ m.rooms.length ∧ k = m.rooms.length - i ∧ Rt.Own v 3 1 ((m.rooms.take i).map (·.hi)).length (iv ((m.rooms.take i).map (·.hi))) B ∧ St w0 w ((b3, blk 26 (m.cells ⟨ar, cr, as_, cs, at_, ct⟩)) :: (B ++ F))) (m.rooms.length) ?_ ?_
  ·
   exact ⟨0, _, [], rfl, by omega, by omega, own_nil 3 1, hs5⟩
  ·
   intro k vs μ w14 hI K13 hN12
   obtain ⟨i, v, B, rfl, hia, rfl, hown, hs⟩ := hI
   refine w_seq (fun K16 hK15 => ?_)
   refine w_seq (fun K18 hK17 => ?_)
   refine w_region ?_
   refine w_pure want_none (y_move (v := .int _ _) rfl rfl) rfl ?_
   refine w_pure want_none (y_fieldAddr (o := 0) (i := 0) Try.underlying26 rfl Try.sizeOf22 rfl rfl rfl) rfl ?_
   refine w_pure want_none (y_load1 Try.isAgg22 hs rfl rfl (ats_own (i := 0) (vs := [_]) rfl rfl)) rfl ?_
   refine w_pure want_none (y_lenS Try.underlying22 rfl rfl) rfl ?_
   refine w_pure want_none (y_lss rfl rfl rfl rfl) rfl ?_
   refine w_nil ?_
   refine q_then (hK17 _ _ ?_)
   refine w_cond rfl rfl (fun h19 => ?_) (fun h19 => ?_)
   ·
    try simp only [Bool.not_eq_true', Bool.not_eq_false', decide_eq_true_eq, decide_eq_false_iff_not, Int.not_lt, Int.not_le] at h19
    refine w_skip ?_
    refine q_then (hK15 _ _ ?_)
    refine w_seq (fun K21 hK20 => ?_)
    refine w_block ?_
    have hi2 : i < m.rooms.length := by omega
    obtain ⟨bx, ox, hbx, hx⟩ := sl_rrows hm.r hi2
    subst hbx
    have hln : ((m.rooms.take i).map (·.hi)).length ≤ i := by rw [List.length_map, List.length_take]; omega
    refine w_region ?_
    refine w_pure want_none (y_move (v := v) rfl rfl) rfl ?_
    refine w_pure want_none (y_fieldAddr (o := 0) (i := 0) Try.underlying26 rfl Try.sizeOf22 rfl rfl rfl) rfl ?_
    refine w_pure want_none (y_load1 Try.isAgg22 hs rfl rfl (ats_own (i := 0) (vs := [_]) rfl rfl)) rfl ?_
    refine w_pure want_none (y_move (v := .int _ _) rfl rfl) rfl ?_
    refine w_pure want_none (y_indexS Try.underlying22 Try.sizeOf69 rfl rfl rfl rfl (i := _) rfl (by omega)) rfl ?_
    refine w_pure want_none (y_fieldAddr (o := 1) (i := 1) Try.underlying69 rfl Try.sizeOf67 rfl rfl rfl) rfl ?_
    refine w_pure want_none (y_fieldAddr (o := 1) (i := 1) Try.underlying67 rfl Try.sizeOf3 rfl rfl rfl) rfl ?_
    refine w_pure want_none (y_load1 Try.isAgg3 hs.tail.drop rfl rfl (show Ats _ _ _ _ [_] from Ats.part hx 2 1)) rfl ?_
    refine w_bslice (ps := [(0, _)]) (pv := [(0, .int _ _)]) (cs := [_]) want_none rfl rfl (fun w => Try_R_fb4 _ w) hs (fun b22 w23 hs24 => ?_)
    refine w_append (X := (_ :: _ :: [])) (B := B) (rows := [[_]]) (sz := 1) (bytes := 8) want_none Try.underlying30 Try_info3 rfl rfl rfl rfl rfl rfl rfl rfl rfl hs24 hown (sl_own (i := 0) rfl (by simp) rfl) rfl (by simp) (by simp [Value.oneCell']) (by simp only [maxLen]; omega) (by omega) (fun v25 w26 B27 ho28 hs29 => ?_)
    replace hs29 := (show St _ _ (_ :: _ :: B27 ++ (F)) from hs29)
    refine w_pure want_none (y_assign (v := v25) rfl rfl) rfl ?_
    refine w_nil ?_
    refine q_blk_normal ?_
    refine q_then (hK20 _ _ ?_)
    refine w_region ?_
    refine w_pure want_none (y_move (v := .int _ _) rfl rfl) rfl ?_
    refine w_pure want_none (y_add rfl rfl rfl rfl (by omega) (by omega)) rfl ?_
    refine w_pure want_none (y_assign (v := .int _ _) rfl rfl) rfl ?_
    refine w_nil ?_
    refine q_then (hN12 _ _ (Nx.intro (m.rooms.length - (i + 1)) (by omega) (by repeat (first | exact agree_mix | refine agree_upd rfl ?_ | refine agree_updL rfl ?_ _ | refine agree_mixin rfl ?_)) ?_))
    exact ⟨i + 1, _, _, rfl, by omega, rfl, own_step hi2 ho28, hs29.tail⟩
   ·
    try simp only [Bool.not_eq_true', Bool.not_eq_false', decide_eq_true_eq, decide_eq_false_iff_not, Int.not_lt, Int.not_le] at h19
    refine w_exit ?_
    refine q_then_exit ?_
    refine q_then_exit ?_
    refine q_blk_this ?_
    refine q_then (hK8 _ _ ?_)
    refine w_seq (fun K31 hK30 => ?_)
    refine w_region ?_
    refine w_pure want_none (y_move (v := v) rfl rfl) rfl ?_
    refine w_pure want_none (y_assign (v := v) rfl rfl) rfl ?_
    refine w_nil ?_
    refine q_then (hK30 _ _ ?_)
    refine w_ret ?_
    refine q_ret (l := [.tmp 2]) (vs := [_]) rfl ⟨⟨rfl, show _ = (v : Value) from rfl⟩, trivial⟩ ?_
    have hil : i = m.rooms.length := by omega
    subst hil
    rw [List.take_length] at hown
    obtain ⟨ag, cg, rfl, hsg⟩ := own_sl_map (w0 := w0) hown rfl []
    rw [List.append_nil] at hsg
    exact ⟨B, ag, cg, rfl, hsg, hs.tail⟩

theorem c72 {w0 w : World} {F : List (Nat × Obj)} (m : Market) (p : At3) (hm : MIn w0 F m p) (hok : m.Ok) (hs : St w0 w F) :
  Con Try.prog 72 [.agg (m.cells p).toArray] w fun v w' => ∃ B a c, v = .slice a (m.shops.map (·.want)).length c ∧ Sl w0 B a 1 ((m.shops.map (·.want)).map fun x => [Value.int .i64 x]) ∧ St w0 w' (B ++ F) := by
  refine con_of_wc (n := 22) Try.func72 rfl rfl (Nat.le_of_ble_eq_true rfl) ?_
  obtain ⟨ar, cr, as_, cs, at_, ct⟩ := p
  have hlr := hok.lr
  have hls := hok.ls
  refine w_seq (fun K2 hK1 => ?_)
  refine w_region ?_
  refine w_box (v := .agg #[.slice _ _ _, .slice _ _ _, .slice _ _ _]) (cs := [_, _, _]) want_none rfl rfl rfl hs (fun b3 w4 hs5 => ?_)
  refine w_pure want_none (y_assign (v := _) rfl rfl) rfl ?_
  refine w_nil ?_
  refine q_then (hK1 _ _ ?_)
  refine w_seq (fun K7 hK6 => ?_)
  refine w_region ?_
  refine w_pure want_none (y_assign (v := _) rfl rfl) rfl ?_
  refine w_nil ?_
  refine q_then (hK6 _ _ ?_)
  refine w_seq (fun K9 hK8 => ?_)
  refine w_seq (fun K11 hK10 => ?_)
  refine w_region ?_
  refine w_pure want_none (y_assign (v := _) rfl rfl) rfl ?_
  refine w_nil ?_
  refine q_then (hK10 _ _ ?_)
  refine w_block ?_
  refine w_loop [3, 4, 5, 6, 7, 8, 9, 10, 11, 12, 13, 14, 15, 16, 17, 18, 19, 20] [3, 4] (fun k vs w => ∃ (i : Nat) (v : Value) (B : List (Nat × Obj)), vs = [v, .int .i64 i] ∧ i ≤ m.shops.length ∧ k = m.shops.length - i ∧ Rt.Own v 3 1 ((m.shops.take i).map (·.want)).length (iv ((m.shops.take i).map (·.want))) B ∧ St w0 w ((b3, blk 26 (m.cells ⟨ar, cr, as_, cs, at_, ct⟩)) :: (B ++ F))) (m.shops.length) ?_ ?_
  ·
   exact ⟨0, _, [], rfl, by omega, by omega, own_nil 3 1, hs5⟩
  ·
   intro k vs μ w14 hI K13 hN12
   obtain ⟨i, v, B, rfl, hia, rfl, hown, hs⟩ := hI
   refine w_seq (fun K16 hK15 => ?_)
   refine w_seq (fun K18 hK17 => ?_)
   refine w_region ?_
   refine w_pure want_none (y_move (v := .int _ _) rfl rfl) rfl ?_
   refine w_pure want_none (y_fieldAddr (o := 1) (i := 1) Try.underlying26 rfl Try.sizeOf23 rfl rfl rfl) rfl ?_
   refine w_pure want_none (y_load1 Try.isAgg23 hs rfl rfl (ats_own (i := 0) (vs := [_]) rfl rfl)) rfl ?_
   refine w_pure want_none (y_lenS Try.underlying23 rfl rfl) rfl ?_
   refine w_pure want_none (y_lss rfl rfl rfl rfl) rfl ?_
   refine w_nil ?_
   refine q_then (hK17 _ _ ?_)
   refine w_cond rfl rfl (fun h19 => ?_) (fun h19 => ?_)
   ·
    try simp only [Bool.not_eq_true', Bool.not_eq_false', decide_eq_true_eq, decide_eq_false_iff_not, Int.not_lt, Int.not_le] at h19
    refine w_skip ?_
    refine q_then (hK15 _ _ ?_)
    refine w_seq (fun K21 hK20 => ?_)
    refine w_block ?_
    have hi2 : i < m.shops.length := by omega
    obtain ⟨bx, ox, hbx, hx⟩ := sl_srows hm.s hi2
    subst hbx
    have hln : ((m.shops.take i).map (·.want)).length ≤ i := by rw [List.length_map, List.length_take]; omega
    refine w_region ?_
    refine w_pure want_none (y_move (v := v) rfl rfl) rfl ?_
    refine w_pure want_none (y_fieldAddr (o := 1) (i := 1) Try.underlying26 rfl Try.sizeOf23 rfl rfl rfl) rfl ?_
    refine w_pure want_none (y_load1 Try.isAgg23 hs rfl rfl (ats_own (i := 0) (vs := [_]) rfl rfl)) rfl ?_
    refine w_pure want_none (y_move (v := .int _ _) rfl rfl) rfl ?_
    refine w_pure want_none (y_indexS Try.underlying23 Try.sizeOf52 rfl rfl rfl rfl (i := _) rfl (by omega)) rfl ?_
    refine w_pure want_none (y_fieldAddr (o := 2) (i := 2) Try.underlying52 rfl Try.sizeOf3 rfl rfl rfl) rfl ?_
    refine w_pure want_none (y_load1 Try.isAgg3 hs.tail.drop rfl rfl (show Ats _ _ _ _ [_] from Ats.part hx 2 1)) rfl ?_
    refine w_bslice (ps := [(0, _)]) (pv := [(0, .int _ _)]) (cs := [_]) want_none rfl rfl (fun w => Try_R_fb4 _ w) hs (fun b22 w23 hs24 => ?_)
    refine w_append (X := (_ :: _ :: [])) (B := B) (rows := [[_]]) (sz := 1) (bytes := 8) want_none Try.underlying30 Try_info3 rfl rfl rfl rfl rfl rfl rfl rfl rfl hs24 hown (sl_own (i := 0) rfl (by simp) rfl) rfl (by simp) (by simp [Value.oneCell']) (by simp only [maxLen]; omega) (by omega) (fun v25 w26 B27 ho28 hs29 => ?_)
    replace hs29 := (show St _ _ (_ :: _ :: B27 ++ (F)) from hs29)
    refine w_pure want_none (y_assign (v := v25) rfl rfl) rfl ?_
    refine w_nil ?_
    refine q_blk_normal ?_
    refine q_then (hK20 _ _ ?_)
    refine w_region ?_
    refine w_pure want_none (y_move (v := .int _ _) rfl rfl) rfl ?_
    refine w_pure want_none (y_add rfl rfl rfl rfl (by omega) (by omega)) rfl ?_
    refine w_pure want_none (y_assign (v := .int _ _) rfl rfl) rfl ?_
    refine w_nil ?_
    refine q_then (hN12 _ _ (Nx.intro (m.shops.length - (i + 1)) (by omega) (by repeat (first | exact agree_mix | refine agree_upd rfl ?_ | refine agree_updL rfl ?_ _ | refine agree_mixin rfl ?_)) ?_))
    exact ⟨i + 1, _, _, rfl, by omega, rfl, own_step hi2 ho28, hs29.tail⟩
   ·
    try simp only [Bool.not_eq_true', Bool.not_eq_false', decide_eq_true_eq, decide_eq_false_iff_not, Int.not_lt, Int.not_le] at h19
    refine w_exit ?_
    refine q_then_exit ?_
    refine q_then_exit ?_
    refine q_blk_this ?_
    refine q_then (hK8 _ _ ?_)
    refine w_seq (fun K31 hK30 => ?_)
    refine w_region ?_
    refine w_pure want_none (y_move (v := v) rfl rfl) rfl ?_
    refine w_pure want_none (y_assign (v := v) rfl rfl) rfl ?_
    refine w_nil ?_
    refine q_then (hK30 _ _ ?_)
    refine w_ret ?_
    refine q_ret (l := [.tmp 2]) (vs := [_]) rfl ⟨⟨rfl, show _ = (v : Value) from rfl⟩, trivial⟩ ?_
    have hil : i = m.shops.length := by omega
    subst hil
    rw [List.take_length] at hown
    obtain ⟨ag, cg, rfl, hsg⟩ := own_sl_map (w0 := w0) hown rfl []
    rw [List.append_nil] at hsg
    exact ⟨B, ag, cg, rfl, hsg, hs.tail⟩

end Go.Proofs
