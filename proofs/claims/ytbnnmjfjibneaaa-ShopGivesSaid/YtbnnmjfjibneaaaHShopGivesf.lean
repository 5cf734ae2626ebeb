/- Own texts of this claim, joined. No conditions. -/
import Derived.Test.YtbnnmjfjibneaaaHShopGivesa
import Derived.Test.YtbnnmjfjibneaaaHShopGivesb
import Derived.Test.YtbnnmjfjibneaaaHShopGivesc
import Derived.Test.YtbnnmjfjibneaaaHShopGivesd
import Derived.Test.YtbnnmjfjibneaaaHShopGivese
/- Walks of this seat, printed by gen.py over the engine: what each function returns, in whatever world. No conditions but those of each contract. -/
set_option linter.unusedVariables false
set_option linter.unusedSimpArgs false
set_option maxRecDepth 20000
namespace Go.Proofs
open Go.Rt Go.Rt.Sh
attribute [local irreducible] WL WC Con Yd At Ats Sl Agree DW
theorem Try_P_fb4 (x0 : Int) (x1 : Int) (w : World) : (Instr.build 67 [(0, .int .i64 x0), (1, .int .i64 x1)].toArray).run Try.prog w = .ok (.agg #[.int .i64 x0, .int .i64 x1]) w := by kernel_rfl
theorem Try_P_fb5 (x0 : ByteArray) (x1 : Int) (x2 : Int) (x3 : Int) (x4 : Int) (w : World) : (Instr.build 69 [(0, .string x0), (1, .agg #[.int .i64 x1, .int .i64 x2]), (2, .int .i64 x3), (3, .int .i64 x4)].toArray).run Try.prog w = .ok (.agg #[.string x0, .int .i64 x1, .int .i64 x2, .int .i64 x3, .int .i64 x4]) w := by kernel_rfl
theorem Try_P_fb6 (x0 : ByteArray) (x1 : Int) (x2 : Int) (x3 : Int) (x4 : Int) (x5 : ByteArray) (x6 : Int) (x7 : Int) (x8 : Int) (x9 : Int) (w : World) : (Instr.buildSlice 22 2 [(0, .agg #[.string x0, .int .i64 x1, .int .i64 x2, .int .i64 x3, .int .i64 x4]), (1, .agg #[.string x5, .int .i64 x6, .int .i64 x7, .int .i64 x8, .int .i64 x9])].toArray).run Try.prog w = .ok (.slice (some ⟨w.heap.size, 0, none⟩) 2 2) (w.alloc (Go.Rt.blk 69 [.string x0, .int .i64 x1, .int .i64 x2, .int .i64 x3, .int .i64 x4, .string x5, .int .i64 x6, .int .i64 x7, .int .i64 x8, .int .i64 x9])) := by kernel_rfl
theorem Try_P_fb7 (x0 : ByteArray) (x1 : Int) (x2 : Int) (w : World) : (Instr.build 52 [(0, .string x0), (1, .int .i64 x1), (2, .int .i64 x2)].toArray).run Try.prog w = .ok (.agg #[.string x0, .int .i64 x1, .int .i64 x2]) w := by kernel_rfl
theorem Try_P_fb8 (x0 : ByteArray) (x1 : Int) (x2 : Int) (x3 : ByteArray) (x4 : Int) (x5 : Int) (x6 : ByteArray) (x7 : Int) (x8 : Int) (w : World) : (Instr.buildSlice 23 3 [(0, .agg #[.string x0, .int .i64 x1, .int .i64 x2]), (1, .agg #[.string x3, .int .i64 x4, .int .i64 x5]), (2, .agg #[.string x6, .int .i64 x7, .int .i64 x8])].toArray).run Try.prog w = .ok (.slice (some ⟨w.heap.size, 0, none⟩) 3 3) (w.alloc (Go.Rt.blk 52 [.string x0, .int .i64 x1, .int .i64 x2, .string x3, .int .i64 x4, .int .i64 x5, .string x6, .int .i64 x7, .int .i64 x8])) := by kernel_rfl
theorem Try_P_fb9 (x0 : Int) (x1 : Int) (w : World) : (Instr.build 63 [(2, .int .i64 x0), (3, .int .i64 x1)].toArray).run Try.prog w = .ok (.agg #[.int .i64 0, .int .i64 0, .int .i64 x0, .int .i64 x1]) w := by kernel_rfl
theorem Try_P_fb10 (x0 : Int) (x1 : Int) (x2 : Int) (w : World) : (Instr.build 63 [(1, .int .i64 x0), (2, .int .i64 x1), (3, .int .i64 x2)].toArray).run Try.prog w = .ok (.agg #[.int .i64 0, .int .i64 x0, .int .i64 x1, .int .i64 x2]) w := by kernel_rfl
theorem Try_P_fb11 (x0 : Int) (x1 : Int) (x2 : Int) (x3 : Int) (w : World) : (Instr.build 63 [(0, .int .i64 x0), (1, .int .i64 x1), (2, .int .i64 x2), (3, .int .i64 x3)].toArray).run Try.prog w = .ok (.agg #[.int .i64 x0, .int .i64 x1, .int .i64 x2, .int .i64 x3]) w := by kernel_rfl
theorem Try_P_fb12 (x0 : Int) (x1 : Int) (x2 : Int) (x3 : Int) (x4 : Int) (x5 : Int) (x6 : Int) (x7 : Int) (x8 : Int) (x9 : Int) (x10 : Int) (x11 : Int) (x12 : Int) (x13 : Int) (x14 : Int) (x15 : Int) (x16 : Int) (x17 : Int) (x18 : Int) (x19 : Int) (w : World) : (Instr.buildSlice 24 5 [(0, .agg #[.int .i64 x0, .int .i64 x1, .int .i64 x2, .int .i64 x3]), (1, .agg #[.int .i64 x4, .int .i64 x5, .int .i64 x6, .int .i64 x7]), (2, .agg #[.int .i64 x8, .int .i64 x9, .int .i64 x10, .int .i64 x11]), (3, .agg #[.int .i64 x12, .int .i64 x13, .int .i64 x14, .int .i64 x15]), (4, .agg #[.int .i64 x16, .int .i64 x17, .int .i64 x18, .int .i64 x19])].toArray).run Try.prog w = .ok (.slice (some ⟨w.heap.size, 0, none⟩) 5 5) (w.alloc (Go.Rt.blk 63 [.int .i64 x0, .int .i64 x1, .int .i64 x2, .int .i64 x3, .int .i64 x4, .int .i64 x5, .int .i64 x6, .int .i64 x7, .int .i64 x8, .int .i64 x9, .int .i64 x10, .int .i64 x11, .int .i64 x12, .int .i64 x13, .int .i64 x14, .int .i64 x15, .int .i64 x16, .int .i64 x17, .int .i64 x18, .int .i64 x19])) := by kernel_rfl
theorem Try_P_fb13 (x0 : Option Addr) (l0 c0 : Nat) (x1 : Option Addr) (l1 c1 : Nat) (x2 : Option Addr) (l2 c2 : Nat) (w : World) : (Instr.build 26 [(0, .slice x0 l0 c0), (1, .slice x1 l1 c1), (2, .slice x2 l2 c2)].toArray).run Try.prog w = .ok (.agg #[.slice x0 l0 c0, .slice x1 l1 c1, .slice x2 l2 c2]) w := by kernel_rfl
theorem Try_P_fb14 (x0 : Int) (x1 : Int) (x2 : Int) (w : World) : (Instr.buildSlice 30 3 [(0, .int .i64 x0), (1, .int .i64 x1), (2, .int .i64 x2)].toArray).run Try.prog w = .ok (.slice (some ⟨w.heap.size, 0, none⟩) 3 3) (w.alloc (Go.Rt.blk 3 [.int .i64 x0, .int .i64 x1, .int .i64 x2])) := by kernel_rfl
theorem Try_P_fb15 (x0 : Int) (x1 : Int) (w : World) : (Instr.buildSlice 30 2 [(0, .int .i64 x0), (1, .int .i64 x1)].toArray).run Try.prog w = .ok (.slice (some ⟨w.heap.size, 0, none⟩) 2 2) (w.alloc (Go.Rt.blk 3 [.int .i64 x0, .int .i64 x1])) := by kernel_rfl
theorem Try_P_fb16 (x0 : Int) (w : World) : (Instr.buildSlice 30 1 [(0, .int .i64 x0)].toArray).run Try.prog w = .ok (.slice (some ⟨w.heap.size, 0, none⟩) 1 1) (w.alloc (Go.Rt.blk 3 [.int .i64 x0])) := by kernel_rfl
theorem Try_P_fb17 (x0 : Int) (x1 : Int) (x2 : Int) (x3 : Int) (w : World) : (Instr.buildSlice 30 4 [(0, .int .i64 x0), (1, .int .i64 x1), (2, .int .i64 x2), (3, .int .i64 x3)].toArray).run Try.prog w = .ok (.slice (some ⟨w.heap.size, 0, none⟩) 4 4) (w.alloc (Go.Rt.blk 3 [.int .i64 x0, .int .i64 x1, .int .i64 x2, .int .i64 x3])) := by kernel_rfl
theorem Try_P_fb18 (x0 : Int) (x1 : Int) (x2 : Int) (x3 : Int) (x4 : Int) (w : World) : (Instr.buildSlice 30 5 [(0, .int .i64 x0), (1, .int .i64 x1), (2, .int .i64 x2), (3, .int .i64 x3), (4, .int .i64 x4)].toArray).run Try.prog w = .ok (.slice (some ⟨w.heap.size, 0, none⟩) 5 5) (w.alloc (Go.Rt.blk 3 [.int .i64 x0, .int .i64 x1, .int .i64 x2, .int .i64 x3, .int .i64 x4])) := by kernel_rfl
theorem gen_Z {w0 w : World} {L : List (Nat × Obj)} (hs : St w0 w L) : ∃ Z, Z = L ∧ St w0 w Z := ⟨L, rfl, hs⟩
theorem con_true {k : FuncId} {args : List Value} {w : World} {x : Bool} {S : World → Prop} (h : Con Try.prog k args w fun v w' => v = .bool x ∧ S w') (hx : x = true) : Con Try.prog k args w fun v w' => v = .bool true ∧ S w' := by subst hx; exact h
theorem drop_4th {w0 w : World} {F : List (Nat × Obj)} {a b c d : Nat × Obj} (h : St w0 w (a :: b :: c :: d :: F)) : St w0 w (a :: b :: c :: F) := (h.perm (perm_mid [a, b, c] [d] F)).tail
theorem ex_min {w0 : World} {L : List (Nat × Obj)} {i1 i2 i3 bt bs br : Nat} {x y : Int} (ht : L[i1]? = some (bt, blk 63 (trows (exM x y).trains).flatten)) (hs : L[i2]? = some (bs, blk 52 (srows (exM x y).shops).flatten)) (hr : L[i3]? = some (br, blk 69 (rrows (exM x y).rooms).flatten)) : MIn w0 L (exM x y) ⟨some ⟨br, 0, none⟩, 2, some ⟨bs, 0, none⟩, 3, some ⟨bt, 0, none⟩, 5⟩ where
  r := sl_own hr (by intro row h; obtain ⟨q, _, rfl⟩ := List.mem_map.1 h; rfl) rfl
  s := sl_own hs (by intro row h; obtain ⟨q, _, rfl⟩ := List.mem_map.1 h; rfl) rfl
  t := sl_own ht (by intro row h; obtain ⟨q, _, rfl⟩ := List.mem_map.1 h; rfl) rfl
  lr := by simp [exM]
  ls := by simp [exM]
  lt := by simp [exM]
  cr := by simp [exM]
  cs := by simp [exM]
  ct := by simp [exM]
  nr := by intro q hq; simp only [exM, List.mem_cons, List.not_mem_nil, or_false] at hq; rcases hq with rfl | rfl <;> (dsimp only; decide)
  ns := by intro q hq; simp only [exM, List.mem_cons, List.not_mem_nil, or_false] at hq; rcases hq with rfl | rfl | rfl <;> (dsimp only; decide)
theorem c78 {w0 w : World} {F : List (Nat × Obj)} (x y : Int) (hs : St w0 w F) :
  Con Try.prog 78 [.int .i64 x, .int .i64 y] w fun v w' => v = .agg #[.int .i64 x, .int .i64 y] ∧ St w0 w' F := by
  refine con_of_wc (n := 8) Try.func78 rfl rfl (Nat.le_of_ble_eq_true rfl) ?_
  refine w_seq (fun K2 hK1 => ?_)
  refine w_region ?_
  refine w_alloc (cs := [_, _]) want_none Try.zeroValue67 rfl hs (fun b3 w4 hs5 => ?_)
  refine w_nil ?_
  refine q_then (hK1 _ _ ?_)
  refine w_seq (fun K7 hK6 => ?_)
  refine w_region ?_
  refine w_pure want_none (y_move (v := .int _ _) rfl rfl) rfl ?_
  refine w_pure want_none (y_move (v := .int _ _) rfl rfl) rfl ?_
  refine w_pure want_none (y_build (ps := [(0, _), (1, _)]) (pv := [(0, .int _ _), (1, .int _ _)]) rfl rfl (fun w => Try_P_fb4 _ _ w)) rfl ?_
  refine w_store (i := 0) (v := .agg #[.int _ _, .int _ _]) (vs := [_, _]) want_none Try.sizeOf67 rfl rfl rfl rfl rfl (by simp [Value.oneCell']) hs5 rfl (Nat.le_of_ble_eq_true rfl) (fun w8 hs9 => ?_)
  refine w_nil ?_
  refine q_then (hK6 _ _ ?_)
  refine w_ret ?_
  refine q_ret (l := [.cell 4 67]) (vs := [_]) rfl ⟨⟨rfl, _, rfl, run_loadVarN (vs := [_, _]) Try.isAgg67 Try.sizeOf67 hs9 (ats_own (i := 0) (vs := [_, _]) rfl rfl)⟩, trivial⟩ ?_
  exact ⟨rfl, hs9.tail⟩

theorem c34 {w0 w : World} {F : List (Nat × Obj)} (x y : Int) (hs : St w0 w F) :
  Con Try.prog 34 [.int .i64 x, .int .i64 y] w fun v w' => ∃ bt bs br, v = .agg #[.slice (some ⟨br, 0, none⟩) 2 2, .slice (some ⟨bs, 0, none⟩) 3 3, .slice (some ⟨bt, 0, none⟩) 5 5] ∧ St w0 w' ((bt, blk 63 (trows (exM x y).trains).flatten) :: (bs, blk 52 (srows (exM x y).shops).flatten) :: (br, blk 69 (rrows (exM x y).rooms).flatten) :: F) := by
  refine con_of_wc (n := 23) Try.func34 rfl rfl (Nat.le_of_ble_eq_true rfl) ?_
  refine w_seq (fun K2 hK1 => ?_)
  refine w_region ?_
  refine w_alloc (cs := [_, _, _]) want_none Try.zeroValue26 rfl hs (fun b3 w4 hs5 => ?_)
  refine w_nil ?_
  refine q_then (hK1 _ _ ?_)
  refine w_seq (fun K7 hK6 => ?_)
  refine w_region ?_
  refine w_call want_none Try.call78 rfl rfl rfl rfl (c78 _ _ hs5) ?_
  rintro _ w9 ⟨rfl, hs10⟩
  refine w_pure want_none (y_move (v := .int _ _) rfl rfl) rfl ?_
  refine w_pure want_none (y_build (ps := [(0, _), (1, _), (2, _), (3, _)]) (pv := [(0, .string _), (1, .agg #[.int _ _, .int _ _]), (2, .int _ _), (3, .int _ _)]) rfl rfl (fun w => Try_P_fb5 _ _ _ _ _ w)) rfl ?_
  refine w_call want_none Try.call78 rfl rfl rfl rfl (c78 _ _ hs10) ?_
  rintro _ w12 ⟨rfl, hs13⟩
  refine w_pure want_none (y_build (ps := [(0, _), (1, _), (2, _), (3, _)]) (pv := [(0, .string _), (1, .agg #[.int _ _, .int _ _]), (2, .int _ _), (3, .int _ _)]) rfl rfl (fun w => Try_P_fb5 _ _ _ _ _ w)) rfl ?_
  refine w_bslice (ps := [(0, _), (1, _)]) (pv := [(0, .agg #[.string _, .int _ _, .int _ _, .int _ _, .int _ _]), (1, .agg #[.string _, .int _ _, .int _ _, .int _ _, .int _ _])]) (cs := [_, _, _, _, _, _, _, _, _, _]) want_none rfl rfl (fun w => Try_P_fb6 _ _ _ _ _ _ _ _ _ _ w) hs13 (fun b14 w15 hs16 => ?_)
  refine w_pure want_none (y_build (ps := [(0, _), (1, _), (2, _)]) (pv := [(0, .string _), (1, .int _ _), (2, .int _ _)]) rfl rfl (fun w => Try_P_fb7 _ _ _ w)) rfl ?_
  refine w_pure want_none (y_move (v := .int _ _) rfl rfl) rfl ?_
  refine w_pure want_none (y_build (ps := [(0, _), (1, _), (2, _)]) (pv := [(0, .string _), (1, .int _ _), (2, .int _ _)]) rfl rfl (fun w => Try_P_fb7 _ _ _ w)) rfl ?_
  refine w_pure want_none (y_build (ps := [(0, _), (1, _), (2, _)]) (pv := [(0, .string _), (1, .int _ _), (2, .int _ _)]) rfl rfl (fun w => Try_P_fb7 _ _ _ w)) rfl ?_
  refine w_bslice (ps := [(0, _), (1, _), (2, _)]) (pv := [(0, .agg #[.string _, .int _ _, .int _ _]), (1, .agg #[.string _, .int _ _, .int _ _]), (2, .agg #[.string _, .int _ _, .int _ _])]) (cs := [_, _, _, _, _, _, _, _, _]) want_none rfl rfl (fun w => Try_P_fb8 _ _ _ _ _ _ _ _ _ w) hs16 (fun b17 w18 hs19 => ?_)
  refine w_pure want_none (y_build (ps := [(2, _), (3, _)]) (pv := [(2, .int _ _), (3, .int _ _)]) rfl rfl (fun w => Try_P_fb9 _ _ w)) rfl ?_
  refine w_pure want_none (y_build (ps := [(1, _), (2, _), (3, _)]) (pv := [(1, .int _ _), (2, .int _ _), (3, .int _ _)]) rfl rfl (fun w => Try_P_fb10 _ _ _ w)) rfl ?_
  refine w_pure want_none (y_build (ps := [(0, _), (1, _), (2, _), (3, _)]) (pv := [(0, .int _ _), (1, .int _ _), (2, .int _ _), (3, .int _ _)]) rfl rfl (fun w => Try_P_fb11 _ _ _ _ w)) rfl ?_
  refine w_pure want_none (y_build (ps := [(0, _), (1, _), (2, _), (3, _)]) (pv := [(0, .int _ _), (1, .int _ _), (2, .int _ _), (3, .int _ _)]) rfl rfl (fun w => Try_P_fb11 _ _ _ _ w)) rfl ?_
  refine w_pure want_none (y_build (ps := [(1, _), (2, _), (3, _)]) (pv := [(1, .int _ _), (2, .int _ _), (3, .int _ _)]) rfl rfl (fun w => Try_P_fb10 _ _ _ w)) rfl ?_
  refine w_bslice (ps := [(0, _), (1, _), (2, _), (3, _), (4, _)]) (pv := [(0, .agg #[.int _ _, .int _ _, .int _ _, .int _ _]), (1, .agg #[.int _ _, .int _ _, .int _ _, .int _ _]), (2, .agg #[.int _ _, .int _ _, .int _ _, .int _ _]), (3, .agg #[.int _ _, .int _ _, .int _ _, .int _ _]), (4, .agg #[.int _ _, .int _ _, .int _ _, .int _ _])]) (cs := [_, _, _, _, _, _, _, _, _, _, _, _, _, _, _, _, _, _, _, _]) want_none rfl rfl (fun w => Try_P_fb12 _ _ _ _ _ _ _ _ _ _ _ _ _ _ _ _ _ _ _ _ w) hs19 (fun b20 w21 hs22 => ?_)
  refine w_pure want_none (y_build (ps := [(0, _), (1, _), (2, _)]) (pv := [(0, .slice _ _ _), (1, .slice _ _ _), (2, .slice _ _ _)]) rfl rfl (fun w => Try_P_fb13 _ _ _ _ _ _ _ _ _ w)) rfl ?_
  refine w_store (i := 3) (v := .agg #[.slice _ _ _, .slice _ _ _, .slice _ _ _]) (vs := [_, _, _]) want_none Try.sizeOf26 rfl rfl rfl rfl rfl (by simp [Value.oneCell']) hs22 rfl (Nat.le_of_ble_eq_true rfl) (fun w23 hs24 => ?_)
  refine w_nil ?_
  refine q_then (hK6 _ _ ?_)
  refine w_ret ?_
  refine q_ret (l := [.cell 4 26]) (vs := [_]) rfl ⟨⟨rfl, _, rfl, run_loadVarN (vs := [_, _, _]) Try.isAgg26 Try.sizeOf26 hs24 (ats_own (i := 3) (vs := [_, _, _]) rfl rfl)⟩, trivial⟩ ?_
  exact ⟨_, _, _, rfl, drop_4th hs24⟩

theorem c21 {w0 w : World} {F : List (Nat × Obj)}  (hs : St w0 w F) :
  Con Try.prog 21 [] w fun v w' => v = .bool true ∧ St w0 w' F := by
  refine con_of_wc (n := 178) Try.func21 rfl rfl (Nat.le_of_ble_eq_true rfl) ?_
  refine w_seq (fun K2 hK1 => ?_)
  refine w_region ?_
  refine w_pure want_none (y_assign (v := _) rfl rfl) rfl ?_
  refine w_nil ?_
  refine q_then (hK1 _ _ ?_)
  refine w_seq (fun K4 hK3 => ?_)
  refine w_region ?_
  refine w_call want_none Try.call34 rfl rfl rfl rfl (c34 2 10 hs) ?_
  rintro _ w6 ⟨t1, s1, r1, rfl, hs7⟩
  refine w_call want_none Try.call34 rfl rfl rfl rfl (c34 3 10 hs7) ?_
  rintro _ w9 ⟨t2, s2, r2, rfl, hs10⟩
  refine w_alloc (cs := [_, _, _]) want_none Try.zeroValue26 rfl hs10 (fun b11 w12 hs13 => ?_)
  refine w_alloc (cs := [_, _, _]) want_none Try.zeroValue26 rfl hs13 (fun b14 w15 hs16 => ?_)
  refine w_store (i := 1) (v := .agg #[.slice _ _ _, .slice _ _ _, .slice _ _ _]) (vs := [_, _, _]) want_none Try.sizeOf26 rfl rfl rfl rfl rfl (by simp [Value.oneCell']) hs16 rfl (Nat.le_of_ble_eq_true rfl) (fun w17 hs18 => ?_)
  refine w_store (i := 0) (v := .agg #[.slice _ _ _, .slice _ _ _, .slice _ _ _]) (vs := [_, _, _]) want_none Try.sizeOf26 rfl rfl rfl rfl rfl (by simp [Value.oneCell']) hs18 rfl (Nat.le_of_ble_eq_true rfl) (fun w19 hs20 => ?_)
  refine w_nil ?_
  refine q_then (hK3 _ _ ?_)
  refine w_seq (fun K22 hK21 => ?_)
  obtain ⟨Z, hZ, hsZ⟩ := gen_Z hs20
  have hP1 : Ats w0 Z b11 0 ((exM 2 10).cells ⟨some ⟨r1, 0, none⟩, 2, some ⟨s1, 0, none⟩, 3, some ⟨t1, 0, none⟩, 5⟩) := by rw [hZ]; exact ats_own (i := 1) (vs := [_, _, _]) rfl rfl
  have hM1 : MIn w0 Z (exM 2 10) ⟨some ⟨r1, 0, none⟩, 2, some ⟨s1, 0, none⟩, 3, some ⟨t1, 0, none⟩, 5⟩ := by rw [hZ]; exact ex_min (i1 := 5) (i2 := 6) (i3 := 7) rfl rfl rfl
  have hP2 : Ats w0 Z b14 0 ((exM 3 10).cells ⟨some ⟨r2, 0, none⟩, 2, some ⟨s2, 0, none⟩, 3, some ⟨t2, 0, none⟩, 5⟩) := by rw [hZ]; exact ats_own (i := 0) (vs := [_, _, _]) rfl rfl
  have hM2 : MIn w0 Z (exM 3 10) ⟨some ⟨r2, 0, none⟩, 2, some ⟨s2, 0, none⟩, 3, some ⟨t2, 0, none⟩, 5⟩ := by rw [hZ]; exact ex_min (i1 := 2) (i2 := 3) (i3 := 4) rfl rfl rfl
  refine w_region ?_
  refine w_pure want_none (y_loadN (vs := [_, _, _]) Try.isAgg26 Try.sizeOf26 hsZ rfl rfl hP1) rfl ?_
  refine w_call want_none Try.call18 rfl rfl rfl rfl ((c18 (exM 2 10) ⟨some ⟨r1, 0, none⟩, 2, some ⟨s1, 0, none⟩, 3, some ⟨t1, 0, none⟩, 5⟩ hM1 hsZ).mono (fun v w' h => by rw [ex_goes] at h; exact h)) ?_
  rintro _ w24 ⟨B1, a1, c1, rfl, hq1, hs25⟩
  replace hs25 := (show St _ _ (B1 ++ (Z)) from hs25)
  refine w_pure want_none (y_move (v := .tuple _) rfl rfl) rfl ?_
  refine w_pure want_none (y_extract (v := .slice _ _ _) rfl rfl rfl) rfl ?_
  refine w_pure want_none (y_extract (v := .int _ _) rfl rfl rfl) rfl ?_
  refine w_pure want_none (y_assign (v := .slice _ _ _) rfl rfl) rfl ?_
  refine w_pure want_none (y_assign (v := .int _ _) rfl rfl) rfl ?_
  refine w_nil ?_
  refine q_then (hK21 _ _ ?_)
  refine w_seq (fun K27 hK26 => ?_)
  refine w_region ?_
  refine w_pure want_none (y_loadN (vs := [_, _, _]) Try.isAgg26 Try.sizeOf26 hs25.drop rfl rfl hP1) rfl ?_
  refine w_bslice (ps := [(0, _), (1, _), (2, _)]) (pv := [(0, .int _ _), (1, .int _ _), (2, .int _ _)]) (cs := [_, _, _]) want_none rfl rfl (fun w => Try_P_fb14 _ _ _ w) hs25 (fun b28 w29 hs30 => ?_)
  refine w_call want_none Try.call22 rfl rfl rfl rfl ((c22 (exM 2 10) ⟨some ⟨r1, 0, none⟩, 2, some ⟨s1, 0, none⟩, 3, some ⟨t1, 0, none⟩, 5⟩ hM1.app.cons (some ⟨b28, 0, none⟩) 3 [0, 1, 2] (by decide) (sl_own (i := 0) (rows := [[_], [_], [_]]) rfl (by simp) rfl) hs30).mono (fun v w' h => by rw [ex_can1] at h; exact h)) ?_
  rintro _ w32 ⟨rfl, hs33⟩
  refine w_pure want_none (y_move (v := .tuple _) rfl rfl) rfl ?_
  refine w_pure want_none (y_extract (v := .int _ _) rfl rfl rfl) rfl ?_
  refine w_pure want_none (y_extract (v := .int _ _) rfl rfl rfl) rfl ?_
  refine w_pure want_none (y_assign (v := .int _ _) rfl rfl) rfl ?_
  refine w_pure want_none (y_assign (v := .int _ _) rfl rfl) rfl ?_
  refine w_nil ?_
  refine q_then (hK26 _ _ ?_)
  refine w_seq (fun K35 hK34 => ?_)
  refine w_region ?_
  refine w_pure want_none (y_loadN (vs := [_, _, _]) Try.isAgg26 Try.sizeOf26 hs33.tail.drop rfl rfl hP1) rfl ?_
  refine w_bslice (ps := [(0, _), (1, _)]) (pv := [(0, .int _ _), (1, .int _ _)]) (cs := [_, _]) want_none rfl rfl (fun w => Try_P_fb15 _ _ w) hs33 (fun b36 w37 hs38 => ?_)
  refine w_call want_none Try.call22 rfl rfl rfl rfl ((c22 (exM 2 10) ⟨some ⟨r1, 0, none⟩, 2, some ⟨s1, 0, none⟩, 3, some ⟨t1, 0, none⟩, 5⟩ hM1.app.cons.cons (some ⟨b36, 0, none⟩) 2 [1, 2] (by decide) (sl_own (i := 0) (rows := [[_], [_]]) rfl (by simp) rfl) hs38).mono (fun v w' h => by rw [ex_can2] at h; exact h)) ?_
  rintro _ w40 ⟨rfl, hs41⟩
  refine w_pure want_none (y_move (v := .tuple _) rfl rfl) rfl ?_
  refine w_pure want_none (y_extract (v := .int _ _) rfl rfl rfl) rfl ?_
  refine w_pure want_none (y_extract (v := .int _ _) rfl rfl rfl) rfl ?_
  refine w_pure want_none (y_assign (v := .int _ _) rfl rfl) rfl ?_
  refine w_pure want_none (y_assign (v := .int _ _) rfl rfl) rfl ?_
  refine w_nil ?_
  refine q_then (hK34 _ _ ?_)
  refine w_seq (fun K43 hK42 => ?_)
  refine w_region ?_
  refine w_call want_none Try.call34 rfl rfl rfl rfl (c34 3 15 hs41) ?_
  rintro _ w45 ⟨t3, s3, r3, rfl, hs46⟩
  refine w_bslice (ps := [(0, _)]) (pv := [(0, .int _ _)]) (cs := [_]) want_none rfl rfl (fun w => Try_P_fb16 _ w) hs46 (fun b47 w48 hs49 => ?_)
  refine w_call want_none Try.call22 rfl rfl rfl rfl ((c22 (exM 3 15) ⟨some ⟨r3, 0, none⟩, 2, some ⟨s3, 0, none⟩, 3, some ⟨t3, 0, none⟩, 5⟩ (ex_min (i1 := 1) (i2 := 2) (i3 := 3) rfl rfl rfl) (some ⟨b47, 0, none⟩) 1 [1] (by decide) (sl_own (i := 0) (rows := [[_]]) rfl (by simp) rfl) hs49).mono (fun v w' h => by rw [ex_can3] at h; exact h)) ?_
  rintro _ w51 ⟨rfl, hs52⟩
  refine w_pure want_none (y_move (v := .tuple _) rfl rfl) rfl ?_
  refine w_pure want_none (y_extract (v := .int _ _) rfl rfl rfl) rfl ?_
  refine w_pure want_none (y_extract (v := .int _ _) rfl rfl rfl) rfl ?_
  refine w_pure want_none (y_assign (v := .int _ _) rfl rfl) rfl ?_
  refine w_pure want_none (y_assign (v := .int _ _) rfl rfl) rfl ?_
  refine w_nil ?_
  refine q_then (hK42 _ _ ?_)
  refine w_seq (fun K54 hK53 => ?_)
  refine w_region ?_
  refine w_pure want_none (y_loadN (vs := [_, _, _]) Try.isAgg26 Try.sizeOf26 hs52.tail.tail.tail.tail.tail.tail.drop rfl rfl hP1) rfl ?_
  refine w_bslice (ps := [(0, _), (1, _), (2, _)]) (pv := [(0, .int _ _), (1, .int _ _), (2, .int _ _)]) (cs := [_, _, _]) want_none rfl rfl (fun w => Try_P_fb14 _ _ _ w) hs52 (fun b55 w56 hs57 => ?_)
  refine w_call want_none Try.call24 rfl rfl rfl rfl ((c24 (exM 2 10) ⟨some ⟨r1, 0, none⟩, 2, some ⟨s1, 0, none⟩, 3, some ⟨t1, 0, none⟩, 5⟩ hM1.app.cons.cons.cons.cons.cons.cons.cons (some ⟨b55, 0, none⟩) 3 [0, 1, 2] (by decide) (sl_own (i := 0) (rows := [[_], [_], [_]]) rfl (by simp) rfl) hs57).mono (fun v w' h => by rw [ex_proof1] at h; exact h)) ?_
  rintro _ w59 ⟨B2, a2, c2, rfl, hq2, hs60⟩
  replace hs60 := (show St _ _ (B2 ++ (_ :: _ :: _ :: _ :: _ :: _ :: _ :: B1 ++ (Z))) from hs60)
  refine w_pure want_none (y_move (v := .tuple _) rfl rfl) rfl ?_
  refine w_pure want_none (y_extract (v := .slice _ _ _) rfl rfl rfl) rfl ?_
  refine w_pure want_none (y_extract (v := .int _ _) rfl rfl rfl) rfl ?_
  refine w_pure want_none (y_extract (v := .int _ _) rfl rfl rfl) rfl ?_
  refine w_pure want_none (y_assign (v := .slice _ _ _) rfl rfl) rfl ?_
  refine w_pure want_none (y_assign (v := .int _ _) rfl rfl) rfl ?_
  refine w_pure want_none (y_assign (v := .int _ _) rfl rfl) rfl ?_
  refine w_nil ?_
  refine q_then (hK53 _ _ ?_)
  refine w_seq (fun K62 hK61 => ?_)
  refine w_region ?_
  refine w_pure want_none (y_loadN (vs := [_, _, _]) Try.isAgg26 Try.sizeOf26 hs60.drop.tail.tail.tail.tail.tail.tail.tail.drop rfl rfl hP1) rfl ?_
  refine w_bslice (ps := [(0, _), (1, _)]) (pv := [(0, .int _ _), (1, .int _ _)]) (cs := [_, _]) want_none rfl rfl (fun w => Try_P_fb15 _ _ w) hs60 (fun b63 w64 hs65 => ?_)
  refine w_call want_none Try.call24 rfl rfl rfl rfl ((c24 (exM 2 10) ⟨some ⟨r1, 0, none⟩, 2, some ⟨s1, 0, none⟩, 3, some ⟨t1, 0, none⟩, 5⟩ hM1.app.cons.cons.cons.cons.cons.cons.cons.app.cons (some ⟨b63, 0, none⟩) 2 [1, 2] (by decide) (sl_own (i := 0) (rows := [[_], [_]]) rfl (by simp) rfl) hs65).mono (fun v w' h => by rw [ex_proof2] at h; exact h)) ?_
  rintro _ w67 ⟨B3, a3, c3, rfl, hq3, hs68⟩
  replace hs68 := (show St _ _ (B3 ++ (_ :: B2 ++ (_ :: _ :: _ :: _ :: _ :: _ :: _ :: B1 ++ (Z)))) from hs68)
  refine w_pure want_none (y_move (v := .tuple _) rfl rfl) rfl ?_
  refine w_pure want_none (y_extract (v := .slice _ _ _) rfl rfl rfl) rfl ?_
  refine w_pure want_none (y_extract (v := .int _ _) rfl rfl rfl) rfl ?_
  refine w_pure want_none (y_extract (v := .int _ _) rfl rfl rfl) rfl ?_
  refine w_pure want_none (y_assign (v := .slice _ _ _) rfl rfl) rfl ?_
  refine w_pure want_none (y_assign (v := .int _ _) rfl rfl) rfl ?_
  refine w_pure want_none (y_assign (v := .int _ _) rfl rfl) rfl ?_
  refine w_nil ?_
  refine q_then (hK61 _ _ ?_)
  refine w_seq (fun K70 hK69 => ?_)
  refine w_region ?_
  refine w_pure want_none (y_loadN (vs := [_, _, _]) Try.isAgg26 Try.sizeOf26 hs68.drop.tail.drop.tail.tail.tail.tail.tail.tail.tail.drop rfl rfl hP1) rfl ?_
  refine w_call want_none Try.call26 rfl rfl rfl rfl ((c26 (exM 2 10) ⟨some ⟨r1, 0, none⟩, 2, some ⟨s1, 0, none⟩, 3, some ⟨t1, 0, none⟩, 5⟩ hM1.app.cons.cons.cons.cons.cons.cons.cons.app.cons.app hs68).mono (fun v w' h => by rw [ex_without] at h; exact h)) ?_
  rintro _ w72 ⟨B4, a4, c4, rfl, hq4, hs73⟩
  replace hs73 := (show St _ _ (B4 ++ (B3 ++ (_ :: B2 ++ (_ :: _ :: _ :: _ :: _ :: _ :: _ :: B1 ++ (Z))))) from hs73)
  refine w_pure want_none (y_move (v := .tuple _) rfl rfl) rfl ?_
  refine w_pure want_none (y_extract (v := .slice _ _ _) rfl rfl rfl) rfl ?_
  refine w_pure want_none (y_extract (v := .int _ _) rfl rfl rfl) rfl ?_
  refine w_pure want_none (y_assign (v := .slice _ _ _) rfl rfl) rfl ?_
  refine w_pure want_none (y_assign (v := .int _ _) rfl rfl) rfl ?_
  refine w_nil ?_
  refine q_then (hK69 _ _ ?_)
  refine w_seq (fun K75 hK74 => ?_)
  refine w_region ?_
  refine w_pure want_none (y_loadN (vs := [_, _, _]) Try.isAgg26 Try.sizeOf26 hs73.drop.drop.tail.drop.tail.tail.tail.tail.tail.tail.tail.drop rfl rfl hP1) rfl ?_
  refine w_call want_none Try.call28 rfl rfl rfl rfl ((c28 (exM 2 10) ⟨some ⟨r1, 0, none⟩, 2, some ⟨s1, 0, none⟩, 3, some ⟨t1, 0, none⟩, 5⟩ hM1.app.cons.cons.cons.cons.cons.cons.cons.app.cons.app.app hs73).mono (fun v w' h => by rw [ex_give] at h; exact h)) ?_
  rintro _ w77 ⟨B5, a5, c5, rfl, hq5, hs78⟩
  replace hs78 := (show St _ _ (B5 ++ (B4 ++ (B3 ++ (_ :: B2 ++ (_ :: _ :: _ :: _ :: _ :: _ :: _ :: B1 ++ (Z)))))) from hs78)
  refine w_pure want_none (y_move (v := .tuple _) rfl rfl) rfl ?_
  refine w_pure want_none (y_extract (v := .slice _ _ _) rfl rfl rfl) rfl ?_
  refine w_pure want_none (y_extract (v := .int _ _) rfl rfl rfl) rfl ?_
  refine w_pure want_none (y_assign (v := .slice _ _ _) rfl rfl) rfl ?_
  refine w_pure want_none (y_assign (v := .int _ _) rfl rfl) rfl ?_
  refine w_nil ?_
  refine q_then (hK74 _ _ ?_)
  refine w_seq (fun K80 hK79 => ?_)
  refine w_region ?_
  refine w_pure want_none (y_loadN (vs := [_, _, _]) Try.isAgg26 Try.sizeOf26 hs78.drop.drop.drop.tail.drop.tail.tail.tail.tail.tail.tail.tail.drop rfl rfl hP1) rfl ?_
  refine w_call want_none Try.call30 rfl rfl rfl rfl ((c30 (exM 2 10) ⟨some ⟨r1, 0, none⟩, 2, some ⟨s1, 0, none⟩, 3, some ⟨t1, 0, none⟩, 5⟩ hM1.app.cons.cons.cons.cons.cons.cons.cons.app.cons.app.app.app 0 hs78).mono (fun v w' h => by rw [ex_more] at h; exact h)) ?_
  rintro _ w82 ⟨rfl, hs83⟩
  refine w_pure want_none (y_move (v := .tuple _) rfl rfl) rfl ?_
  refine w_pure want_none (y_extract (v := .int _ _) rfl rfl rfl) rfl ?_
  refine w_pure want_none (y_extract (v := .int _ _) rfl rfl rfl) rfl ?_
  refine w_pure want_none (y_assign (v := .int _ _) rfl rfl) rfl ?_
  refine w_pure want_none (y_assign (v := .int _ _) rfl rfl) rfl ?_
  refine w_nil ?_
  refine q_then (hK79 _ _ ?_)
  refine w_seq (fun K85 hK84 => ?_)
  refine w_region ?_
  refine w_pure want_none (y_loadN (vs := [_, _, _]) Try.isAgg26 Try.sizeOf26 hs83.drop.drop.drop.tail.drop.tail.tail.tail.tail.tail.tail.tail.drop rfl rfl hP2) rfl ?_
  refine w_call want_none Try.call32 rfl rfl rfl rfl ((c32 (exM 3 10) ⟨some ⟨r2, 0, none⟩, 2, some ⟨s2, 0, none⟩, 3, some ⟨t2, 0, none⟩, 5⟩ hM2.app.cons.cons.cons.cons.cons.cons.cons.app.cons.app.app.app 1 hs83).mono (fun v w' h => by rw [ex_late] at h; exact h)) ?_
  rintro _ w87 ⟨rfl, hs88⟩
  refine w_pure want_none (y_move (v := .tuple _) rfl rfl) rfl ?_
  refine w_pure want_none (y_extract (v := .int _ _) rfl rfl rfl) rfl ?_
  refine w_pure want_none (y_extract (v := .int _ _) rfl rfl rfl) rfl ?_
  refine w_pure want_none (y_assign (v := .int _ _) rfl rfl) rfl ?_
  refine w_pure want_none (y_assign (v := .int _ _) rfl rfl) rfl ?_
  refine w_nil ?_
  refine q_then (hK84 _ _ ?_)
  refine w_seq (fun K90 hK89 => ?_)
  refine w_region ?_
  refine w_pure want_none (y_loadN (vs := [_, _, _]) Try.isAgg26 Try.sizeOf26 hs88.drop.drop.drop.tail.drop.tail.tail.tail.tail.tail.tail.tail.drop rfl rfl hP1) rfl ?_
  refine w_bslice (ps := [(0, _), (1, _)]) (pv := [(0, .int _ _), (1, .int _ _)]) (cs := [_, _]) want_none rfl rfl (fun w => Try_P_fb15 _ _ w) hs88 (fun b91 w92 hs93 => ?_)
  refine w_call want_none Try.call22 rfl rfl rfl rfl ((c22 (exM 2 10) ⟨some ⟨r1, 0, none⟩, 2, some ⟨s1, 0, none⟩, 3, some ⟨t1, 0, none⟩, 5⟩ hM1.app.cons.cons.cons.cons.cons.cons.cons.app.cons.app.app.app.cons (some ⟨b91, 0, none⟩) 2 [1, 0] (by decide) (sl_own (i := 0) (rows := [[_], [_]]) rfl (by simp) rfl) hs93).mono (fun v w' h => by rw [ex_can4] at h; exact h)) ?_
  rintro _ w95 ⟨rfl, hs96⟩
  refine w_pure want_none (y_move (v := .tuple _) rfl rfl) rfl ?_
  refine w_pure want_none (y_extract (v := .int _ _) rfl rfl rfl) rfl ?_
  refine w_pure want_none (y_extract (v := .int _ _) rfl rfl rfl) rfl ?_
  refine w_pure want_none (y_assign (v := .int _ _) rfl rfl) rfl ?_
  refine w_pure want_none (y_assign (v := .int _ _) rfl rfl) rfl ?_
  refine w_nil ?_
  refine q_then (hK89 _ _ ?_)
  refine w_seq (fun K98 hK97 => ?_)
  refine w_region ?_
  refine w_pure want_none (y_move (v := .int _ _) rfl rfl) rfl ?_
  refine w_pure want_none (y_eql rfl rfl rfl rfl) rfl ?_
  refine w_pure want_none (y_move (v := .bool _) rfl rfl) rfl ?_
  refine w_pure (want_yes rfl rfl rfl) (y_move (v := .int _ _) rfl rfl) rfl ?_
  refine w_pure (want_yes rfl rfl rfl) (y_eql rfl rfl rfl rfl) rfl ?_
  refine w_pure want_none (y_pickT (v := .bool _) rfl rfl rfl rfl) rfl ?_
  refine w_pure want_none (y_move (v := .bool _) rfl rfl) rfl ?_
  refine w_pure (want_yes rfl rfl rfl) (y_move (v := .int _ _) rfl rfl) rfl ?_
  refine w_pure (want_yes rfl rfl rfl) (y_eql rfl rfl rfl rfl) rfl ?_
  refine w_pure want_none (y_pickT (v := .bool _) rfl rfl rfl rfl) rfl ?_
  refine w_pure want_none (y_move (v := .bool _) rfl rfl) rfl ?_
  refine w_pure (want_yes rfl rfl rfl) (y_move (v := .int _ _) rfl rfl) rfl ?_
  refine w_pure (want_yes rfl rfl rfl) (y_eql rfl rfl rfl rfl) rfl ?_
  refine w_pure want_none (y_pickT (v := .bool _) rfl rfl rfl rfl) rfl ?_
  refine w_pure want_none (y_move (v := .bool _) rfl rfl) rfl ?_
  refine w_pure (want_yes rfl rfl rfl) (y_move (v := .int _ _) rfl rfl) rfl ?_
  refine w_pure (want_yes rfl rfl rfl) (y_eql rfl rfl rfl rfl) rfl ?_
  refine w_pure want_none (y_pickT (v := .bool _) rfl rfl rfl rfl) rfl ?_
  refine w_pure want_none (y_move (v := .bool _) rfl rfl) rfl ?_
  refine w_pure (want_yes rfl rfl rfl) (y_move (v := .int _ _) rfl rfl) rfl ?_
  refine w_pure (want_yes rfl rfl rfl) (y_eql rfl rfl rfl rfl) rfl ?_
  refine w_pure want_none (y_pickT (v := .bool _) rfl rfl rfl rfl) rfl ?_
  refine w_pure want_none (y_move (v := .bool _) rfl rfl) rfl ?_
  refine w_pure (want_yes rfl rfl rfl) (y_move (v := .int _ _) rfl rfl) rfl ?_
  refine w_pure (want_yes rfl rfl rfl) (y_eql rfl rfl rfl rfl) rfl ?_
  refine w_pure want_none (y_pickT (v := .bool _) rfl rfl rfl rfl) rfl ?_
  refine w_pure want_none (y_move (v := .bool _) rfl rfl) rfl ?_
  refine w_pure (want_yes rfl rfl rfl) (y_move (v := .int _ _) rfl rfl) rfl ?_
  refine w_pure (want_yes rfl rfl rfl) (y_eql rfl rfl rfl rfl) rfl ?_
  refine w_pure want_none (y_pickT (v := .bool _) rfl rfl rfl rfl) rfl ?_
  refine w_pure want_none (y_move (v := .bool _) rfl rfl) rfl ?_
  refine w_pure (want_yes rfl rfl rfl) (y_move (v := .int _ _) rfl rfl) rfl ?_
  refine w_pure (want_yes rfl rfl rfl) (y_eql rfl rfl rfl rfl) rfl ?_
  refine w_pure want_none (y_pickT (v := .bool _) rfl rfl rfl rfl) rfl ?_
  refine w_pure want_none (y_move (v := .bool _) rfl rfl) rfl ?_
  refine w_pure (want_yes rfl rfl rfl) (y_move (v := .int _ _) rfl rfl) rfl ?_
  refine w_pure (want_yes rfl rfl rfl) (y_eql rfl rfl rfl rfl) rfl ?_
  refine w_pure want_none (y_pickT (v := .bool _) rfl rfl rfl rfl) rfl ?_
  refine w_pure want_none (y_move (v := .bool _) rfl rfl) rfl ?_
  refine w_pure (want_yes rfl rfl rfl) (y_move (v := .int _ _) rfl rfl) rfl ?_
  refine w_pure (want_yes rfl rfl rfl) (y_eql rfl rfl rfl rfl) rfl ?_
  refine w_pure want_none (y_pickT (v := .bool _) rfl rfl rfl rfl) rfl ?_
  refine w_pure want_none (y_move (v := .bool _) rfl rfl) rfl ?_
  refine w_pure (want_yes rfl rfl rfl) (y_move (v := .slice _ _ _) rfl rfl) rfl ?_
  refine w_bslice (ps := [(0, _), (1, _), (2, _), (3, _)]) (pv := [(0, .int _ _), (1, .int _ _), (2, .int _ _), (3, .int _ _)]) (cs := [_, _, _, _]) (want_yes rfl rfl rfl) rfl rfl (fun w => Try_P_fb17 _ _ _ _ w) hs96 (fun b99 w100 hs101 => ?_)
  refine w_call (want_yes rfl rfl rfl) Try.call20 rfl rfl rfl rfl (con_true (c20 _ _ [0, 1, 2, 3] [0, 1, 2, 3] _ _ (by decide) hq1.top.cons.cons.cons.cons.cons.cons.cons.app.cons.app.app.app.cons.cons (sl_own (i := 0) (rows := [[_], [_], [_], [_]]) rfl (by simp) rfl) hs101) (by decide)) ?_
  rintro _ w103 ⟨rfl, hs104⟩
  refine w_pure want_none (y_pickT (v := .bool _) rfl rfl rfl rfl) rfl ?_
  refine w_pure want_none (y_move (v := .bool _) rfl rfl) rfl ?_
  refine w_pure (want_yes rfl rfl rfl) (y_move (v := .int _ _) rfl rfl) rfl ?_
  refine w_pure (want_yes rfl rfl rfl) (y_eql rfl rfl rfl rfl) rfl ?_
  refine w_pure want_none (y_pickT (v := .bool _) rfl rfl rfl rfl) rfl ?_
  refine w_pure want_none (y_move (v := .bool _) rfl rfl) rfl ?_
  refine w_pure (want_yes rfl rfl rfl) (y_move (v := .int _ _) rfl rfl) rfl ?_
  refine w_pure (want_yes rfl rfl rfl) (y_eql rfl rfl rfl rfl) rfl ?_
  refine w_pure want_none (y_pickT (v := .bool _) rfl rfl rfl rfl) rfl ?_
  refine w_pure want_none (y_move (v := .bool _) rfl rfl) rfl ?_
  refine w_pure (want_yes rfl rfl rfl) (y_move (v := .int _ _) rfl rfl) rfl ?_
  refine w_pure (want_yes rfl rfl rfl) (y_eql rfl rfl rfl rfl) rfl ?_
  refine w_pure want_none (y_pickT (v := .bool _) rfl rfl rfl rfl) rfl ?_
  refine w_pure want_none (y_move (v := .bool _) rfl rfl) rfl ?_
  refine w_pure (want_yes rfl rfl rfl) (y_move (v := .slice _ _ _) rfl rfl) rfl ?_
  refine w_bslice (ps := [(0, _), (1, _), (2, _)]) (pv := [(0, .int _ _), (1, .int _ _), (2, .int _ _)]) (cs := [_, _, _]) (want_yes rfl rfl rfl) rfl rfl (fun w => Try_P_fb14 _ _ _ w) hs104 (fun b105 w106 hs107 => ?_)
  refine w_call (want_yes rfl rfl rfl) Try.call20 rfl rfl rfl rfl (con_true (c20 _ _ [0, 1, 2] [0, 1, 2] _ _ (by decide) hq2.top.cons.app.app.app.cons.cons.cons (sl_own (i := 0) (rows := [[_], [_], [_]]) rfl (by simp) rfl) hs107) (by decide)) ?_
  rintro _ w109 ⟨rfl, hs110⟩
  refine w_pure want_none (y_pickT (v := .bool _) rfl rfl rfl rfl) rfl ?_
  refine w_pure want_none (y_move (v := .bool _) rfl rfl) rfl ?_
  refine w_pure (want_yes rfl rfl rfl) (y_move (v := .int _ _) rfl rfl) rfl ?_
  refine w_pure (want_yes rfl rfl rfl) (y_eql rfl rfl rfl rfl) rfl ?_
  refine w_pure want_none (y_pickT (v := .bool _) rfl rfl rfl rfl) rfl ?_
  refine w_pure want_none (y_move (v := .bool _) rfl rfl) rfl ?_
  refine w_pure (want_yes rfl rfl rfl) (y_move (v := .slice _ _ _) rfl rfl) rfl ?_
  refine w_bslice (ps := [(0, _)]) (pv := [(0, .int _ _)]) (cs := [_]) (want_yes rfl rfl rfl) rfl rfl (fun w => Try_P_fb16 _ w) hs110 (fun b111 w112 hs113 => ?_)
  refine w_call (want_yes rfl rfl rfl) Try.call20 rfl rfl rfl rfl (con_true (c20 _ _ [0] [0] _ _ (by decide) hq4.top.app.cons.cons.cons.cons (sl_own (i := 0) (rows := [[_]]) rfl (by simp) rfl) hs113) (by decide)) ?_
  rintro _ w115 ⟨rfl, hs116⟩
  refine w_pure want_none (y_pickT (v := .bool _) rfl rfl rfl rfl) rfl ?_
  refine w_pure want_none (y_move (v := .bool _) rfl rfl) rfl ?_
  refine w_pure (want_yes rfl rfl rfl) (y_move (v := .slice _ _ _) rfl rfl) rfl ?_
  refine w_bslice (ps := [(0, _), (1, _), (2, _), (3, _), (4, _)]) (pv := [(0, .int _ _), (1, .int _ _), (2, .int _ _), (3, .int _ _), (4, .int _ _)]) (cs := [_, _, _, _, _]) (want_yes rfl rfl rfl) rfl rfl (fun w => Try_P_fb18 _ _ _ _ _ w) hs116 (fun b117 w118 hs119 => ?_)
  refine w_call (want_yes rfl rfl rfl) Try.call20 rfl rfl rfl rfl (con_true (c20 _ _ [0, 8, 2, 8, 0] [0, 8, 2, 8, 0] _ _ (by decide) hq5.top.cons.cons.cons.cons.cons (sl_own (i := 0) (rows := [[_], [_], [_], [_], [_]]) rfl (by simp) rfl) hs119) (by decide)) ?_
  rintro _ w121 ⟨rfl, hs122⟩
  refine w_pure want_none (y_pickT (v := .bool _) rfl rfl rfl rfl) rfl ?_
  refine w_pure want_none (y_move (v := .bool _) rfl rfl) rfl ?_
  refine w_pure (want_yes rfl rfl rfl) (y_move (v := .int _ _) rfl rfl) rfl ?_
  refine w_pure (want_yes rfl rfl rfl) (y_eql rfl rfl rfl rfl) rfl ?_
  refine w_pure want_none (y_pickT (v := .bool _) rfl rfl rfl rfl) rfl ?_
  refine w_pure want_none (y_move (v := .bool _) rfl rfl) rfl ?_
  refine w_pure (want_yes rfl rfl rfl) (y_move (v := .int _ _) rfl rfl) rfl ?_
  refine w_pure (want_yes rfl rfl rfl) (y_eql rfl rfl rfl rfl) rfl ?_
  refine w_pure want_none (y_pickT (v := .bool _) rfl rfl rfl rfl) rfl ?_
  refine w_pure want_none (y_assign (v := .bool _) rfl rfl) rfl ?_
  refine w_nil ?_
  refine q_then (hK97 _ _ ?_)
  refine w_ret ?_
  refine q_ret (l := [.tmp 0]) (vs := [_]) rfl ⟨⟨rfl, show _ = (.bool _ : Value) from rfl⟩, trivial⟩ ?_
  exact ⟨rfl, (St.cast hZ hs122.tail.tail.tail.tail.tail.drop.drop.drop.tail.drop.tail.tail.tail.tail.tail.tail.tail.drop).tail.tail.tail.tail.tail.tail.tail.tail⟩

end Go.Proofs
/- Walks of this seat, printed by gen.py over the engine: what each function returns, in whatever world. No conditions but those of each contract. -/
set_option linter.unusedVariables false
set_option linter.unusedSimpArgs false
set_option maxRecDepth 20000
namespace Go.Proofs
open Go.Rt Go.Rt.Sh
attribute [local irreducible] WL WC Con Yd At Ats Sl Agree DW

theorem goes_short (m : Market) : (goesP m).1.length ≤ m.trains.length := by
  unfold goesP
  split
  · simp
  · exact goesTo_len m _
theorem c3 {w0 w : World} {F : List (Nat × Obj)} (m : Market) (p : At3) (hm : MIn w0 F m p)  (hs : St w0 w F) :
  Con Try.prog 3 [.agg (m.cells p).toArray] w fun v w' => v = .bool true ∧ St w0 w' F := by
  refine con_of_wc (n := 57) Try.func3 rfl rfl (Nat.le_of_ble_eq_true rfl) ?_
  have hlt := hm.lt
  refine w_seq (fun K2 hK1 => ?_)
  refine w_region ?_
  refine w_box (v := .agg #[.slice _ _ _, .slice _ _ _, .slice _ _ _]) (cs := [_, _, _]) want_none rfl rfl rfl hs (fun b3 w4 hs5 => ?_)
  refine w_pure want_none (y_assign (v := _) rfl rfl) rfl ?_
  refine w_nil ?_
  refine q_then (hK1 _ _ ?_)
  refine w_seq (fun K7 hK6 => ?_)
  have hbx : Ats w0 ((b3, blk 26 (m.cells p)) :: F) b3 0 (m.cells p) := ats_own (i := 0) (vs := m.cells p) rfl rfl
  refine w_region ?_
  refine w_pure want_none (y_loadN (vs := [_, _, _]) Try.isAgg26 Try.sizeOf26 hs5 rfl rfl hbx) rfl ?_
  refine w_call want_none Try.call16 rfl rfl rfl rfl (c16 m _ hm.cons hs5) ?_
  rintro _ w9 ⟨rfl, hs10⟩
  refine w_pure want_none (y_move (v := .tuple _) rfl rfl) rfl ?_
  refine w_pure want_none (y_extract (v := .int _ _) rfl rfl rfl) rfl ?_
  refine w_pure want_none (y_extract (v := .int _ _) rfl rfl rfl) rfl ?_
  refine w_pure want_none (y_extract (v := .int _ _) rfl rfl rfl) rfl ?_
  refine w_pure want_none (y_assign (v := .int _ _) rfl rfl) rfl ?_
  refine w_pure want_none (y_assign (v := .int _ _) rfl rfl) rfl ?_
  refine w_pure want_none (y_assign (v := .int _ _) rfl rfl) rfl ?_
  refine w_nil ?_
  refine q_then (hK6 _ _ ?_)
  refine w_seq (fun K12 hK11 => ?_)
  refine w_region ?_
  refine w_pure want_none (y_loadN (vs := [_, _, _]) Try.isAgg26 Try.sizeOf26 hs10 rfl rfl hbx) rfl ?_
  refine w_call want_none Try.call17 rfl rfl rfl rfl (c17 m _ hm.cons hs10) ?_
  rintro _ w14 ⟨rfl, hs15⟩
  refine w_pure want_none (y_move (v := .tuple _) rfl rfl) rfl ?_
  refine w_pure want_none (y_extract (v := .int _ _) rfl rfl rfl) rfl ?_
  refine w_pure want_none (y_extract (v := .int _ _) rfl rfl rfl) rfl ?_
  refine w_pure want_none (y_extract (v := .int _ _) rfl rfl rfl) rfl ?_
  refine w_pure want_none (y_assign (v := .int _ _) rfl rfl) rfl ?_
  refine w_pure want_none (y_assign (v := .int _ _) rfl rfl) rfl ?_
  refine w_pure want_none (y_assign (v := .int _ _) rfl rfl) rfl ?_
  refine w_nil ?_
  refine q_then (hK11 _ _ ?_)
  refine w_seq (fun K17 hK16 => ?_)
  refine w_seq (fun K19 hK18 => ?_)
  refine w_region ?_
  refine w_pure want_none (y_move (v := .int _ _) rfl rfl) rfl ?_
  refine w_pure want_none (y_move (v := .int _ _) rfl rfl) rfl ?_
  refine w_pure want_none (y_neq rfl rfl rfl rfl) rfl ?_
  refine w_pure want_none (y_move (v := .bool _) rfl rfl) rfl ?_
  refine w_split (fun h20 => ?_) (fun h20 => ?_)
  ·
   exfalso; simp at h20
  ·
   try simp only [Bool.not_eq_true', Bool.not_eq_false', decide_eq_true_eq, decide_eq_false_iff_not, Int.not_lt, Int.not_le] at h20
   refine w_pure (want_yes rfl rfl rfl) (y_move (v := .int _ _) rfl rfl) rfl ?_
   refine w_pure (want_yes rfl rfl rfl) (y_move (v := .int _ _) rfl rfl) rfl ?_
   refine w_pure (want_yes rfl rfl rfl) (y_neq rfl rfl rfl rfl) rfl ?_
   refine w_pure want_none (y_pickF (v := .bool _) rfl rfl rfl rfl) rfl ?_
   refine w_pure want_none (y_move (v := .bool _) rfl rfl) rfl ?_
   refine w_split (fun h21 => ?_) (fun h21 => ?_)
   ·
    exfalso; simp at h21
   ·
    try simp only [Bool.not_eq_true', Bool.not_eq_false', decide_eq_true_eq, decide_eq_false_iff_not, Int.not_lt, Int.not_le] at h21
    refine w_pure (want_yes rfl rfl rfl) (y_move (v := .int _ _) rfl rfl) rfl ?_
    refine w_pure (want_yes rfl rfl rfl) (y_move (v := .int _ _) rfl rfl) rfl ?_
    refine w_pure (want_yes rfl rfl rfl) (y_neq rfl rfl rfl rfl) rfl ?_
    refine w_pure want_none (y_pickF (v := .bool _) rfl rfl rfl rfl) rfl ?_
    refine w_nil ?_
    refine q_then (hK18 _ _ ?_)
    refine w_cond rfl rfl (fun h22 => ?_) (fun h22 => ?_)
    ·
     exfalso; simp at h22
    ·
     try simp only [Bool.not_eq_true', Bool.not_eq_false', decide_eq_true_eq, decide_eq_false_iff_not, Int.not_lt, Int.not_le] at h22
     refine w_skip ?_
     refine q_then (hK16 _ _ ?_)
     refine w_seq (fun K24 hK23 => ?_)
     refine w_region ?_
     refine w_pure want_none (y_loadN (vs := [_, _, _]) Try.isAgg26 Try.sizeOf26 hs15 rfl rfl hbx) rfl ?_
     refine w_call want_none Try.call18 rfl rfl rfl rfl (c18 m _ hm.cons hs15) ?_
     rintro _ w26 ⟨B1, a1, c1, rfl, hq1, hs27⟩
     replace hs27 := (show St _ _ (B1 ++ (_ :: F)) from hs27)
     refine w_pure want_none (y_move (v := .tuple _) rfl rfl) rfl ?_
     refine w_pure want_none (y_extract (v := .slice _ _ _) rfl rfl rfl) rfl ?_
     refine w_pure want_none (y_extract (v := .int _ _) rfl rfl rfl) rfl ?_
     refine w_pure want_none (y_assign (v := .slice _ _ _) rfl rfl) rfl ?_
     refine w_pure want_none (y_assign (v := .int _ _) rfl rfl) rfl ?_
     refine w_nil ?_
     refine q_then (hK23 _ _ ?_)
     refine w_seq (fun K29 hK28 => ?_)
     refine w_region ?_
     refine w_pure want_none (y_loadN (vs := [_, _, _]) Try.isAgg26 Try.sizeOf26 hs27.drop rfl rfl hbx) rfl ?_
     refine w_call want_none Try.call19 rfl rfl rfl rfl (c19 m _ hm.cons.app hs27) ?_
     rintro _ w31 ⟨B2, a2, c2, rfl, hq2, hs32⟩
     replace hs32 := (show St _ _ (B2 ++ (B1 ++ (_ :: F))) from hs32)
     refine w_pure want_none (y_move (v := .tuple _) rfl rfl) rfl ?_
     refine w_pure want_none (y_extract (v := .slice _ _ _) rfl rfl rfl) rfl ?_
     refine w_pure want_none (y_extract (v := .int _ _) rfl rfl rfl) rfl ?_
     refine w_pure want_none (y_assign (v := .slice _ _ _) rfl rfl) rfl ?_
     refine w_pure want_none (y_assign (v := .int _ _) rfl rfl) rfl ?_
     refine w_nil ?_
     refine q_then (hK28 _ _ ?_)
     refine w_seq (fun K34 hK33 => ?_)
     refine w_region ?_
     refine w_pure want_none (y_move (v := .slice _ _ _) rfl rfl) rfl ?_
     refine w_pure want_none (y_move (v := .slice _ _ _) rfl rfl) rfl ?_
     refine w_call want_none Try.call20 rfl rfl rfl rfl (c20 _ _ (goesP m).1 (goesP m).1 _ _ (by have := goes_short m; omega) hq1.top.app hq2.top hs32) ?_
     rintro _ w36 ⟨rfl, hs37⟩
     refine w_pure want_none (y_move (v := .bool _) rfl rfl) rfl ?_
     refine w_split (fun h38 => ?_) (fun h38 => ?_)
     ·
      try simp only [Bool.not_eq_true', Bool.not_eq_false', decide_eq_true_eq, decide_eq_false_iff_not, Int.not_lt, Int.not_le] at h38
      refine w_pure (want_yes rfl rfl rfl) (y_move (v := .int _ _) rfl rfl) rfl ?_
      refine w_pure (want_yes rfl rfl rfl) (y_move (v := .int _ _) rfl rfl) rfl ?_
      refine w_pure (want_yes rfl rfl rfl) (y_eql rfl rfl rfl rfl) rfl ?_
      refine w_pure want_none (y_pickT (v := .bool _) rfl rfl rfl rfl) rfl ?_
      refine w_pure want_none (y_move (v := .bool _) rfl rfl) rfl ?_
      refine w_split (fun h39 => ?_) (fun h39 => ?_)
      ·
       try simp only [Bool.not_eq_true', Bool.not_eq_false', decide_eq_true_eq, decide_eq_false_iff_not, Int.not_lt, Int.not_le] at h39
       refine w_call (want_yes rfl rfl rfl) Try.call21 rfl rfl rfl rfl (c21 hs37) ?_
       rintro _ w41 ⟨rfl, hs42⟩
       refine w_pure want_none (y_pickT (v := .bool _) rfl rfl rfl rfl) rfl ?_
       refine w_pure want_none (y_assign (v := .bool _) rfl rfl) rfl ?_
       refine w_nil ?_
       refine q_then (hK33 _ _ ?_)
       refine w_ret ?_
       refine q_ret (l := [.tmp 2]) (vs := [_]) rfl ⟨⟨rfl, show _ = (.bool _ : Value) from rfl⟩, trivial⟩ ?_
       exact ⟨rfl, hs42.drop.drop.tail⟩
      ·
       exfalso; simp at h39
     ·
      exfalso; simp at h38

end Go.Proofs
/- Walks of this seat, printed by gen.py over the engine: what each function returns, in whatever world. No conditions but those of each contract. -/
set_option linter.unusedVariables false
set_option linter.unusedSimpArgs false
set_option maxRecDepth 20000
namespace Go.Proofs
open Go.Rt Go.Rt.Sh
attribute [local irreducible] WL WC Con Yd At Ats Sl Agree DW
theorem Try_R_fb4 (x0 : Int) (w : World) : (Instr.buildSlice 30 1 [(0, .int .i64 x0)].toArray).run Try.prog w = .ok (.slice (some ⟨w.heap.size, 0, none⟩) 1 1) (w.alloc (Go.Rt.blk 3 [.int .i64 x0])) := by kernel_rfl
theorem map_snoc {α : Type} {f : α → Int} {l : List α} {i : Nat} (hi : i < l.length) : (l.take i).map f ++ [f l[i]] = (l.take (i + 1)).map f := by
  rw [List.take_succ_eq_append_getElem hi, List.map_append]; rfl
theorem own_step {α : Type} {f : α → Int} {l : List α} {i : Nat} {v : Value} {B : List (Nat × Obj)} (hi : i < l.length) (h : Rt.Own v 3 1 (((l.take i).map f).length + 1) (iv ((l.take i).map f) ++ [[Value.int .i64 (f l[i])]].flatten) B) : Rt.Own v 3 1 ((l.take (i + 1)).map f).length (iv ((l.take (i + 1)).map f)) B := by
  rw [← map_snoc hi]; exact own_snoc h
theorem c37 {w0 w : World} {F : List (Nat × Obj)} (m : Market) (p : At3) (hm : MIn w0 F m p) (hok : m.Ok) (hs : St w0 w F) :
  Con Try.prog 37 [.agg (m.cells p).toArray] w fun v w' => ∃ B a c, v = .slice a (m.rooms.map (·.lo)).length c ∧ Sl w0 B a 1 ((m.rooms.map (·.lo)).map fun x => [Value.int .i64 x]) ∧ St w0 w' (B ++ F) := by
  refine con_of_wc (n := 23) Try.func37 rfl rfl (Nat.le_of_ble_eq_true rfl) ?_
  obtain ⟨ar, cr, as_, cs, at_, ct⟩ := p
  have hlr := hok.lr
  have hls := hok.ls
  refine w_seq (fun K2 hK1 => ?_)
  refine w_region ?_
  refine w_box (v := .agg #[.slice _ _ _, .slice _ _ _, .slice _ _ _]) (cs := [_, _, _]) want_none rfl rfl rfl hs (fun b3 w4 hs5 => ?_)
  refine w_pure want_none (y_assign (v := _) rfl rfl) rfl ?_
  refine w_nil ?_
  refine q_then (hK1 _ _ ?_)
  refine w_seq (fun K7 hK6 => ?_)
  refine w_region ?_
  refine w_pure want_none (y_assign (v := _) rfl rfl) rfl ?_
  refine w_nil ?_
  refine q_then (hK6 _ _ ?_)
  refine w_seq (fun K9 hK8 => ?_)
  refine w_seq (fun K11 hK10 => ?_)
  refine w_region ?_
  refine w_pure want_none (y_assign (v := _) rfl rfl) rfl ?_
  refine w_nil ?_
  refine q_then (hK10 _ _ ?_)
  refine w_block ?_
  refine w_loop [3, 4, 5, 6, 7, 8, 9, 10, 11, 12, 13, 14, 15, 16, 17, 18, 19, 20, 21] [3, 4] (fun k vs w => ∃ (i : Nat) (v : Value) (B : List (Nat × Obj)), vs = [v, .int .i64 i] ∧ i ≤ m.rooms.length ∧ k = m.rooms.length - i ∧ Rt.Own v 3 1 ((m.rooms.take i).map (·.lo)).length (iv ((m.rooms.take i).map (·.lo))) B ∧ St w0 w ((b3, blk 26 (m.cells ⟨ar, cr, as_, cs, at_, ct⟩)) :: (B ++ F))) (m.rooms.length) ?_ ?_
  ·
   exact ⟨0, _, [], rfl, by omega, by omega, own_nil 3 1, hs5⟩
  ·
   intro k vs μ w14 hI K13 hN12
   obtain ⟨i, v, B, rfl, hia, rfl, hown, hs⟩ := hI
   refine w_seq (fun K16 hK15 => ?_)
   refine w_seq (fun K18 hK17 => ?_)
   refine w_region ?_
   refine w_pure want_none (y_move (v := .int _ _) rfl rfl) rfl ?_
   refine w_pure want_none (y_fieldAddr (o := 0) (i := 0) Try.underlying26 rfl Try.sizeOf22 rfl rfl rfl) rfl ?_
   refine w_pure want_none (y_load1 Try.isAgg22 hs rfl rfl (ats_own (i := 0) (vs := [_]) rfl rfl)) rfl ?_
   refine w_pure want_none (y_lenS Try.underlying22 rfl rfl) rfl ?_
   refine w_pure want_none (y_lss rfl rfl rfl rfl) rfl ?_
   refine w_nil ?_
   refine q_then (hK17 _ _ ?_)
   refine w_cond rfl rfl (fun h19 => ?_) (fun h19 => ?_)
   ·
    try simp only [Bool.not_eq_true', Bool.not_eq_false', decide_eq_true_eq, decide_eq_false_iff_not, Int.not_lt, Int.not_le] at h19
    refine w_skip ?_
    refine q_then (hK15 _ _ ?_)
    refine w_seq (fun K21 hK20 => ?_)
    refine w_block ?_
    have hi2 : i < m.rooms.length := by omega
    obtain ⟨bx, ox, hbx, hx⟩ := sl_rrows hm.r hi2
    subst hbx
    have hln : ((m.rooms.take i).map (·.lo)).length ≤ i := by rw [List.length_map, List.length_take]; omega
    refine w_region ?_
    refine w_pure want_none (y_move (v := v) rfl rfl) rfl ?_
    refine w_pure want_none (y_fieldAddr (o := 0) (i := 0) Try.underlying26 rfl Try.sizeOf22 rfl rfl rfl) rfl ?_
    refine w_pure want_none (y_load1 Try.isAgg22 hs rfl rfl (ats_own (i := 0) (vs := [_]) rfl rfl)) rfl ?_
    refine w_pure want_none (y_move (v := .int _ _) rfl rfl) rfl ?_
    refine w_pure want_none (y_indexS Try.underlying22 Try.sizeOf69 rfl rfl rfl rfl (i := _) rfl (by omega)) rfl ?_
    refine w_pure want_none (y_fieldAddr (o := 1) (i := 1) Try.underlying69 rfl Try.sizeOf67 rfl rfl rfl) rfl ?_
    refine w_pure want_none (y_fieldAddr (o := 0) (i := 0) Try.underlying67 rfl Try.sizeOf3 rfl rfl rfl) rfl ?_
    refine w_pure want_none (y_load1 Try.isAgg3 hs.tail.drop rfl rfl (show Ats _ _ _ _ [_] from Ats.part hx 1 1)) rfl ?_
    refine w_bslice (ps := [(0, _)]) (pv := [(0, .int _ _)]) (cs := [_]) want_none rfl rfl (fun w => Try_R_fb4 _ w) hs (fun b22 w23 hs24 => ?_)
    refine w_append (X := (_ :: _ :: [])) (B := B) (rows := [[_]]) (sz := 1) (bytes := 8) want_none Try.underlying30 Try_info3 rfl rfl rfl rfl rfl rfl rfl rfl rfl hs24 hown (sl_own (i := 0) rfl (by simp) rfl) rfl (by simp) (by simp [Value.oneCell']) (by simp only [maxLen]; omega) (by omega) (fun v25 w26 B27 ho28 hs29 => ?_)
    replace hs29 := (show St _ _ (_ :: _ :: B27 ++ (F)) from hs29)
    refine w_pure want_none (y_assign (v := v25) rfl rfl) rfl ?_
    refine w_nil ?_
    refine q_blk_normal ?_
    refine q_then (hK20 _ _ ?_)
    refine w_region ?_
    refine w_pure want_none (y_move (v := .int _ _) rfl rfl) rfl ?_
    refine w_pure want_none (y_add rfl rfl rfl rfl (by omega) (by omega)) rfl ?_
    refine w_pure want_none (y_assign (v := .int _ _) rfl rfl) rfl ?_
    refine w_nil ?_
    refine q_then (hN12 _ _ (Nx.intro (m.rooms.length - (i + 1)) (by omega) (by repeat (first | exact agree_mix | refine agree_upd rfl ?_ | refine agree_updL rfl ?_ _ | refine agree_mixin rfl ?_)) ?_))
    exact ⟨i + 1, _, _, rfl, by omega, rfl, own_step hi2 ho28, hs29.tail⟩
   ·
    try simp only [Bool.not_eq_true', Bool.not_eq_false', decide_eq_true_eq, decide_eq_false_iff_not, Int.not_lt, Int.not_le] at h19
    refine w_exit ?_
    refine q_then_exit ?_
    refine q_then_exit ?_
    refine q_blk_this ?_
    refine q_then (hK8 _ _ ?_)
    refine w_seq (fun K31 hK30 => ?_)
    refine w_region ?_
    refine w_pure want_none (y_move (v := v) rfl rfl) rfl ?_
    refine w_pure want_none (y_assign (v := v) rfl rfl) rfl ?_
    refine w_nil ?_
    refine q_then (hK30 _ _ ?_)
    refine w_ret ?_
    refine q_ret (l := [.tmp 2]) (vs := [_]) rfl ⟨⟨rfl, show _ = (v : Value) from rfl⟩, trivial⟩ ?_
    have hil : i = m.rooms.length := by omega
    subst hil
    rw [List.take_length] at hown
    obtain ⟨ag, cg, rfl, hsg⟩ := own_sl_map (w0 := w0) hown rfl []
    rw [List.append_nil] at hsg
    exact ⟨B, ag, cg, rfl, hsg, hs.tail⟩

theorem c47 {w0 w : World} {F : List (Nat × Obj)} (m : Market) (p : At3) (hm : MIn w0 F m p) (hok : m.Ok) (hs : St w0 w F) :
  Con Try.prog 47 [.agg (m.cells p).toArray] w fun v w' => ∃ B a c, v = .slice a (m.rooms.map (·.hi)).length c ∧ Sl w0 B a 1 ((m.rooms.map (·.hi)).map fun x => [Value.int .i64 x]) ∧ St w0 w' (B ++ F) := by
  refine con_of_wc (n := 23) Try.func47 rfl rfl (Nat.le_of_ble_eq_true rfl) ?_
  obtain ⟨ar, cr, as_, cs, at_, ct⟩ := p
  have hlr := hok.lr
  have hls := hok.ls
  refine w_seq (fun K2 hK1 => ?_)
  refine w_region ?_
  refine w_box (v := .agg #[.slice _ _ _, .slice _ _ _, .slice _ _ _]) (cs := [_, _, _]) want_none rfl rfl rfl hs (fun b3 w4 hs5 => ?_)
  refine w_pure want_none (y_assign (v := _) rfl rfl) rfl ?_
  refine w_nil ?_
  refine q_then (hK1 _ _ ?_)
  refine w_seq (fun K7 hK6 => ?_)
  refine w_region ?_
  refine w_pure want_none (y_assign (v := _) rfl rfl) rfl ?_
  refine w_nil ?_
  refine q_then (hK6 _ _ ?_)
  refine w_seq (fun K9 hK8 => ?_)
  refine w_seq (fun K11 hK10 => ?_)
  refine w_region ?_
  refine w_pure want_none (y_assign (v := _) rfl rfl) rfl ?_
  refine w_nil ?_
  refine q_then (hK10 _ _ ?_)
  refine w_block ?_
  refine w_loop [3, 4, 5, 6, 7, 8, 9, 10, 11, 12, 13, 14, 15, 16, 17, 18, 19, 20, 21] [3, 4] (fun k vs w => ∃ (i : Nat) (v : Value) (B : List (Nat × Obj)), vs = [v, .int .i64 i] ∧ i ≤ m.rooms.length ∧ k = m.rooms.length - i ∧ Rt.Own v 3 1 ((m.rooms.take i).map (·.hi)).length (iv ((m.rooms.take i).map (·.hi))) B ∧ St w0 w ((b3, blk 26 (m.cells ⟨ar, cr, as_, cs, at_, ct⟩)) :: (B ++ F))) (m.rooms.length) ?_ ?_
  ·
   exact ⟨0, _, [], rfl, by omega, by omega, own_nil 3 1, hs5⟩
  ·
   intro k vs μ w14 hI K13 hN12
   obtain ⟨i, v, B, rfl, hia, rfl, hown, hs⟩ := hI
   refine w_seq (fun K16 hK15 => ?_)
   refine w_seq (fun K18 hK17 => ?_)
   refine w_region ?_
   refine w_pure want_none (y_move (v := .int _ _) rfl rfl) rfl ?_
   refine w_pure want_none (y_fieldAddr (o := 0) (i := 0) Try.underlying26 rfl Try.sizeOf22 rfl rfl rfl) rfl ?_
   refine w_pure want_none (y_load1 Try.isAgg22 hs rfl rfl (ats_own (i := 0) (vs := [_]) rfl rfl)) rfl ?_
   refine w_pure want_none (y_lenS Try.underlying22 rfl rfl) rfl ?_
   refine w_pure want_none (y_lss rfl rfl rfl rfl) rfl ?_
   refine w_nil ?_
   refine q_then (hK17 _ _ ?_)
   refine w_cond rfl rfl (fun h19 => ?_) (fun h19 => ?_)
   ·
    try simp only [Bool.not_eq_true', Bool.not_eq_false', decide_eq_true_eq, decide_eq_false_iff_not, Int.not_lt, Int.not_le] at h19
    refine w_skip ?_
    refine q_then (hK15 _ _ ?_)
    refine w_seq (fun K21 hK20 => ?_)
    refine w_block ?_
    have hi2 : i < m.rooms.length := by omega
    obtain ⟨bx, ox, hbx, hx⟩ := sl_rrows hm.r hi2
    subst hbx
    have hln : ((m.rooms.take i).map (·.hi)).length ≤ i := by rw [List.length_map, List.length_take]; omega
    refine w_region ?_
    refine w_pure want_none (y_move (v := v) rfl rfl) rfl ?_
    refine w_pure want_none (y_fieldAddr (o := 0) (i := 0) Try.underlying26 rfl Try.sizeOf22 rfl rfl rfl) rfl ?_
    refine w_pure want_none (y_load1 Try.isAgg22 hs rfl rfl (ats_own (i := 0) (vs := [_]) rfl rfl)) rfl ?_
    refine w_pure want_none (y_move (v := .int _ _) rfl rfl) rfl ?_
    refine w_pure want_none (y_indexS Try.underlying22 Try.sizeOf69 rfl rfl rfl rfl (i := _) rfl (by omega)) rfl ?_
    refine w_pure want_none (y_fieldAddr (o := 1) (i := 1) Try.underlying69 rfl Try.sizeOf67 rfl rfl rfl) rfl ?_
    refine w_pure want_none (y_fieldAddr (o := 1) (i := 1) Try.underlying67 rfl Try.sizeOf3 rfl rfl rfl) rfl ?_
    refine w_pure want_none (y_load1 Try.isAgg3 hs.tail.drop rfl rfl (show Ats _ _ _ _ [_] from Ats.part hx 2 1)) rfl ?_
    refine w_bslice (ps := [(0, _)]) (pv := [(0, .int _ _)]) (cs := [_]) want_none rfl rfl (fun w => Try_R_fb4 _ w) hs (fun b22 w23 hs24 => ?_)
    refine w_append (X := (_ :: _ :: [])) (B := B) (rows := [[_]]) (sz := 1) (bytes := 8) want_none Try.underlying30 Try_info3 rfl rfl rfl rfl rfl rfl rfl rfl rfl hs24 hown (sl_own (i := 0) rfl (by simp) rfl) rfl (by simp) (by simp [Value.oneCell']) (by simp only [maxLen]; omega) (by omega) (fun v25 w26 B27 ho28 hs29 => ?_)
    replace hs29 := (show St _ _ (_ :: _ :: B27 ++ (F)) from hs29)
    refine w_pure want_none (y_assign (v := v25) rfl rfl) rfl ?_
    refine w_nil ?_
    refine q_blk_normal ?_
    refine q_then (hK20 _ _ ?_)
    refine w_region ?_
    refine w_pure want_none (y_move (v := .int _ _) rfl rfl) rfl ?_
    refine w_pure want_none (y_add rfl rfl rfl rfl (by omega) (by omega)) rfl ?_
    refine w_pure want_none (y_assign (v := .int _ _) rfl rfl) rfl ?_
    refine w_nil ?_
    refine q_then (hN12 _ _ (Nx.intro (m.rooms.length - (i + 1)) (by omega) (by repeat (first | exact agree_mix | refine agree_upd rfl ?_ | refine agree_updL rfl ?_ _ | refine agree_mixin rfl ?_)) ?_))
    exact ⟨i + 1, _, _, rfl, by omega, rfl, own_step hi2 ho28, hs29.tail⟩
   ·
    try simp only [Bool.not_eq_true', Bool.not_eq_false', decide_eq_true_eq, decide_eq_false_iff_not, Int.not_lt, Int.not_le] at h19
    refine w_exit ?_
    refine q_then_exit ?_
    refine q_then_exit ?_
    refine q_blk_this ?_
    refine q_then (hK8 _ _ ?_)
    refine w_seq (fun K31 hK30 => ?_)
    refine w_region ?_
    refine w_pure want_none (y_move (v := v) rfl rfl) rfl ?_
    refine w_pure want_none (y_assign (v := v) rfl rfl) rfl ?_
    refine w_nil ?_
    refine q_then (hK30 _ _ ?_)
    refine w_ret ?_
    refine q_ret (l := [.tmp 2]) (vs := [_]) rfl ⟨⟨rfl, show _ = (v : Value) from rfl⟩, trivial⟩ ?_
    have hil : i = m.rooms.length := by omega
    subst hil
    rw [List.take_length] at hown
    obtain ⟨ag, cg, rfl, hsg⟩ := own_sl_map (w0 := w0) hown rfl []
    rw [List.append_nil] at hsg
    exact ⟨B, ag, cg, rfl, hsg, hs.tail⟩

theorem c72 {w0 w : World} {F : List (Nat × Obj)} (m : Market) (p : At3) (hm : MIn w0 F m p) (hok : m.Ok) (hs : St w0 w F) :
  Con Try.prog 72 [.agg (m.cells p).toArray] w fun v w' => ∃ B a c, v = .slice a (m.shops.map (·.want)).length c ∧ Sl w0 B a 1 ((m.shops.map (·.want)).map fun x => [Value.int .i64 x]) ∧ St w0 w' (B ++ F) := by
  refine con_of_wc (n := 22) Try.func72 rfl rfl (Nat.le_of_ble_eq_true rfl) ?_
  obtain ⟨ar, cr, as_, cs, at_, ct⟩ := p
  have hlr := hok.lr
  have hls := hok.ls
  refine w_seq (fun K2 hK1 => ?_)
  refine w_region ?_
  refine w_box (v := .agg #[.slice _ _ _, .slice _ _ _, .slice _ _ _]) (cs := [_, _, _]) want_none rfl rfl rfl hs (fun b3 w4 hs5 => ?_)
  refine w_pure want_none (y_assign (v := _) rfl rfl) rfl ?_
  refine w_nil ?_
  refine q_then (hK1 _ _ ?_)
  refine w_seq (fun K7 hK6 => ?_)
  refine w_region ?_
  refine w_pure want_none (y_assign (v := _) rfl rfl) rfl ?_
  refine w_nil ?_
  refine q_then (hK6 _ _ ?_)
  refine w_seq (fun K9 hK8 => ?_)
  refine w_seq (fun K11 hK10 => ?_)
  refine w_region ?_
  refine w_pure want_none (y_assign (v := _) rfl rfl) rfl ?_
  refine w_nil ?_
  refine q_then (hK10 _ _ ?_)
  refine w_block ?_
  refine w_loop [3, 4, 5, 6, 7, 8, 9, 10, 11, 12, 13, 14, 15, 16, 17, 18, 19, 20] [3, 4] (fun k vs w => ∃ (i : Nat) (v : Value) (B : List (Nat × Obj)), vs = [v, .int .i64 i] ∧ i ≤ m.shops.length ∧ k = m.shops.length - i ∧ Rt.Own v 3 1 ((m.shops.take i).map (·.want)).length (iv ((m.shops.take i).map (·.want))) B ∧ St w0 w ((b3, blk 26 (m.cells ⟨ar, cr, as_, cs, at_, ct⟩)) :: (B ++ F))) (m.shops.length) ?_ ?_
  ·
   exact ⟨0, _, [], rfl, by omega, by omega, own_nil 3 1, hs5⟩
  ·
   intro k vs μ w14 hI K13 hN12
   obtain ⟨i, v, B, rfl, hia, rfl, hown, hs⟩ := hI
   refine w_seq (fun K16 hK15 => ?_)
   refine w_seq (fun K18 hK17 => ?_)
   refine w_region ?_
   refine w_pure want_none (y_move (v := .int _ _) rfl rfl) rfl ?_
   refine w_pure want_none (y_fieldAddr (o := 1) (i := 1) Try.underlying26 rfl Try.sizeOf23 rfl rfl rfl) rfl ?_
   refine w_pure want_none (y_load1 Try.isAgg23 hs rfl rfl (ats_own (i := 0) (vs := [_]) rfl rfl)) rfl ?_
   refine w_pure want_none (y_lenS Try.underlying23 rfl rfl) rfl ?_
   refine w_pure want_none (y_lss rfl rfl rfl rfl) rfl ?_
   refine w_nil ?_
   refine q_then (hK17 _ _ ?_)
   refine w_cond rfl rfl (fun h19 => ?_) (fun h19 => ?_)
   ·
    try simp only [Bool.not_eq_true', Bool.not_eq_false', decide_eq_true_eq, decide_eq_false_iff_not, Int.not_lt, Int.not_le] at h19
    refine w_skip ?_
    refine q_then (hK15 _ _ ?_)
    refine w_seq (fun K21 hK20 => ?_)
    refine w_block ?_
    have hi2 : i < m.shops.length := by omega
    obtain ⟨bx, ox, hbx, hx⟩ := sl_srows hm.s hi2
    subst hbx
    have hln : ((m.shops.take i).map (·.want)).length ≤ i := by rw [List.length_map, List.length_take]; omega
    refine w_region ?_
    refine w_pure want_none (y_move (v := v) rfl rfl) rfl ?_
    refine w_pure want_none (y_fieldAddr (o := 1) (i := 1) Try.underlying26 rfl Try.sizeOf23 rfl rfl rfl) rfl ?_
    refine w_pure want_none (y_load1 Try.isAgg23 hs rfl rfl (ats_own (i := 0) (vs := [_]) rfl rfl)) rfl ?_
    refine w_pure want_none (y_move (v := .int _ _) rfl rfl) rfl ?_
    refine w_pure want_none (y_indexS Try.underlying23 Try.sizeOf52 rfl rfl rfl rfl (i := _) rfl (by omega)) rfl ?_
    refine w_pure want_none (y_fieldAddr (o := 2) (i := 2) Try.underlying52 rfl Try.sizeOf3 rfl rfl rfl) rfl ?_
    refine w_pure want_none (y_load1 Try.isAgg3 hs.tail.drop rfl rfl (show Ats _ _ _ _ [_] from Ats.part hx 2 1)) rfl ?_
    refine w_bslice (ps := [(0, _)]) (pv := [(0, .int _ _)]) (cs := [_]) want_none rfl rfl (fun w => Try_R_fb4 _ w) hs (fun b22 w23 hs24 => ?_)
    refine w_append (X := (_ :: _ :: [])) (B := B) (rows := [[_]]) (sz := 1) (bytes := 8) want_none Try.underlying30 Try_info3 rfl rfl rfl rfl rfl rfl rfl rfl rfl hs24 hown (sl_own (i := 0) rfl (by simp) rfl) rfl (by simp) (by simp [Value.oneCell']) (by simp only [maxLen]; omega) (by omega) (fun v25 w26 B27 ho28 hs29 => ?_)
    replace hs29 := (show St _ _ (_ :: _ :: B27 ++ (F)) from hs29)
    refine w_pure want_none (y_assign (v := v25) rfl rfl) rfl ?_
    refine w_nil ?_
    refine q_blk_normal ?_
    refine q_then (hK20 _ _ ?_)
    refine w_region ?_
    refine w_pure want_none (y_move (v := .int _ _) rfl rfl) rfl ?_
    refine w_pure want_none (y_add rfl rfl rfl rfl (by omega) (by omega)) rfl ?_
    refine w_pure want_none (y_assign (v := .int _ _) rfl rfl) rfl ?_
    refine w_nil ?_
    refine q_then (hN12 _ _ (Nx.intro (m.shops.length - (i + 1)) (by omega) (by repeat (first | exact agree_mix | refine agree_upd rfl ?_ | refine agree_updL rfl ?_ _ | refine agree_mixin rfl ?_)) ?_))
    exact ⟨i + 1, _, _, rfl, by omega, rfl, own_step hi2 ho28, hs29.tail⟩
   ·
    try simp only [Bool.not_eq_true', Bool.not_eq_false', decide_eq_true_eq, decide_eq_false_iff_not, Int.not_lt, Int.not_le] at h19
    refine w_exit ?_
    refine q_then_exit ?_
    refine q_then_exit ?_
    refine q_blk_this ?_
    refine q_then (hK8 _ _ ?_)
    refine w_seq (fun K31 hK30 => ?_)
    refine w_region ?_
    refine w_pure want_none (y_move (v := v) rfl rfl) rfl ?_
    refine w_pure want_none (y_assign (v := v) rfl rfl) rfl ?_
    refine w_nil ?_
    refine q_then (hK30 _ _ ?_)
    refine w_ret ?_
    refine q_ret (l := [.tmp 2]) (vs := [_]) rfl ⟨⟨rfl, show _ = (v : Value) from rfl⟩, trivial⟩ ?_
    have hil : i = m.shops.length := by omega
    subst hil
    rw [List.take_length] at hown
    obtain ⟨ag, cg, rfl, hsg⟩ := own_sl_map (w0 := w0) hown rfl []
    rw [List.append_nil] at hsg
    exact ⟨B, ag, cg, rfl, hsg, hs.tail⟩

end Go.Proofs
/- Plain words of the shop layer: sets asked for by rising numbers. No conditions. -/
set_option linter.unusedSimpArgs false
set_option linter.unusedVariables false
namespace Go.Rt.Sh
/-- Rising numbers below n, each greater than the one before. -/
def rising (n : Int) : Int → List Int → Bool
  | _, [] => true
  | p, x :: l => !(decide (x ≤ p) || decide (n ≤ x)) && rising n x l
theorem rising_stop {n p : Int} {l : List Int} {i : Nat} (hi : i < l.length) (h : l[i] ≤ p ∨ n ≤ l[i]) : rising n p (l.drop i) = false := by
  rw [List.drop_eq_getElem_cons hi, rising]
  rcases h with h | h <;> simp [h]
theorem rising_step {n p : Int} {l : List Int} {i : Nat} (hi : i < l.length) (h : p < l[i]) (h2 : l[i] < n) : rising n p (l.drop i) = rising n l[i] (l.drop (i + 1)) := by
  rw [List.drop_eq_getElem_cons hi, rising]
  simp [h, h2]
theorem rising_end {n p : Int} {l : List Int} {i : Nat} (hi : l.length ≤ i) : rising n p (l.drop i) = true := by rw [List.drop_of_length_le hi]; rfl
/-- A set told so far has greatest bit p. -/
theorem orBits_rising (n : Int) (hn : n ≤ 4) : ∀ (l : List Int) (p : Int) (s : Nat), (∀ x ∈ l, 0 ≤ x ∧ x < n) → (∀ x : Nat, x < 4 → (0 < s >>> x ↔ (x : Int) ≤ p)) → s < 16 → -1 ≤ p → (orBits s l = none ↔ rising n p l = false)
  | [], p, s, _, _, _, _ => by simp [orBits, rising]
  | x :: l, p, s, hx, hs, h16, hp => by
    have h0 := hx x (.head _)
    have hk := hs x.toNat (by omega)
    rw [show ((x.toNat : Nat) : Int) = x by omega] at hk
    simp only [orBits, rising]
    by_cases h : 0 < s >>> x.toNat
    · rw [if_pos h]
      have := hk.1 h
      simp [this]
    · rw [if_neg h]
      have hpx : p < x := by
        rcases Int.lt_or_le p x with h1 | h1
        · exact h1
        · exact absurd (hk.2 h1) h
      have hq : ∀ y : Nat, y < 4 → (0 < (s ||| (1 <<< x.toNat)) >>> y ↔ (y : Int) ≤ x) := by
        intro y hy
        have hsy := hs y hy
        rw [Nat.shiftRight_or_distrib]
        obtain ⟨a, ha, ha4⟩ : ∃ a : Nat, (a : Int) = x ∧ a < 4 := ⟨x.toNat, by omega, by omega⟩
        have hax : x.toNat = a := by omega
        rw [hax]
        have h1 : 0 < (1 <<< a) >>> y ↔ y ≤ a := by
          have : ∀ a < 4, ∀ y < 4, (0 < (1 <<< a) >>> y ↔ y ≤ a) := by decide
          exact this a ha4 y hy
        have h2 : 0 < (s >>> y ||| (1 <<< a) >>> y) ↔ (0 < s >>> y ∨ 0 < (1 <<< a) >>> y) := by
          have e : ∀ u v : Nat, (u ||| v) = 0 ↔ u = 0 ∧ v = 0 := fun u v => Nat.or_eq_zero_iff
          have := e (s >>> y) ((1 <<< a) >>> y)
          rw [Nat.pos_iff_ne_zero, Nat.pos_iff_ne_zero, Nat.pos_iff_ne_zero, ne_eq, this]
          constructor
          · intro h
            by_cases h0 : s >>> y = 0
            · exact .inr fun h1 => h ⟨h0, h1⟩
            · exact .inl h0
          · rintro (h | h) ⟨h1, h2⟩
            · exact h h1
            · exact h h2
        rw [h2, h1, hsy]
        omega
      rw [orBits_rising n hn l x _ (fun y hy => hx y (.tail _ hy)) hq (or_small h16 (by omega)) (by omega)]
      have e1 : decide (x ≤ p) = false := by simpa using hpx
      have e2 : decide (n ≤ x) = false := by simpa using h0.2
      rw [e1, e2]
      simp
end Go.Rt.Sh
/- Plain words of the shop layer's reference: lists in their order, all sets of some shops, the worst of them. No conditions. -/
set_option linter.unusedSimpArgs false
set_option linter.unusedVariables false
namespace Go.Rt
def hasI (l : List Int) (z : Int) : Bool := l.any fun y => decide (y = z)
theorem hasI_succ {l : List Int} {z : Int} {i : Nat} (hi : i < l.length) : hasI (l.take (i + 1)) z = (hasI (l.take i) z || decide (l[i] = z)) := by
  unfold hasI; rw [List.take_succ_eq_append_getElem hi, List.any_append]; simp
theorem hasI_mem {l : List Int} {z : Int} : hasI l z = true ↔ z ∈ l := by simp [hasI]
/-- The numbers below n that are not in a list. -/
def othersTo (l : List Int) : Nat → List Int
  | 0 => []
  | i + 1 => if hasI l i then othersTo l i else othersTo l i ++ [(i : Int)]
theorem othersTo_yes {l : List Int} {i : Nat} (h : hasI l i = true) : othersTo l (i + 1) = othersTo l i := by simp [othersTo, h]
theorem othersTo_no {l : List Int} {i : Nat} (h : hasI l i = false) : othersTo l (i + 1) = othersTo l i ++ [(i : Int)] := by simp [othersTo, h]
theorem othersTo_len (l : List Int) : ∀ i, (othersTo l i).length ≤ i
  | 0 => by simp [othersTo]
  | i + 1 => by have := othersTo_len l i; unfold othersTo; split <;> simp <;> omega
/-! ### The order of lists -/
theorem less_trans : ∀ (a b c : List Int), less a b = true → less b c = true → less a c = true
  | a, [], _, h, _ => by cases a <;> simp [less] at h
  | _, _ :: _, [], _, h => by simp [less] at h
  | [], _ :: _, _ :: _, _, _ => rfl
  | x :: a, y :: b, z :: c, h1, h2 => by
    simp only [less] at h1 h2 ⊢
    by_cases e1 : x = y
    · subst e1
      simp only [if_true] at h1
      by_cases e2 : x = z
      · subst e2; simp only [if_true] at h2 ⊢; exact less_trans a b c h1 h2
      · rw [if_neg e2] at h2 ⊢; exact h2
    · rw [if_neg e1] at h1
      by_cases e2 : y = z
      · subst e2; rw [if_neg e1]; exact h1
      · rw [if_neg e2] at h2
        simp only [decide_eq_true_eq] at h1 h2
        rw [if_neg (by omega)]; simp only [decide_eq_true_eq]; omega
theorem less_asymm {a b : List Int} (h : less a b = true) : less b a = false := by
  cases hb : less b a with
  | false => rfl
  | true => have := less_trans a b a h hb; rw [less_irrefl] at this; cases this
/-! ### All lists of ascending numbers -/
def leastN (x : List Int) : Int := match x.getLast? with | none => 0 | some z => z + 1
def nextTo (x : List Int) (n : Nat) : List (List Int) := ((List.range n).filter fun q : Nat => decide (leastN x ≤ (q : Int))).map fun q : Nat => x ++ [(q : Int)]
def choices (below : Nat) : Nat → List (List Int)
  | 0 => [[]]
  | i + 1 => (choices below i).flatMap fun x => nextTo x below
def chTo (below i k : Nat) : List (List Int) := ((choices below i).take k).flatMap fun x => nextTo x below
theorem chTo_zero (below i : Nat) : chTo below i 0 = [] := rfl
theorem chTo_all {below i k : Nat} (h : (choices below i).length ≤ k) : chTo below i k = choices below (i + 1) := by unfold chTo; rw [List.take_of_length_le h]; rfl
theorem chTo_succ {below i k : Nat} (h : k < (choices below i).length) : chTo below i (k + 1) = chTo below i k ++ nextTo ((choices below i)[k]) below := by
  unfold chTo; rw [List.take_succ_eq_append_getElem h, List.flatMap_append]; simp
theorem nextTo_none {x : List Int} {n : Nat} (h : (n : Int) ≤ leastN x) : nextTo x n = [] := by
  unfold nextTo
  rw [List.filter_eq_nil_iff.2]
  · rfl
  · intro q hq; rw [List.mem_range] at hq; simp; omega
theorem nextTo_succ {x : List Int} {n : Nat} (h : leastN x ≤ (n : Int)) : nextTo x (n + 1) = nextTo x n ++ [x ++ [(n : Int)]] := by
  unfold nextTo; rw [List.range_succ, List.filter_append, List.map_append]; simp [h]
theorem nextTo_len (x : List Int) (n : Nat) : (nextTo x n).length ≤ n := by
  unfold nextTo; rw [List.length_map]; have := List.length_filter_le (fun q : Nat => decide (leastN x ≤ (q : Int))) (List.range n); rwa [List.length_range] at this
theorem flat_le {α β : Type} {f : α → List β} {m : Nat} : ∀ (l : List α), (∀ x ∈ l, (f x).length ≤ m) → (l.flatMap f).length ≤ l.length * m
  | [], _ => by simp
  | a :: l, h => by
    rw [List.flatMap_cons, List.length_append, List.length_cons, Nat.succ_mul]
    have h1 := h a (.head _)
    have h2 := flat_le l fun x hx => h x (.tail _ hx)
    omega
theorem choices_small {below : Nat} (hb : below ≤ 11) : ∀ i, i ≤ 11 → (choices below i).length ≤ 11 ^ i
  | 0, _ => by simp [choices]
  | i + 1, hi => by
    have ih := choices_small hb i (by omega)
    have h1 := flat_le (m := below) (choices below i) (f := fun x => nextTo x below) fun x _ => nextTo_len x below
    rw [Nat.pow_succ]
    have : (choices below i).length * below ≤ 11 ^ i * 11 := Nat.mul_le_mul ih hb
    simp only [choices]; omega
theorem choices_max {below i : Nat} (hb : below ≤ 11) (hi : i ≤ 11) : (choices below i).length ≤ 285311670611 := by
  have h1 := choices_small hb i hi
  have h2 : 11 ^ i ≤ 11 ^ 11 := Nat.pow_le_pow_right (by omega) hi
  have h3 : (11 : Nat) ^ 11 = 285311670611 := by decide
  omega
theorem choices_len {below : Nat} : ∀ (i : Nat), ∀ x ∈ choices below i, x.length = i ∧ ∀ z ∈ x, 0 ≤ z ∧ z < below
  | 0, x, h => by simp [choices] at h; subst h; simp
  | i + 1, x, h => by
    simp only [choices, List.mem_flatMap] at h
    obtain ⟨y, hy, h⟩ := h
    have ih := choices_len i y hy
    unfold nextTo at h
    obtain ⟨q, hq, rfl⟩ := List.mem_map.1 h
    have hq := (List.mem_filter.1 hq).1
    rw [List.mem_range] at hq
    refine ⟨by simp [ih.1], fun z hz => ?_⟩
    rcases List.mem_append.1 hz with h | h
    · exact ih.2 z h
    · simp at h; omega
theorem leastN_nn {below i : Nat} {x : List Int} (h : x ∈ choices below i) : 0 ≤ leastN x ∧ leastN x ≤ below := by
  unfold leastN
  cases e : x.getLast? with
  | none => simp
  | some z => have := (choices_len i x h).2 z (List.mem_of_getLast? e); dsimp only; omega
theorem leastN_at {x : List Int} {i : Nat} (h : x.length = i) (hi : 0 < i) : leastN x = x[i - 1]'(by omega) + 1 := by
  unfold leastN; subst h; rw [List.getLast?_eq_getElem?, List.getElem?_eq_getElem (by omega)]
/-! ### All sets of some numbers -/
def pickL (shops l : List Int) : List Int := l.map fun z => shops.getD z.toNat 0
def setsMany (shops : List Int) (many : Nat) : List (List Int) := (choices shops.length many).map (pickL shops)
def setsTo (shops : List Int) : Nat → List (List Int)
  | 0 => []
  | k + 1 => setsTo shops k ++ setsMany shops k
def setsL (shops : List Int) : List (List Int) := setsTo shops (shops.length + 1)
/-- The one with most, of the first ones; the empty set is passed over. -/
def topStep (f : List Int → Int) (s : List Int × Int) (l : List Int) : List Int × Int := if f l > s.2 then (l, f l) else s
def topTo (f : List Int → Int) (all : List (List Int)) : Nat → List Int × Int
  | 0 => ([], 0)
  | k + 1 => if k = 0 then ([], 0) else match all[k]? with | some l => topStep f (topTo f all k) l | none => topTo f all k
theorem topTo_succ {f : List Int → Int} {all : List (List Int)} {k : Nat} (h0 : 0 < k) (h : k < all.length) : topTo f all (k + 1) = topStep f (topTo f all k) all[k] := by
  simp only [topTo]; rw [if_neg (by omega), List.getElem?_eq_getElem h]
theorem topTo_one {f : List Int → Int} {all : List (List Int)} : topTo f all 1 = ([], 0) := rfl
namespace Sh
theorem before_irrefl (a : List Int) : before a a = false := by simp [before, less_irrefl]
theorem before_trans {a b c : List Int} (h1 : before a b = true) (h2 : before b c = true) : before a c = true := by
  unfold before at *
  simp only [Bool.or_eq_true, Bool.and_eq_true, decide_eq_true_eq] at *
  rcases h1 with h1 | ⟨h1, h1'⟩ <;> rcases h2 with h2 | ⟨h2, h2'⟩
  · left; omega
  · left; omega
  · left; omega
  · right; exact ⟨by omega, less_trans _ _ _ h1' h2'⟩
theorem before_asymm {a b : List Int} (h : before a b = true) : before b a = false := by
  cases hb : before b a with
  | false => rfl
  | true => have := before_trans h hb; rw [before_irrefl] at this; cases this
theorem before_total {a b : List Int} (h1 : before a b = false) (h2 : before b a = false) : a = b := by
  unfold before at *
  simp only [Bool.or_eq_false_iff, Bool.and_eq_false_iff, decide_eq_false_iff_not] at *
  have hl : a.length = b.length := by omega
  have e1 : less a b = false := by rcases h1.2 with h | h; omega; exact h
  have e2 : less b a = false := by rcases h2.2 with h | h; omega; exact h
  exact less_both a b hl e1 e2
/-- The best of some lists: with most, at least 1; the first of these. -/
def Best (f : List Int → Int) (C : List Int → Prop) (s : List Int × Int) : Prop :=
  (s = ([], 0) ∧ ∀ l, C l → f l < 1) ∨ (∃ l, C l ∧ s = (l, f l) ∧ 1 ≤ f l ∧ ∀ c, C c → f c ≤ f l ∧ (f c = f l → c = l ∨ before l c = true))
theorem Best.uniq {f : List Int → Int} {C : List Int → Prop} {s t : List Int × Int} (h1 : Best f C s) (h2 : Best f C t) : s = t := by
  rcases h1 with ⟨rfl, a1⟩ | ⟨l, c1, rfl, b1, a1⟩ <;> rcases h2 with ⟨rfl, a2⟩ | ⟨l', c2, rfl, b2, a2⟩
  · rfl
  · have := a1 _ c2; omega
  · have := a2 _ c1; omega
  · have e1 := a1 _ c2
    have e2 := a2 _ c1
    have e : f l' = f l := by omega
    have : l' = l := by
      rcases e1.2 e with h | h
      · exact h
      · rcases e2.2 e.symm with h' | h'
        · exact h'.symm
        · rw [before_asymm h] at h'; cases h'
    rw [this]
theorem best_top {f : List Int → Int} {all : List (List Int)} (hp : all.Pairwise fun a b => before a b = true) (h0 : ∀ l, all[0]? = some l → f l < 1) : ∀ k, k ≤ all.length → Best f (fun l => l ∈ all.take k) (topTo f all k)
  | 0, _ => .inl ⟨rfl, fun l h => by simp at h⟩
  | k + 1, hk => by
    have ih := best_top hp h0 k (by omega)
    have hkl : k < all.length := by omega
    by_cases h : k = 0
    · subst h
      refine .inl ⟨rfl, fun l hl => ?_⟩
      rw [List.take_succ_eq_append_getElem hkl] at hl
      simp at hl
      exact h0 l (by rw [List.getElem?_eq_getElem hkl, hl])
    · rw [topTo_succ (by omega) hkl]
      have hmem : ∀ l, l ∈ all.take (k + 1) ↔ l ∈ all.take k ∨ l = all[k] := by
        intro l; rw [List.take_succ_eq_append_getElem hkl, List.mem_append, List.mem_singleton]
      have hb : ∀ l, l ∈ all.take k → before l all[k] = true := by
        intro l hl
        obtain ⟨i, hi, rfl⟩ := List.getElem_of_mem hl
        rw [List.getElem_take]
        rw [List.length_take] at hi
        exact (List.pairwise_iff_getElem.1 hp) i k (by omega) hkl (by omega)
      unfold topStep
      rcases ih with ⟨e, a⟩ | ⟨l, c, e, b, a⟩
      · rw [e]
        split
        · rename_i hf
          exact .inr ⟨all[k], (hmem _).2 (.inr rfl), rfl, (by have := hf; simp at this; omega), fun c hc => by
            rcases (hmem c).1 hc with h | h
            · have := a c h; simp at hf; exact ⟨by omega, fun e => by omega⟩
            · subst h; exact ⟨by omega, fun _ => .inl rfl⟩⟩
        · rename_i hf
          exact .inl ⟨rfl, fun c hc => by
            rcases (hmem c).1 hc with h | h
            · exact a c h
            · subst h; simp at hf; omega⟩
      · rw [e]
        split
        · rename_i hf
          refine .inr ⟨all[k], (hmem _).2 (.inr rfl), rfl, ?_, fun c hc => ?_⟩
          · simp at hf; omega
          · simp at hf
            rcases (hmem c).1 hc with h | h
            · have := (a c h).1; exact ⟨by omega, fun e => by omega⟩
            · subst h; exact ⟨by omega, fun _ => .inl rfl⟩
        · rename_i hf
          simp at hf
          refine .inr ⟨l, (hmem _).2 (.inl c), rfl, b, fun c' hc => ?_⟩
          rcases (hmem c').1 hc with h | h
          · exact a c' h
          · subst h; exact ⟨hf, fun _ => .inr (hb l c)⟩
theorem best_worst {f : List Int → Int} {n sub : Nat} {lk : List Int} (hf : ∀ b, b < 16 → bitDiff b sub = 0 → f (listL b n) = lk.getD b 0) : ∀ k, k ≤ 16 → Best f (fun l => ∃ b, b < k ∧ bitDiff b sub = 0 ∧ l = listL b n) (worstTo n sub lk k)
  | 0, _ => .inl ⟨rfl, fun l h => by obtain ⟨b, h, _⟩ := h; omega⟩
  | k + 1, hk => by
    have ih := best_worst (lk := lk) hf k (by omega)
    simp only [worstTo, worstStep]
    by_cases hd : bitDiff k sub = 0
    · have hfk := hf k (by omega) hd
      rw [← hfk]
      have hmem : ∀ l, (∃ b, b < k + 1 ∧ bitDiff b sub = 0 ∧ l = listL b n) ↔ (∃ b, b < k ∧ bitDiff b sub = 0 ∧ l = listL b n) ∨ l = listL k n := by
        intro l
        constructor
        · rintro ⟨b, h1, h2, h3⟩
          by_cases e : b = k
          · subst e; exact .inr h3
          · exact .inl ⟨b, by omega, h2, h3⟩
        · rintro (⟨b, h1, h2, h3⟩ | h)
          · exact ⟨b, by omega, h2, h3⟩
          · exact ⟨k, by omega, hd, h⟩
      rcases ih with ⟨e, a⟩ | ⟨l, c, e, b, a⟩
      · rw [e]
        split
        · rename_i h1
          exact .inl ⟨rfl, fun c hc => by
            rcases (hmem c).1 hc with h | h
            · exact a c h
            · subst h; simp at h1; omega⟩
        · rename_i h1
          simp at h1
          rw [if_pos (by left; simp; omega)]
          exact .inr ⟨_, (hmem _).2 (.inr rfl), rfl, by omega, fun c hc => by
            rcases (hmem c).1 hc with h | h
            · have := a c h; exact ⟨by omega, fun e => by omega⟩
            · subst h; exact ⟨by omega, fun _ => .inl rfl⟩⟩
      · rw [e]
        split
        · rename_i h1
          refine .inr ⟨l, (hmem _).2 (.inl c), rfl, b, fun c' hc => ?_⟩
          rcases (hmem c').1 hc with h | h
          · exact a c' h
          · subst h; simp at h1; exact ⟨by omega, fun e => by omega⟩
        · rename_i h1
          simp at h1
          split
          · rename_i h2
            refine .inr ⟨_, (hmem _).2 (.inr rfl), rfl, by omega, fun c' hc => ?_⟩
            rcases (hmem c').1 hc with h | h
            · have h3 := a c' h
              refine ⟨by omega, fun e => ?_⟩
              rcases h2 with h2 | h2
              · simp at h2; omega
              · rcases h3.2 (by omega) with h4 | h4
                · subst h4; exact .inr h2
                · exact .inr (before_trans h2 h4)
            · subst h; exact ⟨by omega, fun _ => .inl rfl⟩
          · rename_i h2
            simp only [not_or, Bool.not_eq_true] at h2
            refine .inr ⟨l, (hmem _).2 (.inl c), rfl, b, fun c' hc => ?_⟩
            rcases (hmem c').1 hc with h | h
            · exact a c' h
            · subst h
              refine ⟨by simp at h2; omega, fun _ => ?_⟩
              cases hbb : before l (listL k n) with
              | true => exact .inr rfl
              | false => exact .inl (before_total h2.2 hbb)
    · rw [if_pos (.inl hd)]
      have hiff : ∀ l, (∃ b, b < k + 1 ∧ bitDiff b sub = 0 ∧ l = listL b n) ↔ (∃ b, b < k ∧ bitDiff b sub = 0 ∧ l = listL b n) := by
        intro l
        constructor
        · rintro ⟨b, h1, h2, h3⟩
          by_cases e : b = k
          · subst e; exact absurd h2 hd
          · exact ⟨b, by omega, h2, h3⟩
        · rintro ⟨b, h1, h2, h3⟩; exact ⟨b, by omega, h2, h3⟩
      rcases ih with ⟨e, a⟩ | ⟨l, c, e, b, a⟩
      · exact .inl ⟨e, fun l hl => a l ((hiff l).1 hl)⟩
      · exact .inr ⟨l, (hiff l).2 c, e, b, fun c' hc => a c' ((hiff c').1 hc)⟩
/-! ### All sets, as bits -/
theorem sets_pairwise : ∀ n < 5, ∀ sub < 16, sub < 2 ^ n → (setsL (listL sub n)).Pairwise fun a b => before a b = true := by decide +kernel
theorem sets_in : ∀ n < 5, ∀ sub < 16, sub < 2 ^ n → ∀ l ∈ setsL (listL sub n), ∃ b, b < 16 ∧ (bitDiff b sub = 0 ∧ l = listL b n) := by
  have h : ∀ n < 5, ∀ sub < 16, sub < 2 ^ n → ∀ l ∈ setsL (listL sub n), ((List.range 16).any fun b => decide (bitDiff b sub = 0 ∧ l = listL b n)) = true := by decide +kernel
  intro n hn sub hs hs2 l hl
  obtain ⟨b, hb, hd⟩ := List.any_eq_true.1 (h n hn sub hs hs2 l hl)
  exact ⟨b, by simpa using hb, by simpa using hd⟩
theorem sets_all : ∀ n < 5, ∀ sub < 16, sub < 2 ^ n → ∀ b < 16, bitDiff b sub = 0 → listL b n ∈ setsL (listL sub n) := by
  have h : ∀ n < 5, ∀ sub < 16, sub < 2 ^ n → ((List.range 16).all fun b => !decide (bitDiff b sub = 0) || decide (listL b n ∈ setsL (listL sub n))) = true := by decide +kernel
  intro n hn sub hs hs2 b hb hd
  have := List.all_eq_true.1 (h n hn sub hs hs2) b (by simpa using hb)
  simpa [hd] using this
theorem sets_zero : ∀ n < 5, ∀ sub < 16, sub < 2 ^ n → (setsL (listL sub n))[0]? = some (listL 0 n) := by decide +kernel
/-- The reference's worst is the program's. -/
theorem top_worst {f : List Int → Int} {n sub : Nat} {lk : List Int} (hn : n ≤ 4) (hs : sub < 2 ^ n) (hf : ∀ b, b < 16 → bitDiff b sub = 0 → f (listL b n) = lk.getD b 0) (h0 : lk.getD 0 0 < 1) :
    topTo f (setsL (listL sub n)) (setsL (listL sub n)).length = worstTo n sub lk 16 := by
  have hs16 : sub < 16 := by
    have : 2 ^ n ≤ 2 ^ 4 := Nat.pow_le_pow_right (by omega) hn
    omega
  have h1 := best_top (f := f) (sets_pairwise n (by omega) sub hs16 hs) (fun l hl => by
    rw [sets_zero n (by omega) sub hs16 hs] at hl
    cases hl
    rw [hf 0 (by omega) (by simp [bitDiff])]; exact h0) _ (Nat.le_refl _)
  have h2 := best_worst (f := f) (n := n) (sub := sub) (lk := lk) hf 16 (Nat.le_refl _)
  refine Best.uniq (C := fun l => l ∈ setsL (listL sub n)) (by rwa [List.take_length] at h1) ?_
  have hiff : ∀ l, l ∈ setsL (listL sub n) ↔ (∃ b, b < 16 ∧ bitDiff b sub = 0 ∧ l = listL b n) := fun l =>
    ⟨fun h => by obtain ⟨b, hb, h1, h2⟩ := sets_in n (by omega) sub hs16 hs l h; exact ⟨b, hb, h1, h2⟩, fun ⟨b, hb, h1, h2⟩ => h2 ▸ sets_all n (by omega) sub hs16 hs b hb h1⟩
  rcases h2 with ⟨e, a⟩ | ⟨l, c, e, b, a⟩
  · exact .inl ⟨e, fun l hl => a l ((hiff l).1 hl)⟩
  · exact .inr ⟨l, (hiff l).2 c, e, b, fun c' hc => a c' ((hiff c').1 hc)⟩
end Sh
end Go.Rt
/- Walks of this seat, printed by gen.py over the engine: what each function returns, in whatever world. No conditions but those of each contract. -/
set_option linter.unusedVariables false
set_option linter.unusedSimpArgs false
set_option maxRecDepth 20000
namespace Go.Proofs
open Go.Rt Go.Rt.Sh
attribute [local irreducible] WL WC Con Yd At Ats Sl Agree DW
theorem Try_S_fb4 (x0 : Int) (w : World) : (Instr.buildSlice 30 1 [(0, .int .i64 x0)].toArray).run Try.prog w = .ok (.slice (some ⟨w.heap.size, 0, none⟩) 1 1) (w.alloc (Go.Rt.blk 3 [.int .i64 x0])) := by kernel_rfl
theorem bi2 {a b : Bool} {c d : Int} (h : a = b) (k : c = d) : [Value.bool a, Value.int .i64 c] = [Value.bool b, Value.int .i64 d] := by rw [h, k]
theorem c41 {w0 w : World} {F : List (Nat × Obj)} (al : Option Addr) (cl : Nat) (l : List Int) (hll : l.length ≤ 9223372036854775807) (hl : Sl w0 F al 1 (l.map fun x => [Value.int .i64 x])) (z : Int) (hs : St w0 w F) :
  Con Try.prog 41 [.slice al l.length cl, .int .i64 z] w fun v w' => v = .bool (hasI l z) ∧ St w0 w' F := by
  refine con_of_wc (n := 23) Try.func41 rfl rfl (Nat.le_of_ble_eq_true rfl) ?_
  refine w_seq (fun K2 hK1 => ?_)
  refine w_region ?_
  refine w_pure want_none (y_assign (v := _) rfl rfl) rfl ?_
  refine w_nil ?_
  refine q_then (hK1 _ _ ?_)
  refine w_seq (fun K4 hK3 => ?_)
  refine w_region ?_
  refine w_pure want_none (y_assign (v := _) rfl rfl) rfl ?_
  refine w_nil ?_
  refine q_then (hK3 _ _ ?_)
  refine w_seq (fun K6 hK5 => ?_)
  refine w_seq (fun K8 hK7 => ?_)
  refine w_region ?_
  refine w_pure want_none (y_assign (v := _) rfl rfl) rfl ?_
  refine w_nil ?_
  refine q_then (hK7 _ _ ?_)
  refine w_block ?_
  refine w_loop [5, 6, 7, 8, 9, 10, 11, 12, 13, 14, 15, 16, 17, 18, 19, 20, 21] [5, 6] (fun k vs w => ∃ i : Nat, vs = [.bool (hasI (l.take i) z), .int .i64 i] ∧ i ≤ l.length ∧ k = l.length - i ∧ St w0 w F) (l.length) ?_ ?_
  ·
   exact ⟨0, rfl, by omega, by omega, hs⟩
  ·
   intro k vs μ w11 hI K10 hN9
   obtain ⟨i, rfl, hia, rfl, hs⟩ := hI
   generalize hb : hasI (l.take i) z = b
   refine w_seq (fun K13 hK12 => ?_)
   refine w_seq (fun K15 hK14 => ?_)
   refine w_region ?_
   refine w_pure want_none (y_move (v := .int _ _) rfl rfl) rfl ?_
   refine w_pure want_none (y_move (v := .slice _ _ _) rfl rfl) rfl ?_
   refine w_pure want_none (y_lenS Try.underlying30 rfl rfl) rfl ?_
   refine w_pure want_none (y_lss rfl rfl rfl rfl) rfl ?_
   refine w_nil ?_
   refine q_then (hK14 _ _ ?_)
   refine w_cond rfl rfl (fun h16 => ?_) (fun h16 => ?_)
   ·
    try simp only [Bool.not_eq_true', Bool.not_eq_false', decide_eq_true_eq, decide_eq_false_iff_not, Int.not_lt, Int.not_le] at h16
    refine w_skip ?_
    refine q_then (hK12 _ _ ?_)
    refine w_seq (fun K18 hK17 => ?_)
    refine w_block ?_
    have hi2 : i < l.length := by omega
    obtain ⟨bx, ox, hbx, hx⟩ := sl_ints hl hi2
    subst hbx
    refine w_region ?_
    refine w_pure want_none (y_move (v := .bool _) rfl rfl) rfl ?_
    refine w_pure want_none (y_move (v := .bool _) rfl rfl) rfl ?_
    refine w_split (fun h19 => ?_) (fun h19 => ?_)
    ·
     subst h19
     refine w_skipop rfl rfl rfl ?_
     refine w_skipop rfl rfl rfl ?_
     refine w_skipop rfl rfl rfl ?_
     refine w_skipop rfl rfl rfl ?_
     refine w_skipop rfl rfl rfl ?_
     refine w_skipop rfl rfl rfl ?_
     refine w_pure want_none (y_pickT (v := _) rfl rfl rfl rfl) rfl ?_
     refine w_pure want_none (y_assign (v := .bool _) rfl rfl) rfl ?_
     refine w_nil ?_
     refine q_blk_normal ?_
     refine q_then (hK17 _ _ ?_)
     refine w_region ?_
     refine w_pure want_none (y_move (v := .int _ _) rfl rfl) rfl ?_
     refine w_pure want_none (y_add rfl rfl rfl rfl (by omega) (by omega)) rfl ?_
     refine w_pure want_none (y_assign (v := .int _ _) rfl rfl) rfl ?_
     refine w_nil ?_
     refine q_then (hN9 _ _ (Nx.intro (l.length - (i + 1)) (by omega) (by repeat (first | exact agree_mix | refine agree_upd rfl ?_ | refine agree_updL rfl ?_ _ | refine agree_mixin rfl ?_)) ?_))
     first
       | exact ⟨i + 1, bi2 (by rw [hasI_succ hi2, hb]; simp) rfl, by omega, rfl, hs⟩
       | exact ⟨i + 1, bi2 (by rw [hasI_succ hi2, hb]; rfl) rfl, by omega, rfl, hs⟩
    ·
     subst h19
     refine w_pure (want_yes rfl rfl rfl) (y_move (v := .slice _ _ _) rfl rfl) rfl ?_
     refine w_pure (want_yes rfl rfl rfl) (y_move (v := .int _ _) rfl rfl) rfl ?_
     refine w_pure (want_yes rfl rfl rfl) (y_indexS Try.underlying30 Try.sizeOf3 rfl rfl rfl rfl (i := _) rfl (by omega)) rfl ?_
     refine w_pure (want_yes rfl rfl rfl) (y_load1 Try.isAgg3 hs rfl rfl hx) rfl ?_
     refine w_pure (want_yes rfl rfl rfl) (y_move (v := .int _ _) rfl rfl) rfl ?_
     refine w_pure (want_yes rfl rfl rfl) (y_eql rfl rfl rfl rfl) rfl ?_
     refine w_pure want_none (y_pickF (v := .bool _) rfl rfl rfl rfl) rfl ?_
     refine w_pure want_none (y_assign (v := .bool _) rfl rfl) rfl ?_
     refine w_nil ?_
     refine q_blk_normal ?_
     refine q_then (hK17 _ _ ?_)
     refine w_region ?_
     refine w_pure want_none (y_move (v := .int _ _) rfl rfl) rfl ?_
     refine w_pure want_none (y_add rfl rfl rfl rfl (by omega) (by omega)) rfl ?_
     refine w_pure want_none (y_assign (v := .int _ _) rfl rfl) rfl ?_
     refine w_nil ?_
     refine q_then (hN9 _ _ (Nx.intro (l.length - (i + 1)) (by omega) (by repeat (first | exact agree_mix | refine agree_upd rfl ?_ | refine agree_updL rfl ?_ _ | refine agree_mixin rfl ?_)) ?_))
     first
       | exact ⟨i + 1, bi2 (by rw [hasI_succ hi2, hb]; simp) rfl, by omega, rfl, hs⟩
       | exact ⟨i + 1, bi2 (by rw [hasI_succ hi2, hb]; rfl) rfl, by omega, rfl, hs⟩
   ·
    try simp only [Bool.not_eq_true', Bool.not_eq_false', decide_eq_true_eq, decide_eq_false_iff_not, Int.not_lt, Int.not_le] at h16
    refine w_exit ?_
    refine q_then_exit ?_
    refine q_then_exit ?_
    refine q_blk_this ?_
    refine q_then (hK5 _ _ ?_)
    refine w_seq (fun K21 hK20 => ?_)
    refine w_region ?_
    refine w_pure want_none (y_move (v := .bool _) rfl rfl) rfl ?_
    refine w_pure want_none (y_assign (v := .bool _) rfl rfl) rfl ?_
    refine w_nil ?_
    refine q_then (hK20 _ _ ?_)
    refine w_ret ?_
    refine q_ret (l := [.tmp 4]) (vs := [_]) rfl ⟨⟨rfl, show _ = (.bool _ : Value) from rfl⟩, trivial⟩ ?_
    exact ⟨congrArg Value.bool (by have hil : i = l.length := (by omega); subst hil; rw [List.take_length] at hb; exact hb.symm), hs⟩

theorem c44 {w0 w : World} {F : List (Nat × Obj)} (m : Market) (p : At3) (hm : MIn w0 F m p) (hok : m.Ok) (al : Option Addr) (cl : Nat) (l : List Int) (hll : l.length ≤ 9223372036854775807) (hl : Sl w0 F al 1 (l.map fun x => [Value.int .i64 x]))  (hs : St w0 w F) :
  Con Try.prog 44 [.agg (m.cells p).toArray, .slice al l.length cl] w fun v w' => ∃ B a c, v = .slice a (othersTo l m.shops.length).length c ∧ Sl w0 B a 1 ((othersTo l m.shops.length).map fun x => [Value.int .i64 x]) ∧ St w0 w' (B ++ F) := by
  refine con_of_wc (n := 23) Try.func44 rfl rfl (Nat.le_of_ble_eq_true rfl) ?_
  obtain ⟨ar, cr, as_, cs, at_, ct⟩ := p
  have hls := hok.ls
  refine w_seq (fun K2 hK1 => ?_)
  refine w_region ?_
  refine w_box (v := .agg #[.slice _ _ _, .slice _ _ _, .slice _ _ _]) (cs := [_, _, _]) want_none rfl rfl rfl hs (fun b3 w4 hs5 => ?_)
  refine w_pure want_none (y_assign (v := _) rfl rfl) rfl ?_
  refine w_nil ?_
  refine q_then (hK1 _ _ ?_)
  refine w_seq (fun K7 hK6 => ?_)
  refine w_region ?_
  refine w_pure want_none (y_assign (v := _) rfl rfl) rfl ?_
  refine w_nil ?_
  refine q_then (hK6 _ _ ?_)
  refine w_seq (fun K9 hK8 => ?_)
  refine w_seq (fun K11 hK10 => ?_)
  refine w_region ?_
  refine w_pure want_none (y_assign (v := _) rfl rfl) rfl ?_
  refine w_nil ?_
  refine q_then (hK10 _ _ ?_)
  refine w_block ?_
  refine w_loop [5, 6, 7, 8, 9, 10, 11, 12, 13, 14, 15, 16, 17, 18, 19, 20, 21] [5, 6] (fun k vs w => ∃ (i : Nat) (v : Value) (B : List (Nat × Obj)), vs = [v, .int .i64 i] ∧ i ≤ m.shops.length ∧ k = m.shops.length - i ∧ Rt.Own v 3 1 (othersTo l i).length (iv (othersTo l i)) B ∧ St w0 w ((b3, blk 26 (m.cells ⟨ar, cr, as_, cs, at_, ct⟩)) :: (B ++ F))) (m.shops.length) ?_ ?_
  ·
   exact ⟨0, _, [], rfl, by omega, by omega, own_nil 3 1, hs5⟩
  ·
   intro k vs μ w14 hI K13 hN12
   obtain ⟨i, v, B, rfl, hia, rfl, hown, hs⟩ := hI
   refine w_seq (fun K16 hK15 => ?_)
   refine w_seq (fun K18 hK17 => ?_)
   refine w_region ?_
   refine w_pure want_none (y_move (v := .int _ _) rfl rfl) rfl ?_
   refine w_pure want_none (y_fieldAddr (o := 1) (i := 1) Try.underlying26 rfl Try.sizeOf23 rfl rfl rfl) rfl ?_
   refine w_pure want_none (y_load1 Try.isAgg23 hs rfl rfl (ats_own (i := 0) (vs := [_]) rfl rfl)) rfl ?_
   refine w_pure want_none (y_lenS Try.underlying23 rfl rfl) rfl ?_
   refine w_pure want_none (y_lss rfl rfl rfl rfl) rfl ?_
   refine w_nil ?_
   refine q_then (hK17 _ _ ?_)
   refine w_cond rfl rfl (fun h19 => ?_) (fun h19 => ?_)
   ·
    try simp only [Bool.not_eq_true', Bool.not_eq_false', decide_eq_true_eq, decide_eq_false_iff_not, Int.not_lt, Int.not_le] at h19
    refine w_skip ?_
    refine q_then (hK15 _ _ ?_)
    refine w_seq (fun K21 hK20 => ?_)
    refine w_block ?_
    refine w_seq (fun K23 hK22 => ?_)
    have hgl := othersTo_len l i
    refine w_region ?_
    refine w_pure want_none (y_move (v := .slice _ _ _) rfl rfl) rfl ?_
    refine w_pure want_none (y_move (v := .int _ _) rfl rfl) rfl ?_
    refine w_call want_none Try.call41 rfl rfl rfl rfl (c41 _ _ l hll hl.app.cons _ hs) ?_
    rintro _ w25 ⟨rfl, hs26⟩
    refine w_pure want_none (y_not rfl rfl) rfl ?_
    refine w_nil ?_
    refine q_then (hK22 _ _ ?_)
    refine w_cond rfl rfl (fun h27 => ?_) (fun h27 => ?_)
    ·
     try simp only [Bool.not_eq_true', Bool.not_eq_false', decide_eq_true_eq, decide_eq_false_iff_not, Int.not_lt, Int.not_le] at h27
     refine w_region ?_
     refine w_pure want_none (y_move (v := v) rfl rfl) rfl ?_
     refine w_pure want_none (y_move (v := .int _ _) rfl rfl) rfl ?_
     refine w_bslice (ps := [(0, _)]) (pv := [(0, .int _ _)]) (cs := [_]) want_none rfl rfl (fun w => Try_S_fb4 _ w) hs26 (fun b28 w29 hs30 => ?_)
     refine w_append (X := (_ :: _ :: [])) (B := B) (rows := [[_]]) (sz := 1) (bytes := 8) want_none Try.underlying30 Try_info3 rfl rfl rfl rfl rfl rfl rfl rfl rfl hs30 hown (sl_own (i := 0) rfl (by simp) rfl) rfl (by simp) (by simp [Value.oneCell']) (by simp only [maxLen]; omega) (by omega) (fun v31 w32 B33 ho34 hs35 => ?_)
     replace hs35 := (show St _ _ (_ :: _ :: B33 ++ (F)) from hs35)
     refine w_pure want_none (y_assign (v := v31) rfl rfl) rfl ?_
     refine w_nil ?_
     refine q_blk_normal ?_
     refine q_then (hK20 _ _ ?_)
     refine w_region ?_
     refine w_pure want_none (y_move (v := .int _ _) rfl rfl) rfl ?_
     refine w_pure want_none (y_add rfl rfl rfl rfl (by omega) (by omega)) rfl ?_
     refine w_pure want_none (y_assign (v := .int _ _) rfl rfl) rfl ?_
     refine w_nil ?_
     refine q_then (hN12 _ _ (Nx.intro (m.shops.length - (i + 1)) (by omega) (by repeat (first | exact agree_mix | refine agree_upd rfl ?_ | refine agree_updL rfl ?_ _ | refine agree_mixin rfl ?_)) ?_))
     exact ⟨i + 1, _, _, rfl, by omega, rfl, by rw [othersTo_no (by assumption)]; exact own_snoc ho34, hs35.tail⟩
    ·
     try simp only [Bool.not_eq_true', Bool.not_eq_false', decide_eq_true_eq, decide_eq_false_iff_not, Int.not_lt, Int.not_le] at h27
     refine w_skip ?_
     refine q_blk_normal ?_
     refine q_then (hK20 _ _ ?_)
     refine w_region ?_
     refine w_pure want_none (y_move (v := .int _ _) rfl rfl) rfl ?_
     refine w_pure want_none (y_add rfl rfl rfl rfl (by omega) (by omega)) rfl ?_
     refine w_pure want_none (y_assign (v := .int _ _) rfl rfl) rfl ?_
     refine w_nil ?_
     refine q_then (hN12 _ _ (Nx.intro (m.shops.length - (i + 1)) (by omega) (by repeat (first | exact agree_mix | refine agree_upd rfl ?_ | refine agree_updL rfl ?_ _ | refine agree_mixin rfl ?_)) ?_))
     exact ⟨i + 1, v, B, rfl, by omega, rfl, by rw [othersTo_yes (by assumption)]; exact hown, hs26⟩
   ·
    try simp only [Bool.not_eq_true', Bool.not_eq_false', decide_eq_true_eq, decide_eq_false_iff_not, Int.not_lt, Int.not_le] at h19
    refine w_exit ?_
    refine q_then_exit ?_
    refine q_then_exit ?_
    refine q_blk_this ?_
    refine q_then (hK8 _ _ ?_)
    refine w_seq (fun K37 hK36 => ?_)
    refine w_region ?_
    refine w_pure want_none (y_move (v := v) rfl rfl) rfl ?_
    refine w_pure want_none (y_assign (v := v) rfl rfl) rfl ?_
    refine w_nil ?_
    refine q_then (hK36 _ _ ?_)
    refine w_ret ?_
    refine q_ret (l := [.tmp 4]) (vs := [_]) rfl ⟨⟨rfl, show _ = (v : Value) from rfl⟩, trivial⟩ ?_
    have hil : i = m.shops.length := by omega
    subst hil
    obtain ⟨ag, cg, rfl, hsg⟩ := own_sl_map (w0 := w0) hown rfl []
    rw [List.append_nil] at hsg
    exact ⟨B, ag, cg, rfl, hsg, hs.tail⟩

theorem c48 {w0 w : World} {F : List (Nat × Obj)} (m : Market) (p : At3) (hm : MIn w0 F m p) (hok : m.Ok) (hs : St w0 w F) :
  Con Try.prog 48 [.agg (m.cells p).toArray] w fun v w' => ∃ B a c, v = .slice a (othersTo [] m.shops.length).length c ∧ Sl w0 B a 1 ((othersTo [] m.shops.length).map fun x => [Value.int .i64 x]) ∧ St w0 w' (B ++ F) := by
  refine con_of_wc (n := 5) Try.func48 rfl rfl (Nat.le_of_ble_eq_true rfl) ?_
  refine w_seq (fun K2 hK1 => ?_)
  refine w_region ?_
  refine w_box (v := .agg #[.slice _ _ _, .slice _ _ _, .slice _ _ _]) (cs := [_, _, _]) want_none rfl rfl rfl hs (fun b3 w4 hs5 => ?_)
  refine w_pure want_none (y_assign (v := _) rfl rfl) rfl ?_
  refine w_nil ?_
  refine q_then (hK1 _ _ ?_)
  refine w_seq (fun K7 hK6 => ?_)
  refine w_region ?_
  refine w_pure want_none (y_loadN (vs := [_, _, _]) Try.isAgg26 Try.sizeOf26 hs5 rfl rfl (ats_own (i := 0) (vs := [_, _, _]) rfl rfl)) rfl ?_
  refine w_call want_none Try.call44 rfl rfl rfl rfl (c44 m _ hm.cons hok none 0 [] (by simp) (Sl.nil _ _) hs5) ?_
  rintro _ w9 ⟨B, ag, cg, rfl, hsg, hs10⟩
  replace hs10 := (show St _ _ (B ++ (_ :: F)) from hs10)
  refine w_pure want_none (y_assign (v := .slice _ _ _) rfl rfl) rfl ?_
  refine w_nil ?_
  refine q_then (hK6 _ _ ?_)
  refine w_ret ?_
  refine q_ret (l := [.tmp 2]) (vs := [_]) rfl ⟨⟨rfl, show _ = (.slice _ _ _ : Value) from rfl⟩, trivial⟩ ?_
  exact ⟨B ++ [_], ag, cg, rfl, hsg.top, by rw [List.append_assoc]; exact hs10⟩

end Go.Proofs
/- Walks of this seat, printed by gen.py over the engine: what each function returns, in whatever world. No conditions but those of each contract. -/
set_option linter.unusedVariables false
set_option linter.unusedSimpArgs false
set_option maxRecDepth 20000
namespace Go.Proofs
open Go.Rt Go.Rt.Sh
attribute [local irreducible] WL WC Con Yd At Ats Sl Agree DW

theorem c38 {w0 w : World} {F : List (Nat × Obj)} (al : Option Addr) (cl : Nat) (l : List Int) (hll : l.length ≤ 9223372036854775807) (hl : Sl w0 F al 1 (l.map fun x => [Value.int .i64 x])) (n : Int) (hs : St w0 w F) :
  Con Try.prog 38 [.slice al l.length cl, .int .i64 n] w fun v w' => v = .bool (rising n (-1) l) ∧ St w0 w' F := by
  refine con_of_wc (n := 31) Try.func38 rfl rfl (Nat.le_of_ble_eq_true rfl) ?_
  refine w_seq (fun K2 hK1 => ?_)
  refine w_region ?_
  refine w_pure want_none (y_assign (v := _) rfl rfl) rfl ?_
  refine w_nil ?_
  refine q_then (hK1 _ _ ?_)
  refine w_seq (fun K4 hK3 => ?_)
  refine w_region ?_
  refine w_pure want_none (y_assign (v := _) rfl rfl) rfl ?_
  refine w_nil ?_
  refine q_then (hK3 _ _ ?_)
  refine w_seq (fun K6 hK5 => ?_)
  refine w_seq (fun K8 hK7 => ?_)
  refine w_region ?_
  refine w_pure want_none (y_assign (v := _) rfl rfl) rfl ?_
  refine w_nil ?_
  refine q_then (hK7 _ _ ?_)
  refine w_block ?_
  refine w_loop [4, 5, 6, 7, 8, 9, 10, 11, 12, 13, 14, 15, 16, 17, 18, 19, 20, 21, 22, 23, 24, 25, 26, 27, 28, 29, 30] [5, 6] (fun k vs w => ∃ (i : Nat) (p : Int), vs = [.int .i64 p, .int .i64 i] ∧ i ≤ l.length ∧ k = l.length - i ∧ rising n (-1) l = rising n p (l.drop i) ∧ St w0 w F) (l.length) ?_ ?_
  ·
   exact ⟨0, -1, rfl, by omega, by omega, rfl, hs⟩
  ·
   intro k vs μ w11 hI K10 hN9
   obtain ⟨i, p, rfl, hia, rfl, hri, hs⟩ := hI
   refine w_seq (fun K13 hK12 => ?_)
   refine w_seq (fun K15 hK14 => ?_)
   refine w_region ?_
   refine w_pure want_none (y_move (v := .int _ _) rfl rfl) rfl ?_
   refine w_pure want_none (y_move (v := .slice _ _ _) rfl rfl) rfl ?_
   refine w_pure want_none (y_lenS Try.underlying30 rfl rfl) rfl ?_
   refine w_pure want_none (y_lss rfl rfl rfl rfl) rfl ?_
   refine w_nil ?_
   refine q_then (hK14 _ _ ?_)
   refine w_cond rfl rfl (fun h16 => ?_) (fun h16 => ?_)
   ·
    try simp only [Bool.not_eq_true', Bool.not_eq_false', decide_eq_true_eq, decide_eq_false_iff_not, Int.not_lt, Int.not_le] at h16
    refine w_skip ?_
    refine q_then (hK12 _ _ ?_)
    refine w_seq (fun K18 hK17 => ?_)
    refine w_block ?_
    refine w_seq (fun K20 hK19 => ?_)
    refine w_seq (fun K22 hK21 => ?_)
    have hi2 : i < l.length := by omega
    obtain ⟨bx, ox, hbx, hx⟩ := sl_ints hl hi2
    subst hbx
    refine w_region ?_
    refine w_pure want_none (y_move (v := .slice _ _ _) rfl rfl) rfl ?_
    refine w_pure want_none (y_move (v := .int _ _) rfl rfl) rfl ?_
    refine w_pure want_none (y_indexS Try.underlying30 Try.sizeOf3 rfl rfl rfl rfl (i := _) rfl (by omega)) rfl ?_
    refine w_pure want_none (y_load1 Try.isAgg3 hs rfl rfl hx) rfl ?_
    refine w_pure want_none (y_move (v := .int _ _) rfl rfl) rfl ?_
    refine w_pure want_none (y_leq rfl rfl rfl rfl) rfl ?_
    refine w_pure want_none (y_move (v := .bool _) rfl rfl) rfl ?_
    refine w_split (fun h23 => ?_) (fun h23 => ?_)
    ·
     try simp only [Bool.not_eq_true', Bool.not_eq_false', decide_eq_true_eq, decide_eq_false_iff_not, Int.not_lt, Int.not_le] at h23
     refine w_skipop rfl rfl rfl ?_
     refine w_skipop rfl rfl rfl ?_
     refine w_skipop rfl rfl rfl ?_
     refine w_skipop rfl rfl rfl ?_
     refine w_skipop rfl rfl rfl ?_
     refine w_skipop rfl rfl rfl ?_
     refine w_pure want_none (y_pickT (v := _) rfl rfl rfl rfl) rfl ?_
     refine w_nil ?_
     refine q_then (hK21 _ _ ?_)
     refine w_condT rfl rfl ?_
     refine w_seq (fun K25 hK24 => ?_)
     refine w_region ?_
     refine w_pure want_none (y_assign (v := _) rfl rfl) rfl ?_
     refine w_nil ?_
     refine q_then (hK24 _ _ ?_)
     refine w_ret ?_
     refine q_then_ret ?_
     refine q_blk_ret ?_
     refine q_then_ret ?_
     refine q_then_ret ?_
     refine q_blk_ret ?_
     refine q_then_ret ?_
     refine q_ret (l := [.tmp 4]) (vs := [_]) rfl ⟨⟨rfl, show _ = (.bool _ : Value) from rfl⟩, trivial⟩ ?_
     first
       | exact ⟨congrArg Value.bool (hri.trans (rising_end (by omega))).symm, hs⟩
       | exact ⟨congrArg Value.bool (hri.trans (rising_stop hi2 (by omega))).symm, hs⟩
    ·
     try simp only [Bool.not_eq_true', Bool.not_eq_false', decide_eq_true_eq, decide_eq_false_iff_not, Int.not_lt, Int.not_le] at h23
     refine w_pure (want_yes rfl rfl rfl) (y_move (v := .slice _ _ _) rfl rfl) rfl ?_
     refine w_pure (want_yes rfl rfl rfl) (y_move (v := .int _ _) rfl rfl) rfl ?_
     refine w_pure (want_yes rfl rfl rfl) (y_indexS Try.underlying30 Try.sizeOf3 rfl rfl rfl rfl (i := _) rfl (by omega)) rfl ?_
     refine w_pure (want_yes rfl rfl rfl) (y_load1 Try.isAgg3 hs rfl rfl hx) rfl ?_
     refine w_pure (want_yes rfl rfl rfl) (y_move (v := .int _ _) rfl rfl) rfl ?_
     refine w_pure (want_yes rfl rfl rfl) (y_geq rfl rfl rfl rfl) rfl ?_
     refine w_pure want_none (y_pickF (v := .bool _) rfl rfl rfl rfl) rfl ?_
     refine w_nil ?_
     refine q_then (hK21 _ _ ?_)
     refine w_cond rfl rfl (fun h26 => ?_) (fun h26 => ?_)
     ·
      try simp only [Bool.not_eq_true', Bool.not_eq_false', decide_eq_true_eq, decide_eq_false_iff_not, Int.not_lt, Int.not_le] at h26
      refine w_seq (fun K28 hK27 => ?_)
      refine w_region ?_
      refine w_pure want_none (y_assign (v := _) rfl rfl) rfl ?_
      refine w_nil ?_
      refine q_then (hK27 _ _ ?_)
      refine w_ret ?_
      refine q_then_ret ?_
      refine q_blk_ret ?_
      refine q_then_ret ?_
      refine q_then_ret ?_
      refine q_blk_ret ?_
      refine q_then_ret ?_
      refine q_ret (l := [.tmp 4]) (vs := [_]) rfl ⟨⟨rfl, show _ = (.bool _ : Value) from rfl⟩, trivial⟩ ?_
      first
        | exact ⟨congrArg Value.bool (hri.trans (rising_end (by omega))).symm, hs⟩
        | exact ⟨congrArg Value.bool (hri.trans (rising_stop hi2 (by omega))).symm, hs⟩
     ·
      try simp only [Bool.not_eq_true', Bool.not_eq_false', decide_eq_true_eq, decide_eq_false_iff_not, Int.not_lt, Int.not_le] at h26
      refine w_skip ?_
      refine q_then (hK19 _ _ ?_)
      refine w_region ?_
      refine w_pure want_none (y_move (v := .slice _ _ _) rfl rfl) rfl ?_
      refine w_pure want_none (y_move (v := .int _ _) rfl rfl) rfl ?_
      refine w_pure want_none (y_indexS Try.underlying30 Try.sizeOf3 rfl rfl rfl rfl (i := _) rfl (by omega)) rfl ?_
      refine w_pure want_none (y_load1 Try.isAgg3 hs rfl rfl hx) rfl ?_
      refine w_pure want_none (y_assign (v := .int _ _) rfl rfl) rfl ?_
      refine w_nil ?_
      refine q_blk_normal ?_
      refine q_then (hK17 _ _ ?_)
      refine w_region ?_
      refine w_pure want_none (y_move (v := .int _ _) rfl rfl) rfl ?_
      refine w_pure want_none (y_add rfl rfl rfl rfl (by omega) (by omega)) rfl ?_
      refine w_pure want_none (y_assign (v := .int _ _) rfl rfl) rfl ?_
      refine w_nil ?_
      refine q_then (hN9 _ _ (Nx.intro (l.length - (i + 1)) (by omega) (by repeat (first | exact agree_mix | refine agree_upd rfl ?_ | refine agree_updL rfl ?_ _ | refine agree_mixin rfl ?_)) ?_))
      exact ⟨i + 1, _, rfl, by omega, rfl, hri.trans (rising_step hi2 (by omega) (by omega)), hs⟩
   ·
    try simp only [Bool.not_eq_true', Bool.not_eq_false', decide_eq_true_eq, decide_eq_false_iff_not, Int.not_lt, Int.not_le] at h16
    refine w_exit ?_
    refine q_then_exit ?_
    refine q_then_exit ?_
    refine q_blk_this ?_
    refine q_then (hK5 _ _ ?_)
    refine w_seq (fun K30 hK29 => ?_)
    refine w_region ?_
    refine w_pure want_none (y_assign (v := _) rfl rfl) rfl ?_
    refine w_nil ?_
    refine q_then (hK29 _ _ ?_)
    refine w_ret ?_
    refine q_ret (l := [.tmp 4]) (vs := [_]) rfl ⟨⟨rfl, show _ = (.bool _ : Value) from rfl⟩, trivial⟩ ?_
    first
      | exact ⟨congrArg Value.bool (hri.trans (rising_end (by omega))).symm, hs⟩
      | exact ⟨congrArg Value.bool (hri.trans (rising_stop hi2 (by omega))).symm, hs⟩

end Go.Proofs
/- Walks of this seat, printed by gen.py over the engine: what each function returns, in whatever world. No conditions but those of each contract. -/
set_option linter.unusedVariables false
set_option linter.unusedSimpArgs false
set_option maxRecDepth 20000
namespace Go.Proofs
open Go.Rt Go.Rt.Sh
attribute [local irreducible] WL WC Con Yd At Ats Sl Agree DW
theorem Try_V_fb4 (x0 : Option Addr) (l0 c0 : Nat) (w : World) : (Instr.buildSlice 100 1 [(0, .slice x0 l0 c0)].toArray).run Try.prog w = .ok (.slice (some ⟨w.heap.size, 0, none⟩) 1 1) (w.alloc (Go.Rt.blk 30 [.slice x0 l0 c0])) := by kernel_rfl
theorem Try_V_fb5  (w : World) : (Instr.buildSlice 30 0 [].toArray).run Try.prog w = .ok (.slice (some ⟨w.heap.size, 0, none⟩) 0 0) (w.alloc (Go.Rt.blk 3 [])) := by kernel_rfl
theorem Try_V_fb6 (x0 : Int) (w : World) : (Instr.buildSlice 30 1 [(0, .int .i64 x0)].toArray).run Try.prog w = .ok (.slice (some ⟨w.heap.size, 0, none⟩) 1 1) (w.alloc (Go.Rt.blk 3 [.int .i64 x0])) := by kernel_rfl
theorem Try_info30 : Try.prog.info? 30 = some Try.t30 := by kernel_rfl
/-- Slices of integers, as values: what each reads as. -/
def EL (w0 : World) (L : List (Nat × Obj)) (vs : List Value) (ll : List (List Int)) : Prop :=
  vs.length = ll.length ∧ ∀ k (h : k < ll.length), ∃ b c, vs[k]? = some (.slice b ll[k].length c) ∧ Sl w0 L b 1 (ll[k].map fun x => [Value.int .i64 x]) ∧ (b = none → c = 0)
theorem EL.mono {w0 : World} {L L' : List (Nat × Obj)} {vs : List Value} {ll : List (List Int)} (h : EL w0 L vs ll) (hs : ∀ w, St w0 w L' → St w0 w L) : EL w0 L' vs ll :=
  ⟨h.1, fun k hk => by obtain ⟨b, c, h1, h2, h3⟩ := h.2 k hk; exact ⟨b, c, h1, h2.mono hs, h3⟩⟩
theorem EL.cons {w0 : World} {L : List (Nat × Obj)} {x : Nat × Obj} {vs : List Value} {ll : List (List Int)} (h : EL w0 L vs ll) : EL w0 (x :: L) vs ll := h.mono fun _ h => h.tail
theorem EL.app {w0 : World} {L B : List (Nat × Obj)} {vs : List Value} {ll : List (List Int)} (h : EL w0 L vs ll) : EL w0 (B ++ L) vs ll := h.mono fun _ h => h.drop
theorem EL.top {w0 : World} {B F : List (Nat × Obj)} {vs : List Value} {ll : List (List Int)} (h : EL w0 B vs ll) : EL w0 (B ++ F) vs ll := h.mono fun _ h => h.front
theorem EL.nil (w0 : World) (L : List (Nat × Obj)) : EL w0 L [] [] := ⟨rfl, fun k h => by simp at h⟩
theorem EL.snoc {w0 : World} {L : List (Nat × Obj)} {vs : List Value} {ll : List (List Int)} {b : Option Addr} {c : Nat} {l : List Int} (h : EL w0 L vs ll) (hl : Sl w0 L b 1 (l.map fun x => [Value.int .i64 x])) (hn : b = none → c = 0) : EL w0 L (vs ++ [.slice b l.length c]) (ll ++ [l]) := by
  refine ⟨by simp [h.1], fun k hk => ?_⟩
  rw [List.length_append, List.length_singleton] at hk
  by_cases hkl : k < ll.length
  · obtain ⟨b', c', h1, h2, h3⟩ := h.2 k hkl
    refine ⟨b', c', ?_, ?_, h3⟩
    · rw [List.getElem?_append_left (by rw [h.1]; exact hkl), h1, List.getElem_append_left hkl]
    · rw [List.getElem_append_left hkl]; exact h2
  · have : k = ll.length := by omega
    subst this
    refine ⟨b, c, ?_, ?_, hn⟩
    · rw [List.getElem?_append_right (by rw [h.1]; omega), h.1]; simp
    · simpa using hl
theorem el_at {w0 : World} {L : List (Nat × Obj)} {a : Option Addr} {vs : List Value} {ll : List (List Int)} {k : Nat} (hs : Sl w0 L a 1 (vs.map fun v => [v])) (h : EL w0 L vs ll) (hk : k < ll.length) :
    ∃ b off b2 c2, a = some ⟨b, off, none⟩ ∧ Ats w0 L b (off + k * 1) [.slice b2 ll[k].length c2] ∧ Sl w0 L b2 1 (ll[k].map fun x => [Value.int .i64 x]) ∧ (b2 = none → c2 = 0) := by
  obtain ⟨b2, c2, h1, h2, h3⟩ := h.2 k hk
  obtain ⟨b, off, ha, _, hat⟩ := hs.at (i := k) (row := [.slice b2 ll[k].length c2]) (by rw [List.getElem?_map, h1]; rfl)
  exact ⟨b, off, b2, c2, ha, hat, h2, h3⟩
theorem el_perm {w0 w : World} {a b : Nat × Obj} {B N E R : List (Nat × Obj)} (h : St w0 w (a :: b :: (B ++ (N ++ (E ++ R))))) : St w0 w (N ++ ((B ++ E) ++ R)) := by
  have h1 : St w0 w (B ++ (N ++ (E ++ R))) := h.tail.tail
  have h2 : St w0 w (N ++ (B ++ (E ++ R))) := h1.perm (perm_mid B N (E ++ R))
  rwa [← List.append_assoc B] at h2
theorem el_perm1 {w0 w : World} {a : Nat × Obj} {B N E R : List (Nat × Obj)} (h : St w0 w (a :: (B ++ (N ++ (E ++ R))))) : St w0 w (N ++ ((B ++ E) ++ R)) := by
  have h2 : St w0 w (N ++ (B ++ (E ++ R))) := h.tail.perm (perm_mid B N (E ++ R))
  rwa [← List.append_assoc B] at h2
theorem _root_.Go.Rt.Ats.top {w0 : World} {B F : List (Nat × Obj)} {b off : Nat} {vs : List Value} (h : Ats w0 B b off vs) : Ats w0 (B ++ F) b off vs := h.mono fun _ h => h.front
theorem el_drop2 (N E1 O E F : List (Nat × Obj)) : (N ++ (E1 ++ (O ++ (E ++ F)))).Perm ((O ++ E) ++ (N ++ (E1 ++ F))) := by
  have h := perm_mid (N ++ E1) (O ++ E) F
  simpa only [List.append_assoc] using h
theorem flat_ints (l : List Int) : (l.map fun x => [Value.int .i64 x]).flatten = iv l := by induction l <;> simp_all
theorem ints_one (l : List Int) : ∀ row ∈ (l.map fun x => [Value.int .i64 x]), ∀ u ∈ row, u.oneCell' = true := by
  intro row hr u hu; obtain ⟨x, _, rfl⟩ := List.mem_map.1 hr; simp at hu; subst hu; rfl
/-- A list of one's own, as a slice: nil has no room. -/
theorem own_ints {w0 : World} {v : Value} {l : List Int} {B : List (Nat × Obj)} (h : Rt.Own v 3 1 l.length (iv l) B) : ∃ a c, v = .slice a l.length c ∧ Sl w0 B a 1 (l.map fun x => [Value.int .i64 x]) ∧ (a = none → c = 0) ∧ l.length ≤ c := by
  obtain ⟨a, c, hv, hs⟩ := own_sl_map (w0 := w0) h rfl []
  rw [List.append_nil] at hs
  refine ⟨a, c, hv, hs, fun ha => ?_, ?_⟩
  · rcases h.2 with ⟨h2, _⟩ | ⟨b, cap, cs, h2, _⟩
    · rw [h2] at hv; injection hv with _ _ h3; exact h3.symm
    · rw [h2] at hv; injection hv with h3; rw [ha] at h3; cases h3
  · rcases h.2 with ⟨h2, h3, _⟩ | ⟨b, cap, cs, h2, _, h4, _⟩
    · rw [h2] at hv; injection hv with _ _ h5; omega
    · rw [h2] at hv; injection hv with _ _ h5; omega
theorem own_ints1 {v : Value} {l : List Int} {d : Int} {B : List (Nat × Obj)} (h : Rt.Own v 3 1 (0 + l.length + 1) ([] ++ (l.map fun x => [Value.int .i64 x]).flatten ++ [[Value.int .i64 d]].flatten) B) : Rt.Own v 3 1 (l ++ [d]).length (iv (l ++ [d])) B := by
  rw [flat_ints] at h
  simpa [Nat.add_comm] using h
theorem own_el {v : Value} {ws : List Value} {u : Value} {NB : List (Nat × Obj)} {g : List (List Int)} {x : List Int} (h : Rt.Own v 30 1 (g.length + 1) (ws ++ [[u]].flatten) NB) : Rt.Own v 30 1 (g ++ [x]).length (ws ++ [u]) NB := by simpa using h
theorem yd_slice {P : Program} {a : Act} {o : Oper} {w : World} {x y : Option Addr} {l c : Nat} (h : x = y) (hy : Yd P a o w (.slice x l c)) : Yd P a o w (.slice y l c) := h ▸ hy
theorem sl_own_ints {w0 : World} {L : List (Nat × Obj)} {i b n : Nat} {t : TypeId} {cs : List Value} {l : List Int} (hi : L[i]? = some (b, blk t cs)) (hn : l.length = n) (h : cs.take (n * 1) = iv l) : Sl w0 L (some ⟨b, 0, none⟩) 1 (l.map fun x => [Value.int .i64 x]) :=
  sl_own hi (by intro row hr; obtain ⟨f, _, rfl⟩ := List.mem_map.1 hr; rfl) (by rw [List.length_map, flat_ints, hn]; exact h)
theorem el_more {w0 : World} {B E : List (Nat × Obj)} {ws : List Value} {g : List (List Int)} {a : Option Addr} {c : Nat} {l : List Int} (h : EL w0 E ws g) (hs : Sl w0 B a 1 (l.map fun x => [Value.int .i64 x])) (hn : a = none → c = 0) : EL w0 (B ++ E) (ws ++ [.slice a l.length c]) (g ++ [l]) := h.app.snoc hs.top hn
theorem c93 {w0 w : World} {F : List (Nat × Obj)} (below many : Nat) (hb12 : below ≤ 11) (hm12 : many ≤ 11) (hs : St w0 w F) : Con Try.prog 93 [.int .i64 (below : Int), .int .i64 (many : Int)] w fun v w' => ∃ (B : List (Nat × Obj)) (vs : List Value) (a : Option Addr) (c : Nat), v = .slice a (choices below many).length c ∧ Sl w0 B a 1 (vs.map fun v => [v]) ∧ EL w0 B vs (choices below many) ∧ St w0 w' (B ++ F) := by
  refine con_of_wc (n := 54) Try.func93 rfl rfl (Nat.le_of_ble_eq_true rfl) ?_
  refine w_seq (fun K2 hK1 => ?_)
  refine w_region ?_
  refine w_pure want_none (y_assign (v := _) rfl rfl) rfl ?_
  refine w_nil ?_
  refine q_then (hK1 _ _ ?_)
  refine w_seq (fun K4 hK3 => ?_)
  refine w_region ?_
  refine w_bslice (ps := [(0, _)]) (pv := [(0, .slice _ _ _)]) (cs := [_]) want_none rfl rfl (fun w => Try_V_fb4 _ _ _ w) hs (fun b5 w6 hs7 => ?_)
  refine w_pure want_none (y_assign (v := .slice _ _ _) rfl rfl) rfl ?_
  refine w_nil ?_
  refine q_then (hK3 _ _ ?_)
  refine w_seq (fun K9 hK8 => ?_)
  refine w_seq (fun K11 hK10 => ?_)
  refine w_region ?_
  refine w_pure want_none (y_assign (v := _) rfl rfl) rfl ?_
  refine w_nil ?_
  refine q_then (hK10 _ _ ?_)
  refine w_block ?_
  refine w_loop [5, 6, 7, 8, 9, 10, 12, 13, 14, 15, 16, 17, 18, 19, 20, 21, 22, 23, 24, 25, 26, 27, 28, 29, 30, 31, 32, 33, 34, 35, 36, 37, 38, 39, 40, 41, 42, 43, 44, 45, 46, 47, 48, 49, 50, 51, 52] [5, 6] (fun kk vs0 w => ∃ (i : Nat) (vO : Value) (OB E : List (Nat × Obj)) (vs : List Value), vs0 = [vO, .int .i64 i] ∧ i ≤ many ∧ kk = many - i ∧ Rt.Own vO 30 1 (choices below i).length vs OB ∧ EL w0 E vs (choices below i) ∧ St w0 w (OB ++ (E ++ F))) (many) ?_ ?_
  ·
   exact ⟨0, _, [_], [], [.slice none 0 0], rfl, by omega, by omega, own_lit rfl (by simp [maxLen]), ⟨rfl, fun k hk => ⟨none, 0, by simp [choices] at hk; subst hk; rfl, by simp [choices] at hk; subst hk; exact Sl.nil _ _, fun _ => rfl⟩⟩, hs7⟩
  ·
   intro k vs μ w14 hI K13 hN12
   obtain ⟨i, vO, OB, E, vs, rfl, hia, rfl, hown0, hel, hs⟩ := hI
   refine w_seq (fun K16 hK15 => ?_)
   refine w_seq (fun K18 hK17 => ?_)
   refine w_region ?_
   refine w_pure want_none (y_move (v := .int _ _) rfl rfl) rfl ?_
   refine w_pure want_none (y_move (v := .int _ _) rfl rfl) rfl ?_
   refine w_pure want_none (y_lss rfl rfl rfl rfl) rfl ?_
   refine w_nil ?_
   refine q_then (hK17 _ _ ?_)
   refine w_cond rfl rfl (fun h19 => ?_) (fun h19 => ?_)
   ·
    try simp only [Bool.not_eq_true', Bool.not_eq_false', decide_eq_true_eq, decide_eq_false_iff_not, Int.not_lt, Int.not_le] at h19
    refine w_skip ?_
    refine q_then (hK15 _ _ ?_)
    refine w_seq (fun K21 hK20 => ?_)
    refine w_block ?_
    refine w_seq (fun K23 hK22 => ?_)
    have hi2 : i < many := by omega
    have hcm := choices_max (i := i) hb12 (by omega)
    have hcl := choices_len (below := below) i
    obtain ⟨aO, cO, rfl, hslO⟩ := own_sl_id (w0 := w0) hown0 hel.1 (E ++ F)
    refine w_region ?_
    refine w_pure want_none (y_assign (v := _) rfl rfl) rfl ?_
    refine w_nil ?_
    refine q_then (hK22 _ _ ?_)
    refine w_seq (fun K25 hK24 => ?_)
    refine w_seq (fun K27 hK26 => ?_)
    refine w_region ?_
    refine w_pure want_none (y_assign (v := _) rfl rfl) rfl ?_
    refine w_nil ?_
    refine q_then (hK26 _ _ ?_)
    refine w_block ?_
    refine w_loop [7, 8, 9, 10, 17, 18, 19, 20, 21, 22, 23, 24, 25, 26, 27, 28, 29, 30, 31, 32, 33, 34, 35, 36, 37, 38, 39, 40, 41, 42, 43, 44, 45, 46, 47, 48, 49, 50, 51] [7, 8] (fun kk vs0 w => ∃ (k : Nat) (vN : Value) (NB E1 : List (Nat × Obj)) (ws : List Value), vs0 = [vN, .int .i64 k] ∧ k ≤ (choices below i).length ∧ kk = (choices below i).length - k ∧ Rt.Own vN 30 1 (chTo below i k).length ws NB ∧ EL w0 E1 ws (chTo below i k) ∧ St w0 w (NB ++ (E1 ++ (OB ++ (E ++ F))))) ((choices below i).length) ?_ ?_
    ·
     exact ⟨0, _, [], [], [], rfl, by omega, by omega, own_nil 30 1, EL.nil _ _, hs⟩
    ·
     intro k vs μ w30 hI K29 hN28
     obtain ⟨k, vN, NB, E1, ws, rfl, hka, rfl, hown1, hel1, hs⟩ := hI
     refine w_seq (fun K32 hK31 => ?_)
     refine w_seq (fun K34 hK33 => ?_)
     refine w_region ?_
     refine w_pure want_none (y_move (v := .int _ _) rfl rfl) rfl ?_
     refine w_pure want_none (y_move (v := .slice _ _ _) rfl rfl) rfl ?_
     refine w_pure want_none (y_lenS Try.underlying100 rfl rfl) rfl ?_
     refine w_pure want_none (y_lss rfl rfl rfl rfl) rfl ?_
     refine w_nil ?_
     refine q_then (hK33 _ _ ?_)
     refine w_cond rfl rfl (fun h35 => ?_) (fun h35 => ?_)
     ·
      try simp only [Bool.not_eq_true', Bool.not_eq_false', decide_eq_true_eq, decide_eq_false_iff_not, Int.not_lt, Int.not_le] at h35
      refine w_skip ?_
      refine q_then (hK31 _ _ ?_)
      refine w_seq (fun K37 hK36 => ?_)
      refine w_block ?_
      refine w_seq (fun K39 hK38 => ?_)
      have hk2 : k < (choices below i).length := by omega
      obtain ⟨bx, ox, b2, c2, rfl, hx, hsx0, hnx⟩ := el_at hslO (hel.mono fun _ h => h.drop.front) hk2
      have hxl := (hcl _ (List.getElem_mem hk2)).1
      have hln := leastN_nn (List.getElem_mem hk2)
      refine w_region ?_
      refine w_pure want_none (y_assign (v := _) rfl rfl) rfl ?_
      refine w_nil ?_
      refine q_then (hK38 _ _ ?_)
      refine w_seq (fun K41 hK40 => ?_)
      refine w_cut [9, 23, 24, 25, 26, 27, 28, 29, 30, 31, 32, 33] [9] (fun vs w => vs = [.int .i64 (leastN ((choices below i)[k]'hk2))] ∧ St w0 w (NB ++ (E1 ++ (OB ++ (E ++ F))))) (fun K43 hC42 => ?_) ?_
      ·
       refine w_seq (fun K45 hK44 => ?_)
       refine w_region ?_
       refine w_pure want_none (y_move (v := .int _ _) rfl rfl) rfl ?_
       refine w_pure want_none (y_gtr rfl rfl rfl rfl) rfl ?_
       refine w_nil ?_
       refine q_then (hK44 _ _ ?_)
       refine w_cond rfl rfl (fun h46 => ?_) (fun h46 => ?_)
       ·
        try simp only [Bool.not_eq_true', Bool.not_eq_false', decide_eq_true_eq, decide_eq_false_iff_not, Int.not_lt, Int.not_le] at h46
        obtain ⟨by_, oy, hb2, hy⟩ := sl_ints (i := i - 1) hsx0 (by omega)
        subst hb2
        have hyb := (hcl _ (List.getElem_mem hk2)).2 _ (List.getElem_mem (show i - 1 < ((choices below i)[k]'hk2).length by omega))
        refine w_region ?_
        refine w_pure want_none (y_move (v := .slice _ _ _) rfl rfl) rfl ?_
        refine w_pure want_none (y_move (v := .int _ _) rfl rfl) rfl ?_
        refine w_pure want_none (y_indexS Try.underlying100 Try.sizeOf30 rfl rfl rfl rfl (i := _) rfl (by omega)) rfl ?_
        refine w_pure want_none (y_load1 Try.isAgg30 hs.drop.drop rfl rfl hx) rfl ?_
        refine w_pure want_none (y_move (v := .int _ _) rfl rfl) rfl ?_
        refine w_pure want_none (y_sub rfl rfl rfl rfl (by omega) (by omega)) rfl ?_
        refine w_pure want_none (y_indexS Try.underlying30 Try.sizeOf3 rfl rfl rfl rfl (i := i - 1) (by omega) (by omega)) rfl ?_
        refine w_pure want_none (y_load1 Try.isAgg3 hs.drop.drop rfl rfl hy) rfl ?_
        refine w_pure want_none (y_add rfl rfl rfl rfl (by omega) (by omega)) rfl ?_
        refine w_pure want_none (y_assign (v := .int _ _) rfl rfl) rfl ?_
        refine w_nil ?_
        refine q_then (hC42 _ _ (Md.intro (by repeat (first | exact agree_refl | exact agree_mix | refine agree_upd rfl ?_ | refine agree_updL rfl ?_ _ | refine agree_mixin rfl ?_)) ?_))
        first
          | exact ⟨by rw [leastN_at hxl (by omega)]; rfl, hs⟩
          | exact ⟨by have hi0 : i = 0 := (by omega); have : leastN ((choices below i)[k]'hk2) = 0 := (by unfold leastN; rw [List.getLast?_eq_none_iff.2 (List.eq_nil_of_length_eq_zero (by omega))]); rw [this]; rfl, hs⟩
       ·
        try simp only [Bool.not_eq_true', Bool.not_eq_false', decide_eq_true_eq, decide_eq_false_iff_not, Int.not_lt, Int.not_le] at h46
        refine w_skip ?_
        refine q_then (hC42 _ _ (Md.intro (by repeat (first | exact agree_refl | exact agree_mix | refine agree_upd rfl ?_ | refine agree_updL rfl ?_ _ | refine agree_mixin rfl ?_)) ?_))
        first
          | exact ⟨by rw [leastN_at hxl (by omega)]; rfl, hs⟩
          | exact ⟨by have hi0 : i = 0 := (by omega); have : leastN ((choices below i)[k]'hk2) = 0 := (by unfold leastN; rw [List.getLast?_eq_none_iff.2 (List.eq_nil_of_length_eq_zero (by omega))]); rw [this]; rfl, hs⟩
      ·
       intro vs μ w47 hM
       obtain ⟨rfl, hs⟩ := hM
       refine q_then (hK40 _ _ ?_)
       refine w_seq (fun K49 hK48 => ?_)
       refine w_region ?_
       refine w_pure want_none (y_move (v := .int _ _) rfl rfl) rfl ?_
       refine w_pure want_none (y_assign (v := .int _ _) rfl rfl) rfl ?_
       refine w_nil ?_
       refine q_then (hK48 _ _ ?_)
       refine w_block ?_
       refine w_loop [7, 10, 35, 36, 37, 38, 39, 40, 41, 42, 43, 44, 45, 46, 47, 48, 49, 50, 51] [7, 10] (fun kk vs0 w => ∃ (n : Nat) (vN : Value) (NB E1 : List (Nat × Obj)) (ws : List Value), vs0 = [vN, .int .i64 n] ∧ n ≤ below ∧ leastN ((choices below i)[k]'hk2) ≤ n ∧ kk = below - n ∧ Rt.Own vN 30 1 (chTo below i k ++ nextTo ((choices below i)[k]'hk2) n).length ws NB ∧ EL w0 E1 ws (chTo below i k ++ nextTo ((choices below i)[k]'hk2) n) ∧ St w0 w (NB ++ (E1 ++ (OB ++ (E ++ F))))) (below - (leastN ((choices below i)[k]'hk2)).toNat) ?_ ?_
       ·
        have hn0 : nextTo ((choices below i)[k]'hk2) (leastN ((choices below i)[k]'hk2)).toNat = [] := nextTo_none (by omega)
        exact ⟨(leastN ((choices below i)[k]'hk2)).toNat, vN, NB, E1, ws, by rw [Int.toNat_of_nonneg hln.1]; rfl, by omega, by omega, by omega, by rw [hn0, List.append_nil]; exact hown1, by rw [hn0, List.append_nil]; exact hel1, hs⟩
       ·
        intro k vs μ w52 hI K51 hN50
        obtain ⟨n, vN, NB, E1, ws, rfl, hqa, hqb, rfl, hown2, hel2, hs⟩ := hI
        refine w_seq (fun K54 hK53 => ?_)
        refine w_seq (fun K56 hK55 => ?_)
        refine w_region ?_
        refine w_pure want_none (y_move (v := .int _ _) rfl rfl) rfl ?_
        refine w_pure want_none (y_move (v := .int _ _) rfl rfl) rfl ?_
        refine w_pure want_none (y_lss rfl rfl rfl rfl) rfl ?_
        refine w_nil ?_
        refine q_then (hK55 _ _ ?_)
        refine w_cond rfl rfl (fun h57 => ?_) (fun h57 => ?_)
        ·
         try simp only [Bool.not_eq_true', Bool.not_eq_false', decide_eq_true_eq, decide_eq_false_iff_not, Int.not_lt, Int.not_le] at h57
         refine w_skip ?_
         refine q_then (hK53 _ _ ?_)
         refine w_seq (fun K59 hK58 => ?_)
         refine w_block ?_
         have hq2 : n < below := by omega
         have hnl := nextTo_len ((choices below i)[k]'hk2) n
         have hgl : (chTo below i k).length ≤ 285311670611 := by
           have h1 := flat_le (m := below) ((choices below i).take k) (f := fun x => nextTo x below) fun x _ => nextTo_len x below
           have h2 := choices_max (below := below) (i := i + 1) hb12 (by omega)
           have h3 := List.take_append_drop k (choices below i)
           have h4 : (choices below (i + 1)).length = (chTo below i k).length + (((choices below i).drop k).flatMap fun x => nextTo x below).length := by
             rw [← List.length_append]; unfold chTo; rw [← List.flatMap_append, h3]; rfl
           omega
         refine w_region ?_
         refine w_pure want_none (y_move (v := vN) rfl rfl) rfl ?_
         refine w_bslice (ps := []) (pv := []) (cs := []) want_none rfl rfl (fun w => Try_V_fb5  w) hs (fun b60 w61 hs62 => ?_)
         refine w_pure want_none (y_move (v := .slice _ _ _) rfl rfl) rfl ?_
         refine w_pure want_none (y_move (v := .int _ _) rfl rfl) rfl ?_
         refine w_pure want_none (y_indexS Try.underlying100 Try.sizeOf30 rfl rfl rfl rfl (i := _) rfl (by omega)) rfl ?_
         refine w_pure want_none (y_load1 Try.isAgg30 hs62.tail.drop.drop rfl rfl hx) rfl ?_
         refine w_append (X := ([])) (B := [_]) (rows := (((choices below i)[k]'hk2).map fun x => [Value.int .i64 x])) (sz := 1) (bytes := 8) want_none Try.underlying30 Try_info3 rfl rfl rfl rfl rfl rfl rfl rfl rfl hs62 own_made hsx0.app.app.cons (by simp) hnx (ints_one _) (by simp only [maxLen]; omega) (by omega) (fun v63 w64 B65 ho66 hs67 => ?_)
         replace hs67 := (show St _ _ (B65 ++ (NB ++ (E1 ++ (OB ++ (E ++ (F)))))) from hs67)
         refine w_pure want_none (y_move (v := .int _ _) rfl rfl) rfl ?_
         refine w_bslice (ps := [(0, _)]) (pv := [(0, .int _ _)]) (cs := [_]) want_none rfl rfl (fun w => Try_V_fb6 _ w) hs67 (fun b68 w69 hs70 => ?_)
         refine w_append (X := (_ :: [])) (B := B65) (rows := [[_]]) (sz := 1) (bytes := 8) want_none Try.underlying30 Try_info3 rfl rfl rfl rfl rfl rfl rfl rfl rfl hs70 ho66 (sl_own (i := 0) rfl (by simp) rfl) rfl (by simp) (by simp [Value.oneCell']) (by simp only [maxLen]; omega) (by omega) (fun v71 w72 B73 ho74 hs75 => ?_)
         replace hs75 := (show St _ _ (_ :: B73 ++ (NB ++ (E1 ++ (OB ++ (E ++ (F)))))) from hs75)
         obtain ⟨a3, c3, rfl, hsl3, hn3, _⟩ := own_ints (w0 := w0) (own_ints1 ho74)
         refine w_bslice (ps := [(0, _)]) (pv := [(0, .slice _ _ _)]) (cs := [_]) want_none rfl rfl (fun w => Try_V_fb4 _ _ _ w) hs75 (fun b76 w77 hs78 => ?_)
         refine w_append (X := (_ :: _ :: B73)) (B := NB) (rows := [[_]]) (sz := 1) (bytes := 24) want_none Try.underlying100 Try_info30 rfl rfl rfl rfl rfl rfl rfl rfl rfl hs78 hown2 (sl_own (i := 0) rfl (by simp) rfl) rfl (by simp) (by simp [Value.oneCell']) (by simp only [maxLen, List.length_append]; omega) (by simp only [List.length_append]; omega) (fun v79 w80 B81 ho82 hs83 => ?_)
         replace hs83 := (show St _ _ (_ :: _ :: B73 ++ (B81 ++ (E1 ++ (OB ++ (E ++ (F)))))) from hs83)
         refine w_pure want_none (y_assign (v := v79) rfl rfl) rfl ?_
         refine w_nil ?_
         refine q_blk_normal ?_
         refine q_then (hK58 _ _ ?_)
         refine w_region ?_
         refine w_pure want_none (y_move (v := .int _ _) rfl rfl) rfl ?_
         refine w_pure want_none (y_add rfl rfl rfl rfl (by omega) (by omega)) rfl ?_
         refine w_pure want_none (y_assign (v := .int _ _) rfl rfl) rfl ?_
         refine w_nil ?_
         refine q_then (hN50 _ _ (Nx.intro (below - (n + 1)) (by omega) (by repeat (first | exact agree_mix | refine agree_upd rfl ?_ | refine agree_updL rfl ?_ _ | refine agree_mixin rfl ?_)) ?_))
         exact ⟨n + 1, _, _, B73 ++ E1, _, rfl, by omega, by omega, rfl, by rw [nextTo_succ hqb, ← List.append_assoc]; exact own_el ho82, by rw [nextTo_succ hqb, ← List.append_assoc]; exact el_more hel2 hsl3 hn3, el_perm hs83⟩
        ·
         try simp only [Bool.not_eq_true', Bool.not_eq_false', decide_eq_true_eq, decide_eq_false_iff_not, Int.not_lt, Int.not_le] at h57
         refine w_exit ?_
         refine q_then_exit ?_
         refine q_then_exit ?_
         refine q_blk_this ?_
         refine q_blk_normal ?_
         refine q_then (hK36 _ _ ?_)
         refine w_region ?_
         refine w_pure want_none (y_move (v := .int _ _) rfl rfl) rfl ?_
         refine w_pure want_none (y_add rfl rfl rfl rfl (by omega) (by omega)) rfl ?_
         refine w_pure want_none (y_assign (v := .int _ _) rfl rfl) rfl ?_
         refine w_nil ?_
         refine q_then (hN28 _ _ (Nx.intro ((choices below i).length - (k + 1)) (by omega) (by repeat (first | exact agree_mix | refine agree_upd rfl ?_ | refine agree_updL rfl ?_ _ | refine agree_mixin rfl ?_)) ?_))
         have hqb : n = below := by omega
         subst hqb
         exact ⟨k + 1, vN, NB, E1, ws, rfl, by omega, by omega, by rw [chTo_succ hk2]; exact hown2, by rw [chTo_succ hk2]; exact hel2, hs⟩
     ·
      try simp only [Bool.not_eq_true', Bool.not_eq_false', decide_eq_true_eq, decide_eq_false_iff_not, Int.not_lt, Int.not_le] at h35
      refine w_exit ?_
      refine q_then_exit ?_
      refine q_then_exit ?_
      refine q_blk_this ?_
      refine q_then (hK24 _ _ ?_)
      refine w_region ?_
      refine w_pure want_none (y_move (v := vN) rfl rfl) rfl ?_
      refine w_pure want_none (y_assign (v := vN) rfl rfl) rfl ?_
      refine w_nil ?_
      refine q_blk_normal ?_
      refine q_then (hK20 _ _ ?_)
      refine w_region ?_
      refine w_pure want_none (y_move (v := .int _ _) rfl rfl) rfl ?_
      refine w_pure want_none (y_add rfl rfl rfl rfl (by omega) (by omega)) rfl ?_
      refine w_pure want_none (y_assign (v := .int _ _) rfl rfl) rfl ?_
      refine w_nil ?_
      refine q_then (hN12 _ _ (Nx.intro (many - (i + 1)) (by omega) (by repeat (first | exact agree_mix | refine agree_upd rfl ?_ | refine agree_updL rfl ?_ _ | refine agree_mixin rfl ?_)) ?_))
      rw [chTo_all (by omega)] at hown1 hel1
      exact ⟨i + 1, vN, NB, E1, ws, rfl, by omega, rfl, hown1, hel1, (hs.perm (el_drop2 NB E1 OB E F)).drop⟩
   ·
    try simp only [Bool.not_eq_true', Bool.not_eq_false', decide_eq_true_eq, decide_eq_false_iff_not, Int.not_lt, Int.not_le] at h19
    refine w_exit ?_
    refine q_then_exit ?_
    refine q_then_exit ?_
    refine q_blk_this ?_
    refine q_then (hK8 _ _ ?_)
    refine w_seq (fun K85 hK84 => ?_)
    refine w_region ?_
    refine w_pure want_none (y_move (v := vO) rfl rfl) rfl ?_
    refine w_pure want_none (y_assign (v := vO) rfl rfl) rfl ?_
    refine w_nil ?_
    refine q_then (hK84 _ _ ?_)
    refine w_ret ?_
    refine q_ret (l := [.tmp 4]) (vs := [_]) rfl ⟨⟨rfl, show _ = (vO : Value) from rfl⟩, trivial⟩ ?_
    have hin : i = many := by omega
    subst hin
    obtain ⟨aO, cO, rfl, hslO⟩ := own_sl_id (w0 := w0) hown0 hel.1 E
    exact ⟨OB ++ E, vs, aO, cO, rfl, hslO, hel.app, by rw [List.append_assoc]; exact hs⟩

end Go.Proofs
/- Plain words of the shop layer's reference: what some shops lack, the worst of all sets. No conditions. -/
set_option linter.unusedSimpArgs false
set_option linter.unusedVariables false
namespace Go.Rt
theorem setsTo_len {shops : List Int} (h : shops.length ≤ 11) : ∀ k, k ≤ 12 → (setsTo shops k).length ≤ k * 285311670611
  | 0, _ => by simp [setsTo]
  | k + 1, hk => by
    have ih := setsTo_len h k (by omega)
    have h1 := choices_max (below := shops.length) (i := k) h (by omega)
    simp only [setsTo, setsMany, List.length_append, List.length_map]
    omega
theorem setsL_max {shops : List Int} (h : shops.length ≤ 11) : (setsL shops).length ≤ 3423740047332 := by
  have := setsTo_len h (shops.length + 1) (by omega)
  unfold setsL
  have h2 : (shops.length + 1) * 285311670611 ≤ 12 * 285311670611 := Nat.mul_le_mul (by omega) (by omega)
  omega
theorem pickL_len (shops x : List Int) : (pickL shops x).length = x.length := by simp [pickL]
theorem pickL_step {shops x : List Int} {j : Nat} (hj : j < x.length) (h : x[j].toNat < shops.length) : (pickL shops x).take (j + 1) = (pickL shops x).take j ++ [shops[x[j].toNat]] := by
  rw [List.take_succ_eq_append_getElem (by rw [pickL_len]; exact hj)]
  congr 2
  simp [pickL, List.getD, h]
theorem sets_step {shops : List Int} {k q : Nat} (h : q < (choices shops.length k).length) : setsTo shops k ++ ((choices shops.length k).take (q + 1)).map (pickL shops) = (setsTo shops k ++ ((choices shops.length k).take q).map (pickL shops)) ++ [pickL shops (choices shops.length k)[q]] := by
  rw [List.take_succ_eq_append_getElem h, List.map_append, List.append_assoc]; rfl
theorem setsTo_in {shops : List Int} : ∀ k, ∀ s ∈ setsTo shops k, s.length < k ∧ ∀ z ∈ s, z ∈ shops
  | 0, s, h => by simp [setsTo] at h
  | k + 1, s, h => by
    simp only [setsTo, List.mem_append] at h
    rcases h with h | h
    · have := setsTo_in k s h; exact ⟨by omega, this.2⟩
    · unfold setsMany at h
      obtain ⟨x, hx, rfl⟩ := List.mem_map.1 h
      have hc := choices_len k x hx
      refine ⟨by rw [pickL_len]; omega, fun z hz => ?_⟩
      unfold pickL at hz
      obtain ⟨y, hy, rfl⟩ := List.mem_map.1 hz
      have := hc.2 y hy
      have hl : y.toNat < shops.length := by omega
      simp only [List.getD, List.getElem?_eq_getElem hl, Option.getD_some]
      exact List.getElem_mem hl
theorem setsL_in {shops s : List Int} (h : s ∈ setsL shops) : s.length ≤ shops.length ∧ ∀ z ∈ s, z ∈ shops := by
  have := setsTo_in _ s h; exact ⟨by omega, this.2⟩
theorem setsL_pos (shops : List Int) : 1 ≤ (setsL shops).length := by
  have h : ∀ k, 1 ≤ (setsTo shops (k + 1)).length := by
    intro k
    induction k with
    | zero => simp [setsTo, setsMany, choices]
    | succ k ih => rw [setsTo, List.length_append]; omega
  exact h _
namespace Sh
/-! ### What some shops lack -/
def wantR (wants set : List Int) : Nat → Int
  | 0 => 0
  | i + 1 => wantR wants set i + wants.getD (set.getD i 0).toNat 0
def capRf (m : Market) (set : List Int) (fro r : Nat) : Nat → Int
  | 0 => 0
  | i + 1 => match m.trains[i]? with
    | some t => if fro ≤ i ∧ t.room = r ∧ hasI set t.shop = true ∧ leaves m t = true then capRf m set fro r i + t.cap else capRf m set fro r i
    | none => capRf m set fro r i
def handR (m : Market) (hands set : List Int) (fro : Nat) : Nat → Int
  | 0 => 0
  | r + 1 => handR m hands set fro r + min (hands.getD r 0) (capRf m set fro r m.trains.length)
def lackR (m : Market) (hands wants set : List Int) (fro : Nat) : Int := wantR wants set set.length - handR m hands set fro m.rooms.length
def worstR (m : Market) (hands wants shops : List Int) (fro : Nat) : List Int × Int := topTo (fun s => lackR m hands wants s fro) (setsL shops) (setsL shops).length
theorem wantR_step {wants set : List Int} {i : Nat} (hi : i < set.length) (h : set[i].toNat < wants.length) : wantR wants set (i + 1) = wantR wants set i + wants[set[i].toNat] := by
  simp [wantR, List.getD, hi, h]
theorem capRf_zero (m : Market) (set : List Int) (fro r : Nat) : ∀ i, i ≤ fro → capRf m set fro r i = 0
  | 0, _ => rfl
  | i + 1, h => by
    have ih := capRf_zero m set fro r i (by omega)
    unfold capRf
    cases m.trains[i]? with
    | none => exact ih
    | some t => dsimp only; rw [if_neg (by omega)]; exact ih
theorem capRf_yes {m : Market} {set : List Int} {fro r i : Nat} (hi : i < m.trains.length) (h : fro ≤ i ∧ m.trains[i].room = r ∧ hasI set m.trains[i].shop = true ∧ leaves m m.trains[i] = true) : capRf m set fro r (i + 1) = capRf m set fro r i + m.trains[i].cap := by
  simp only [capRf, List.getElem?_eq_getElem hi]; rw [if_pos h]
theorem capRf_no {m : Market} {set : List Int} {fro r i : Nat} (hi : i < m.trains.length) (h : ¬ (fro ≤ i ∧ m.trains[i].room = r ∧ hasI set m.trains[i].shop = true ∧ leaves m m.trains[i] = true)) : capRf m set fro r (i + 1) = capRf m set fro r i := by
  simp only [capRf, List.getElem?_eq_getElem hi]; rw [if_neg h]
theorem capRf_bound {m : Market} (hok : m.Ok) (set : List Int) (fro r : Nat) : ∀ i, i ≤ m.trains.length → 0 ≤ capRf m set fro r i ∧ capRf m set fro r i ≤ 60 * (i : Int)
  | 0, _ => by simp [capRf]
  | i + 1, hi => by
    have ih := capRf_bound hok set fro r i (by omega)
    have ht := hok.train _ (List.getElem_mem (show i < m.trains.length by omega))
    by_cases h : fro ≤ i ∧ (m.trains[i]'(by omega)).room = r ∧ hasI set (m.trains[i]'(by omega)).shop = true ∧ leaves m (m.trains[i]'(by omega)) = true
    · rw [capRf_yes (by omega) h]; omega
    · rw [capRf_no (by omega) h]; omega
theorem wantR_bound {wants : List Int} (hw : ∀ z ∈ wants, -10000 ≤ z ∧ z ≤ 10000) (set : List Int) : ∀ i : Nat, -(10000 * (i : Int)) ≤ wantR wants set i ∧ wantR wants set i ≤ 10000 * (i : Int)
  | 0 => by simp [wantR]
  | i + 1 => by
    have ih := wantR_bound hw set i
    have h1 := getD_in (by omega) (by omega) hw (set.getD i 0).toNat
    unfold wantR
    omega
theorem handR_bound {m : Market} (hok : m.Ok) {hands : List Int} (hh : ∀ z ∈ hands, -10000 ≤ z ∧ z ≤ 10000) (set : List Int) (fro : Nat) : ∀ i : Nat, -(10000 * (i : Int)) ≤ handR m hands set fro i ∧ handR m hands set fro i ≤ 10000 * (i : Int)
  | 0 => by simp [handR]
  | i + 1 => by
    have ih := handR_bound hok hh set fro i
    have h1 := getD_in (by omega) (by omega) hh i
    have h2 := capRf_bound hok set fro i m.trains.length (Nat.le_refl _)
    have := hok.lt
    unfold handR
    omega
theorem handR_step {m : Market} {hands set : List Int} {fro r : Nat} (h : r < hands.length) : handR m hands set fro (r + 1) = handR m hands set fro r + min hands[r] (capRf m set fro r m.trains.length) := by
  simp [handR, List.getD, h]
theorem lackR_bound {m : Market} (hok : m.Ok) {hands wants set : List Int} (hh : ∀ z ∈ hands, -10000 ≤ z ∧ z ≤ 10000) (hw : ∀ z ∈ wants, -10000 ≤ z ∧ z ≤ 10000) (hs : set.length ≤ 4) (fro : Nat) : -100000 ≤ lackR m hands wants set fro ∧ lackR m hands wants set fro ≤ 100000 := by
  have h1 := wantR_bound hw set set.length
  have h2 := handR_bound hok hh set fro m.rooms.length
  have := hok.lr
  unfold lackR
  omega
theorem topTo_bound {f : List Int → Int} {all : List (List Int)} (h : ∀ s ∈ all, f s ≤ 100000) : ∀ k, 0 ≤ (topTo f all k).2 ∧ (topTo f all k).2 ≤ 100000
  | 0 => by simp [topTo]
  | k + 1 => by
    have ih := topTo_bound h k
    simp only [topTo]
    split
    · simp
    · cases e : all[k]? with
      | none => exact ih
      | some l =>
        dsimp only [topStep]
        split
        · exact ⟨by have := ih.1; show 0 ≤ f l; omega, h l (List.mem_of_getElem? e)⟩
        · exact ih
end Sh
end Go.Rt
/- Walks of this seat, printed by gen.py over the engine: what each function returns, in whatever world. No conditions but those of each contract. -/
set_option linter.unusedVariables false
set_option linter.unusedSimpArgs false
set_option maxRecDepth 20000
namespace Go.Proofs
open Go.Rt Go.Rt.Sh
attribute [local irreducible] WL WC Con Yd At Ats Sl Agree DW
theorem Try_W_fb5 (x0 : Int) (w : World) : (Instr.buildSlice 30 1 [(0, .int .i64 x0)].toArray).run Try.prog w = .ok (.slice (some ⟨w.heap.size, 0, none⟩) 1 1) (w.alloc (Go.Rt.blk 3 [.int .i64 x0])) := by kernel_rfl
theorem Try_W_fb6 (x0 : Option Addr) (l0 c0 : Nat) (w : World) : (Instr.buildSlice 100 1 [(0, .slice x0 l0 c0)].toArray).run Try.prog w = .ok (.slice (some ⟨w.heap.size, 0, none⟩) 1 1) (w.alloc (Go.Rt.blk 30 [.slice x0 l0 c0])) := by kernel_rfl
theorem rot_in {w0 w : World} {C O E F : List (Nat × Obj)} (h : St w0 w (C ++ (O ++ (E ++ F)))) : St w0 w (O ++ (E ++ (C ++ F))) := by
  have h1 := perm_mid C (O ++ E) F
  have h2 := (show St w0 w (C ++ ((O ++ E) ++ F)) by simpa only [List.append_assoc] using h).perm h1
  simpa only [List.append_assoc] using h2
theorem rot_out {w0 w : World} {C O E F : List (Nat × Obj)} (h : St w0 w (O ++ (E ++ (C ++ F)))) : St w0 w (O ++ (E ++ F)) := by
  have h1 := perm_mid (O ++ E) C F
  have h2 := (show St w0 w ((O ++ E) ++ (C ++ F)) by simpa only [List.append_assoc] using h).perm h1
  have h3 := h2.drop
  simpa only [List.append_assoc] using h3
theorem c74 {w0 w : World} {F : List (Nat × Obj)} (al : Option Addr) (cl : Nat) (l : List Int) (hll : l.length ≤ 11) (hl : Sl w0 F al 1 (l.map fun x => [Value.int .i64 x])) (hs : St w0 w F) : Con Try.prog 74 [.slice al l.length cl] w fun v w' => ∃ (B : List (Nat × Obj)) (vs : List Value) (a : Option Addr) (c : Nat), v = .slice a (setsL l).length c ∧ Sl w0 B a 1 (vs.map fun v => [v]) ∧ EL w0 B vs (setsL l) ∧ St w0 w' (B ++ F) := by
  refine con_of_wc (n := 48) Try.func74 rfl rfl (Nat.le_of_ble_eq_true rfl) ?_
  refine w_seq (fun K2 hK1 => ?_)
  refine w_region ?_
  refine w_pure want_none (y_assign (v := _) rfl rfl) rfl ?_
  refine w_nil ?_
  refine q_then (hK1 _ _ ?_)
  refine w_seq (fun K4 hK3 => ?_)
  refine w_region ?_
  refine w_pure want_none (y_assign (v := _) rfl rfl) rfl ?_
  refine w_nil ?_
  refine q_then (hK3 _ _ ?_)
  refine w_seq (fun K6 hK5 => ?_)
  refine w_seq (fun K8 hK7 => ?_)
  refine w_region ?_
  refine w_pure want_none (y_assign (v := _) rfl rfl) rfl ?_
  refine w_nil ?_
  refine q_then (hK7 _ _ ?_)
  refine w_block ?_
  refine w_loop [3, 4, 5, 6, 7, 8, 9, 10, 11, 12, 13, 14, 15, 16, 17, 18, 19, 20, 21, 22, 23, 24, 25, 26, 27, 28, 29, 30, 31, 32, 33, 34, 35, 36, 37, 38, 39, 40, 41, 42, 43, 44, 45, 46] [3, 4] (fun kk vs0 w => ∃ (k : Nat) (vO : Value) (OB E : List (Nat × Obj)) (vs : List Value), vs0 = [vO, .int .i64 k] ∧ k ≤ l.length + 1 ∧ kk = l.length + 1 - k ∧ Rt.Own vO 30 1 (setsTo l k).length vs OB ∧ EL w0 E vs (setsTo l k) ∧ St w0 w (OB ++ (E ++ F))) (l.length + 1) ?_ ?_
  ·
   exact ⟨0, _, [], [], [], rfl, by omega, by omega, own_nil 30 1, EL.nil _ _, hs⟩
  ·
   intro k vs μ w11 hI K10 hN9
   obtain ⟨k, vO, OB, E, vs, rfl, hka, rfl, hown0, hel, hs⟩ := hI
   refine w_seq (fun K13 hK12 => ?_)
   refine w_seq (fun K15 hK14 => ?_)
   refine w_region ?_
   refine w_pure want_none (y_move (v := .int _ _) rfl rfl) rfl ?_
   refine w_pure want_none (y_move (v := .slice _ _ _) rfl rfl) rfl ?_
   refine w_pure want_none (y_lenS Try.underlying30 rfl rfl) rfl ?_
   refine w_pure want_none (y_leq rfl rfl rfl rfl) rfl ?_
   refine w_nil ?_
   refine q_then (hK14 _ _ ?_)
   refine w_cond rfl rfl (fun h16 => ?_) (fun h16 => ?_)
   ·
    try simp only [Bool.not_eq_true', Bool.not_eq_false', decide_eq_true_eq, decide_eq_false_iff_not, Int.not_lt, Int.not_le] at h16
    refine w_skip ?_
    refine q_then (hK12 _ _ ?_)
    refine w_seq (fun K18 hK17 => ?_)
    refine w_block ?_
    refine w_seq (fun K20 hK19 => ?_)
    have hk11 : k ≤ 11 := by omega
    have hcm := choices_max (below := l.length) (i := k) hll (by omega)
    have hcl := choices_len (below := l.length) k
    refine w_region ?_
    refine w_pure want_none (y_move (v := .slice _ _ _) rfl rfl) rfl ?_
    refine w_pure want_none (y_lenS Try.underlying30 rfl rfl) rfl ?_
    refine w_pure want_none (y_move (v := .int _ _) rfl rfl) rfl ?_
    refine w_call want_none Try.call93 rfl rfl rfl rfl (c93 l.length k (by omega) (by omega) hs) ?_
    rintro _ w22 ⟨CB, vc, ac, cc, rfl, hslC, helC, hs23⟩
    replace hs23 := (show St _ _ (CB ++ (OB ++ (E ++ (F)))) from hs23)
    refine w_pure want_none (y_assign (v := .slice _ _ _) rfl rfl) rfl ?_
    refine w_nil ?_
    refine q_then (hK19 _ _ ?_)
    refine w_seq (fun K25 hK24 => ?_)
    refine w_region ?_
    refine w_pure want_none (y_assign (v := _) rfl rfl) rfl ?_
    refine w_nil ?_
    refine q_then (hK24 _ _ ?_)
    refine w_block ?_
    refine w_loop [3, 6, 7, 8, 19, 20, 21, 22, 23, 24, 25, 26, 27, 28, 29, 30, 31, 32, 33, 34, 35, 36, 37, 38, 39, 40, 41, 42, 43, 44, 45, 46] [3, 6] (fun kk vs0 w => ∃ (q : Nat) (vO2 : Value) (OB E : List (Nat × Obj)) (vs : List Value), vs0 = [vO2, .int .i64 q] ∧ q ≤ (choices l.length k).length ∧ kk = (choices l.length k).length - q ∧ Rt.Own vO2 30 1 (setsTo l k ++ ((choices l.length k).take q).map (pickL l)).length vs OB ∧ EL w0 E vs (setsTo l k ++ ((choices l.length k).take q).map (pickL l)) ∧ St w0 w (OB ++ (E ++ (CB ++ F)))) ((choices l.length k).length) ?_ ?_
    ·
     exact ⟨0, vO, OB, E, vs, rfl, by omega, by omega, by simpa using hown0, by simpa using hel, rot_in hs23⟩
    ·
     intro k vs μ w28 hI K27 hN26
     clear hown0 hel hs
     obtain ⟨q, vO2, OB, E, vs, rfl, hqa, rfl, hown2, hel2, hs⟩ := hI
     refine w_seq (fun K30 hK29 => ?_)
     refine w_seq (fun K32 hK31 => ?_)
     refine w_region ?_
     refine w_pure want_none (y_move (v := .int _ _) rfl rfl) rfl ?_
     refine w_pure want_none (y_move (v := .slice _ _ _) rfl rfl) rfl ?_
     refine w_pure want_none (y_lenS Try.underlying100 rfl rfl) rfl ?_
     refine w_pure want_none (y_lss rfl rfl rfl rfl) rfl ?_
     refine w_nil ?_
     refine q_then (hK31 _ _ ?_)
     refine w_cond rfl rfl (fun h33 => ?_) (fun h33 => ?_)
     ·
      try simp only [Bool.not_eq_true', Bool.not_eq_false', decide_eq_true_eq, decide_eq_false_iff_not, Int.not_lt, Int.not_le] at h33
      refine w_skip ?_
      refine q_then (hK29 _ _ ?_)
      refine w_seq (fun K35 hK34 => ?_)
      refine w_block ?_
      refine w_seq (fun K37 hK36 => ?_)
      have hq2 : q < (choices l.length k).length := by omega
      obtain ⟨bx, ox, b2, c2, hac, hx, hsx0, hnx⟩ := el_at hslC.top (helC.top (F := F)) hq2
      subst hac
      have hxl := (hcl _ (List.getElem_mem hq2)).1
      refine w_region ?_
      refine w_pure want_none (y_assign (v := _) rfl rfl) rfl ?_
      refine w_nil ?_
      refine q_then (hK36 _ _ ?_)
      refine w_seq (fun K39 hK38 => ?_)
      refine w_seq (fun K41 hK40 => ?_)
      refine w_region ?_
      refine w_pure want_none (y_assign (v := _) rfl rfl) rfl ?_
      refine w_nil ?_
      refine q_then (hK40 _ _ ?_)
      refine w_block ?_
      refine w_loop [7, 8, 25, 26, 27, 28, 29, 30, 31, 32, 33, 34, 35, 36, 37, 38, 39, 40, 41, 42] [7, 8] (fun kk vs0 w => ∃ (j : Nat) (vN : Value) (NB : List (Nat × Obj)), vs0 = [vN, .int .i64 j] ∧ j ≤ k ∧ kk = k - j ∧ Rt.Own vN 3 1 ((pickL l ((choices l.length k)[q]'hq2)).take j).length (iv ((pickL l ((choices l.length k)[q]'hq2)).take j)) NB ∧ St w0 w (NB ++ (OB ++ (E ++ (CB ++ F))))) (k) ?_ ?_
      ·
       exact ⟨0, _, [], rfl, by omega, by omega, own_nil 3 1, hs⟩
      ·
       intro k vs μ w44 hI K43 hN42
       clear hs
       obtain ⟨j, vN, NB, rfl, hja, rfl, hown3, hs⟩ := hI
       refine w_seq (fun K46 hK45 => ?_)
       refine w_seq (fun K48 hK47 => ?_)
       refine w_region ?_
       refine w_pure want_none (y_move (v := .int _ _) rfl rfl) rfl ?_
       refine w_pure want_none (y_move (v := .int _ _) rfl rfl) rfl ?_
       refine w_pure want_none (y_lss rfl rfl rfl rfl) rfl ?_
       refine w_nil ?_
       refine q_then (hK47 _ _ ?_)
       refine w_cond rfl rfl (fun h49 => ?_) (fun h49 => ?_)
       ·
        try simp only [Bool.not_eq_true', Bool.not_eq_false', decide_eq_true_eq, decide_eq_false_iff_not, Int.not_lt, Int.not_le] at h49
        refine w_skip ?_
        refine q_then (hK45 _ _ ?_)
        refine w_seq (fun K51 hK50 => ?_)
        refine w_block ?_
        have hj2 : j < ((choices l.length k)[q]'hq2).length := by omega
        obtain ⟨by_, oy, hb2, hy⟩ := sl_ints hsx0 hj2
        subst hb2
        have hyb := (hcl _ (List.getElem_mem hq2)).2 _ (List.getElem_mem hj2)
        have hz2 : (((choices l.length k)[q]'hq2)[j]'hj2).toNat < l.length := by omega
        obtain ⟨bz, oz, hbz, hz⟩ := sl_ints hl hz2
        subst hbz
        have htl : (((pickL l ((choices l.length k)[q]'hq2)).take j)).length ≤ 11 := by rw [List.length_take, pickL_len]; omega
        refine w_region ?_
        refine w_pure want_none (y_move (v := vN) rfl rfl) rfl ?_
        refine w_pure want_none (y_move (v := .slice _ _ _) rfl rfl) rfl ?_
        refine w_pure want_none (y_move (v := .slice _ _ _) rfl rfl) rfl ?_
        refine w_pure want_none (y_move (v := .int _ _) rfl rfl) rfl ?_
        refine w_pure want_none (y_indexS Try.underlying100 Try.sizeOf30 rfl rfl rfl rfl (i := _) rfl (by omega)) rfl ?_
        refine w_pure want_none (y_load1 Try.isAgg30 hs.drop.drop.drop rfl rfl hx) rfl ?_
        refine w_pure want_none (y_move (v := .int _ _) rfl rfl) rfl ?_
        refine w_pure want_none (y_indexS Try.underlying30 Try.sizeOf3 rfl rfl rfl rfl (i := _) rfl (by omega)) rfl ?_
        refine w_pure want_none (y_load1 Try.isAgg3 hs.drop.drop.drop rfl rfl hy) rfl ?_
        refine w_pure want_none (y_indexS Try.underlying30 Try.sizeOf3 rfl rfl rfl rfl (i := (((choices l.length k)[q]'hq2)[j]'hj2).toNat) (by omega) (by omega)) rfl ?_
        refine w_pure want_none (y_load1 Try.isAgg3 hs.drop.drop.drop.drop rfl rfl hz) rfl ?_
        refine w_bslice (ps := [(0, _)]) (pv := [(0, .int _ _)]) (cs := [_]) want_none rfl rfl (fun w => Try_W_fb5 _ w) hs (fun b52 w53 hs54 => ?_)
        refine w_append (X := (_ :: [])) (B := NB) (rows := [[_]]) (sz := 1) (bytes := 8) want_none Try.underlying30 Try_info3 rfl rfl rfl rfl rfl rfl rfl rfl rfl hs54 hown3 (sl_own (i := 0) rfl (by simp) rfl) rfl (by simp) (by simp [Value.oneCell']) (by simp only [maxLen]; omega) (by omega) (fun v55 w56 B57 ho58 hs59 => ?_)
        replace hs59 := (show St _ _ (_ :: B57 ++ (OB ++ (E ++ (CB ++ (F))))) from hs59)
        refine w_pure want_none (y_assign (v := v55) rfl rfl) rfl ?_
        refine w_nil ?_
        refine q_blk_normal ?_
        refine q_then (hK50 _ _ ?_)
        refine w_region ?_
        refine w_pure want_none (y_move (v := .int _ _) rfl rfl) rfl ?_
        refine w_pure want_none (y_add rfl rfl rfl rfl (by omega) (by omega)) rfl ?_
        refine w_pure want_none (y_assign (v := .int _ _) rfl rfl) rfl ?_
        refine w_nil ?_
        refine q_then (hN42 _ _ (Nx.intro (k - (j + 1)) (by omega) (by repeat (first | exact agree_mix | refine agree_upd rfl ?_ | refine agree_updL rfl ?_ _ | refine agree_mixin rfl ?_)) ?_))
        exact ⟨j + 1, _, _, rfl, by omega, rfl, by rw [pickL_step hj2 hz2]; exact own_snoc ho58, hs59.tail⟩
       ·
        try simp only [Bool.not_eq_true', Bool.not_eq_false', decide_eq_true_eq, decide_eq_false_iff_not, Int.not_lt, Int.not_le] at h49
        refine w_exit ?_
        refine q_then_exit ?_
        refine q_then_exit ?_
        refine q_blk_this ?_
        refine q_then (hK38 _ _ ?_)
        have hjk : j = k := by omega
        rw [List.take_of_length_le (by rw [pickL_len]; omega)] at hown3
        obtain ⟨a3, c3, rfl, hsl3, hn3, _⟩ := own_ints (w0 := w0) hown3
        have hsl := setsTo_len (shops := l) hll (k + 1) (by omega)
        have hgl : (setsTo l k ++ ((choices l.length k).take q).map (pickL l)).length ≤ 3423740047332 := by
          have h2 : (setsTo l (k + 1)).length = (setsTo l k).length + (choices l.length k).length := by simp [setsTo, setsMany]
          have h3 : (k + 1) * 285311670611 ≤ 12 * 285311670611 := Nat.mul_le_mul (by omega) (by omega)
          simp only [List.length_append, List.length_map, List.length_take]; omega
        refine w_region ?_
        refine w_pure want_none (y_move (v := vO2) rfl rfl) rfl ?_
        refine w_pure want_none (y_move (v := .slice _ _ _) rfl rfl) rfl ?_
        refine w_bslice (ps := [(0, _)]) (pv := [(0, .slice _ _ _)]) (cs := [_]) want_none rfl rfl (fun w => Try_W_fb6 _ _ _ w) hs (fun b60 w61 hs62 => ?_)
        refine w_append (X := (_ :: NB)) (B := OB) (rows := [[_]]) (sz := 1) (bytes := 24) want_none Try.underlying100 Try_info30 rfl rfl rfl rfl rfl rfl rfl rfl rfl hs62 hown2 (sl_own (i := 0) rfl (by simp) rfl) rfl (by simp) (by simp [Value.oneCell']) (by simp only [maxLen]; omega) (by omega) (fun v63 w64 B65 ho66 hs67 => ?_)
        replace hs67 := (show St _ _ (_ :: NB ++ (B65 ++ (E ++ (CB ++ (F))))) from hs67)
        refine w_pure want_none (y_assign (v := v63) rfl rfl) rfl ?_
        refine w_nil ?_
        refine q_blk_normal ?_
        refine q_then (hK34 _ _ ?_)
        refine w_region ?_
        refine w_pure want_none (y_move (v := .int _ _) rfl rfl) rfl ?_
        refine w_pure want_none (y_add rfl rfl rfl rfl (by omega) (by omega)) rfl ?_
        refine w_pure want_none (y_assign (v := .int _ _) rfl rfl) rfl ?_
        refine w_nil ?_
        refine q_then (hN26 _ _ (Nx.intro ((choices l.length k).length - (q + 1)) (by omega) (by repeat (first | exact agree_mix | refine agree_upd rfl ?_ | refine agree_updL rfl ?_ _ | refine agree_mixin rfl ?_)) ?_))
        exact ⟨q + 1, _, _, NB ++ E, _, rfl, by omega, by omega, by rw [sets_step hq2]; exact own_el ho66, by rw [sets_step hq2]; exact el_more hel2 hsl3 hn3, el_perm1 hs67⟩
     ·
      try simp only [Bool.not_eq_true', Bool.not_eq_false', decide_eq_true_eq, decide_eq_false_iff_not, Int.not_lt, Int.not_le] at h33
      refine w_exit ?_
      refine q_then_exit ?_
      refine q_then_exit ?_
      refine q_blk_this ?_
      refine q_blk_normal ?_
      refine q_then (hK17 _ _ ?_)
      refine w_region ?_
      refine w_pure want_none (y_move (v := .int _ _) rfl rfl) rfl ?_
      refine w_pure want_none (y_add rfl rfl rfl rfl (by omega) (by omega)) rfl ?_
      refine w_pure want_none (y_assign (v := .int _ _) rfl rfl) rfl ?_
      refine w_nil ?_
      refine q_then (hN9 _ _ (Nx.intro (l.length + 1 - (k + 1)) (by omega) (by repeat (first | exact agree_mix | refine agree_upd rfl ?_ | refine agree_updL rfl ?_ _ | refine agree_mixin rfl ?_)) ?_))
      have hqq : q = (choices l.length k).length := by omega
      subst hqq
      rw [List.take_of_length_le (Nat.le_refl _)] at hown2 hel2
      exact ⟨k + 1, vO2, OB, E, vs, rfl, by omega, by omega, hown2, hel2, rot_out hs⟩
   ·
    try simp only [Bool.not_eq_true', Bool.not_eq_false', decide_eq_true_eq, decide_eq_false_iff_not, Int.not_lt, Int.not_le] at h16
    refine w_exit ?_
    refine q_then_exit ?_
    refine q_then_exit ?_
    refine q_blk_this ?_
    refine q_then (hK5 _ _ ?_)
    refine w_seq (fun K69 hK68 => ?_)
    refine w_region ?_
    refine w_pure want_none (y_move (v := vO) rfl rfl) rfl ?_
    refine w_pure want_none (y_assign (v := vO) rfl rfl) rfl ?_
    refine w_nil ?_
    refine q_then (hK68 _ _ ?_)
    refine w_ret ?_
    refine q_ret (l := [.tmp 2]) (vs := [_]) rfl ⟨⟨rfl, show _ = (vO : Value) from rfl⟩, trivial⟩ ?_
    have hin : k = l.length + 1 := by omega
    subst hin
    obtain ⟨aO, cO, rfl, hslO⟩ := own_sl_id (w0 := w0) hown0 hel.1 E
    exact ⟨OB ++ E, vs, aO, cO, rfl, hslO, hel.app, by rw [List.append_assoc]; exact hs⟩

theorem c92 {w0 w : World} {F : List (Nat × Obj)} (m : Market) (p : At3) (hm : MIn w0 F m p) (hok : m.Ok) (ah : Option Addr) (ch : Nat) (hands : List Int) (hhl : hands.length = m.rooms.length) (hhs : Sl w0 F ah 1 (hands.map fun x => [Value.int .i64 x])) (hhb : ∀ z ∈ hands, -10000 ≤ z ∧ z ≤ 10000) (aw : Option Addr) (cw : Nat) (wants : List Int) (hwl : wants.length = m.shops.length) (hws : Sl w0 F aw 1 (wants.map fun x => [Value.int .i64 x])) (hwb : ∀ z ∈ wants, -10000 ≤ z ∧ z ≤ 10000) (as2 : Option Addr) (cs2 : Nat) (set : List Int) (hsl : set.length ≤ 4) (hss : Sl w0 F as2 1 (set.map fun x => [Value.int .i64 x])) (hsb : ∀ z ∈ set, 0 ≤ z ∧ z < m.shops.length) (fro : Nat) (hfr : fro ≤ m.trains.length) (hs : St w0 w F) :
  Con Try.prog 92 [.agg (m.cells p).toArray, .slice ah hands.length ch, .slice aw wants.length cw, .slice as2 set.length cs2, .int .i64 (fro : Int)] w fun v w' => v = .int .i64 (lackR m hands wants set fro) ∧ St w0 w' F := by
  refine con_of_wc (n := 80) Try.func92 rfl rfl (Nat.le_of_ble_eq_true rfl) ?_
  obtain ⟨ar, cr, as_, cs, at_, ct⟩ := p
  have hlr := hok.lr
  have hls := hok.ls
  have hlt := hok.lt
  have hwb4 := wantR_bound hwb set set.length
  refine w_seq (fun K2 hK1 => ?_)
  refine w_region ?_
  refine w_box (v := .agg #[.slice _ _ _, .slice _ _ _, .slice _ _ _]) (cs := [_, _, _]) want_none rfl rfl rfl hs (fun b3 w4 hs5 => ?_)
  refine w_pure want_none (y_assign (v := _) rfl rfl) rfl ?_
  refine w_nil ?_
  refine q_then (hK1 _ _ ?_)
  refine w_seq (fun K7 hK6 => ?_)
  refine w_region ?_
  refine w_pure want_none (y_assign (v := _) rfl rfl) rfl ?_
  refine w_nil ?_
  refine q_then (hK6 _ _ ?_)
  refine w_seq (fun K9 hK8 => ?_)
  refine w_seq (fun K11 hK10 => ?_)
  refine w_region ?_
  refine w_pure want_none (y_assign (v := _) rfl rfl) rfl ?_
  refine w_nil ?_
  refine q_then (hK10 _ _ ?_)
  refine w_block ?_
  refine w_loop [11, 12, 17, 18, 19, 20, 21, 22, 23, 24, 25, 26, 27, 28, 29, 30, 31] [11, 12] (fun k vs w => ∃ i : Nat, vs = [.int .i64 (wantR wants set i), .int .i64 i] ∧ i ≤ set.length ∧ k = set.length - i ∧ St w0 w ((b3, blk 26 (m.cells ⟨ar, cr, as_, cs, at_, ct⟩)) :: F)) (set.length) ?_ ?_
  ·
   exact ⟨0, rfl, by omega, by omega, hs5⟩
  ·
   intro k vs μ w14 hI K13 hN12
   obtain ⟨i, rfl, hia, rfl, hs⟩ := hI
   refine w_seq (fun K16 hK15 => ?_)
   refine w_seq (fun K18 hK17 => ?_)
   refine w_region ?_
   refine w_pure want_none (y_move (v := .int _ _) rfl rfl) rfl ?_
   refine w_pure want_none (y_move (v := .slice _ _ _) rfl rfl) rfl ?_
   refine w_pure want_none (y_lenS Try.underlying30 rfl rfl) rfl ?_
   refine w_pure want_none (y_lss rfl rfl rfl rfl) rfl ?_
   refine w_nil ?_
   refine q_then (hK17 _ _ ?_)
   refine w_cond rfl rfl (fun h19 => ?_) (fun h19 => ?_)
   ·
    try simp only [Bool.not_eq_true', Bool.not_eq_false', decide_eq_true_eq, decide_eq_false_iff_not, Int.not_lt, Int.not_le] at h19
    refine w_skip ?_
    refine q_then (hK15 _ _ ?_)
    refine w_seq (fun K21 hK20 => ?_)
    refine w_block ?_
    have hi2 : i < set.length := by omega
    obtain ⟨bx, ox, hbx, hx⟩ := sl_ints hss hi2
    subst hbx
    have hsb2 := hsb _ (List.getElem_mem hi2)
    have hj2 : (set[i]'hi2).toNat < wants.length := by omega
    obtain ⟨by_, oy, hby, hy⟩ := sl_ints hws hj2
    subst hby
    have hwb2 := hwb _ (List.getElem_mem hj2)
    have hwb3 := wantR_bound hwb set i
    refine w_region ?_
    refine w_pure want_none (y_move (v := .int _ _) rfl rfl) rfl ?_
    refine w_pure want_none (y_move (v := .slice _ _ _) rfl rfl) rfl ?_
    refine w_pure want_none (y_move (v := .slice _ _ _) rfl rfl) rfl ?_
    refine w_pure want_none (y_move (v := .int _ _) rfl rfl) rfl ?_
    refine w_pure want_none (y_indexS Try.underlying30 Try.sizeOf3 rfl rfl rfl rfl (i := _) rfl (by omega)) rfl ?_
    refine w_pure want_none (y_load1 Try.isAgg3 hs.tail rfl rfl hx) rfl ?_
    refine w_pure want_none (y_indexS Try.underlying30 Try.sizeOf3 rfl rfl rfl rfl (i := (set[i]'hi2).toNat) (by omega) (by omega)) rfl ?_
    refine w_pure want_none (y_load1 Try.isAgg3 hs.tail rfl rfl hy) rfl ?_
    refine w_pure want_none (y_add rfl rfl rfl rfl (by omega) (by omega)) rfl ?_
    refine w_pure want_none (y_assign (v := .int _ _) rfl rfl) rfl ?_
    refine w_nil ?_
    refine q_blk_normal ?_
    refine q_then (hK20 _ _ ?_)
    refine w_region ?_
    refine w_pure want_none (y_move (v := .int _ _) rfl rfl) rfl ?_
    refine w_pure want_none (y_add rfl rfl rfl rfl (by omega) (by omega)) rfl ?_
    refine w_pure want_none (y_assign (v := .int _ _) rfl rfl) rfl ?_
    refine w_nil ?_
    refine q_then (hN12 _ _ (Nx.intro (set.length - (i + 1)) (by omega) (by repeat (first | exact agree_mix | refine agree_upd rfl ?_ | refine agree_updL rfl ?_ _ | refine agree_mixin rfl ?_)) ?_))
    exact ⟨i + 1, by rw [wantR_step hi2 hj2]; rfl, by omega, rfl, hs⟩
   ·
    try simp only [Bool.not_eq_true', Bool.not_eq_false', decide_eq_true_eq, decide_eq_false_iff_not, Int.not_lt, Int.not_le] at h19
    refine w_exit ?_
    refine q_then_exit ?_
    refine q_then_exit ?_
    refine q_blk_this ?_
    refine q_then (hK8 _ _ ?_)
    refine w_seq (fun K23 hK22 => ?_)
    refine w_seq (fun K25 hK24 => ?_)
    refine w_region ?_
    refine w_pure want_none (y_assign (v := _) rfl rfl) rfl ?_
    refine w_nil ?_
    refine q_then (hK24 _ _ ?_)
    refine w_block ?_
    refine w_loop [11, 13, 14, 15, 16, 32, 33, 34, 35, 36, 37, 38, 39, 40, 41, 42, 43, 44, 45, 46, 47, 48, 49, 50, 51, 52, 53, 54, 55, 56, 57, 58, 59, 60, 61, 62, 63, 64, 65, 66, 67, 68, 69, 70, 71, 72, 73, 74, 75, 76, 77, 78] [11, 13] (fun k vs w => ∃ r : Nat, vs = [.int .i64 (wantR wants set set.length - handR m hands set fro r), .int .i64 r] ∧ r ≤ m.rooms.length ∧ k = m.rooms.length - r ∧ St w0 w ((b3, blk 26 (m.cells ⟨ar, cr, as_, cs, at_, ct⟩)) :: F)) (m.rooms.length) ?_ ?_
    ·
     have hil : i = set.length := by omega
     subst hil
     exact ⟨0, by simp only [handR, Int.sub_zero]; rfl, by omega, by omega, hs⟩
    ·
     intro k vs μ w28 hI K27 hN26
     obtain ⟨r, rfl, hra, rfl, hs⟩ := hI
     refine w_seq (fun K30 hK29 => ?_)
     refine w_seq (fun K32 hK31 => ?_)
     refine w_region ?_
     refine w_pure want_none (y_move (v := .int _ _) rfl rfl) rfl ?_
     refine w_pure want_none (y_fieldAddr (o := 0) (i := 0) Try.underlying26 rfl Try.sizeOf22 rfl rfl rfl) rfl ?_
     refine w_pure want_none (y_load1 Try.isAgg22 hs rfl rfl (ats_own (i := 0) (vs := [_]) rfl rfl)) rfl ?_
     refine w_pure want_none (y_lenS Try.underlying22 rfl rfl) rfl ?_
     refine w_pure want_none (y_lss rfl rfl rfl rfl) rfl ?_
     refine w_nil ?_
     refine q_then (hK31 _ _ ?_)
     refine w_cond rfl rfl (fun h33 => ?_) (fun h33 => ?_)
     ·
      try simp only [Bool.not_eq_true', Bool.not_eq_false', decide_eq_true_eq, decide_eq_false_iff_not, Int.not_lt, Int.not_le] at h33
      refine w_skip ?_
      refine q_then (hK29 _ _ ?_)
      refine w_seq (fun K35 hK34 => ?_)
      refine w_block ?_
      refine w_seq (fun K37 hK36 => ?_)
      have hr2 : r < hands.length := by omega
      obtain ⟨bh, oh, hbh, hh⟩ := sl_ints hhs hr2
      subst hbh
      have hhb2 := hhb _ (List.getElem_mem hr2)
      have hhb3 := handR_bound hok hhb set fro r
      refine w_region ?_
      refine w_pure want_none (y_assign (v := _) rfl rfl) rfl ?_
      refine w_nil ?_
      refine q_then (hK36 _ _ ?_)
      refine w_seq (fun K39 hK38 => ?_)
      refine w_seq (fun K41 hK40 => ?_)
      refine w_region ?_
      refine w_pure want_none (y_move (v := .int _ _) rfl rfl) rfl ?_
      refine w_pure want_none (y_assign (v := .int _ _) rfl rfl) rfl ?_
      refine w_nil ?_
      refine q_then (hK40 _ _ ?_)
      refine w_block ?_
      refine w_loop [14, 15, 16, 40, 41, 42, 43, 44, 45, 46, 47, 48, 49, 50, 51, 52, 53, 54, 55, 56, 57, 58, 59, 60, 61, 62, 63, 64, 65, 66, 67, 68, 69, 70] [14, 15] (fun k vs w => ∃ q : Nat, vs = [.int .i64 (capRf m set fro r q), .int .i64 q] ∧ fro ≤ q ∧ q ≤ m.trains.length ∧ k = m.trains.length - q ∧ St w0 w ((b3, blk 26 (m.cells ⟨ar, cr, as_, cs, at_, ct⟩)) :: F)) (m.trains.length - fro) ?_ ?_
      ·
       exact ⟨fro, by rw [capRf_zero _ _ _ _ _ (Nat.le_refl _)]; rfl, by omega, by omega, rfl, hs⟩
      ·
       intro k vs μ w44 hI K43 hN42
       obtain ⟨q, rfl, hqf, hqa, rfl, hs⟩ := hI
       refine w_seq (fun K46 hK45 => ?_)
       refine w_seq (fun K48 hK47 => ?_)
       refine w_region ?_
       refine w_pure want_none (y_move (v := .int _ _) rfl rfl) rfl ?_
       refine w_pure want_none (y_fieldAddr (o := 2) (i := 2) Try.underlying26 rfl Try.sizeOf24 rfl rfl rfl) rfl ?_
       refine w_pure want_none (y_load1 Try.isAgg24 hs rfl rfl (ats_own (i := 0) (vs := [_]) rfl rfl)) rfl ?_
       refine w_pure want_none (y_lenS Try.underlying24 rfl rfl) rfl ?_
       refine w_pure want_none (y_lss rfl rfl rfl rfl) rfl ?_
       refine w_nil ?_
       refine q_then (hK47 _ _ ?_)
       refine w_cond rfl rfl (fun h49 => ?_) (fun h49 => ?_)
       ·
        try simp only [Bool.not_eq_true', Bool.not_eq_false', decide_eq_true_eq, decide_eq_false_iff_not, Int.not_lt, Int.not_le] at h49
        refine w_skip ?_
        refine q_then (hK45 _ _ ?_)
        refine w_seq (fun K51 hK50 => ?_)
        refine w_block ?_
        refine w_seq (fun K53 hK52 => ?_)
        have hi2 : q < m.trains.length := by omega
        obtain ⟨bt, ot, hbt, ht⟩ := sl_trows hm.t hi2
        subst hbt
        have htt := hok.train _ (List.getElem_mem hi2)
        have hcb := capRf_bound hok set fro r q (by omega)
        refine w_region ?_
        refine w_pure want_none (y_fieldAddr (o := 2) (i := 2) Try.underlying26 rfl Try.sizeOf24 rfl rfl rfl) rfl ?_
        refine w_pure want_none (y_load1 Try.isAgg24 hs rfl rfl (ats_own (i := 0) (vs := [_]) rfl rfl)) rfl ?_
        refine w_pure want_none (y_move (v := .int _ _) rfl rfl) rfl ?_
        refine w_pure want_none (y_indexS Try.underlying24 Try.sizeOf63 rfl rfl rfl rfl (i := _) rfl (by omega)) rfl ?_
        refine w_pure want_none (y_loadN (vs := [_, _, _, _]) Try.isAgg63 Try.sizeOf63 hs.tail rfl rfl ht) rfl ?_
        refine w_alloc (cs := [_, _, _, _]) want_none Try.zeroValue63 rfl hs (fun b54 w55 hs56 => ?_)
        refine w_store (i := 0) (v := .agg #[.int _ _, .int _ _, .int _ _, .int _ _]) (vs := [_, _, _, _]) want_none Try.sizeOf63 rfl rfl rfl rfl rfl (by simp [Value.oneCell']) hs56 rfl (Nat.le_of_ble_eq_true rfl) (fun w57 hs58 => ?_)
        refine w_nil ?_
        refine q_then (hK52 _ _ ?_)
        refine w_seq (fun K60 hK59 => ?_)
        refine w_region ?_
        refine w_pure want_none (y_fieldAddr (o := 0) (i := 0) Try.underlying63 rfl Try.sizeOf3 rfl rfl rfl) rfl ?_
        refine w_pure want_none (y_load1 Try.isAgg3 hs58 rfl rfl (ats_own (i := 0) (vs := [_]) rfl rfl)) rfl ?_
        refine w_pure want_none (y_move (v := .int _ _) rfl rfl) rfl ?_
        refine w_pure want_none (y_eql rfl rfl rfl rfl) rfl ?_
        refine w_pure want_none (y_move (v := .bool _) rfl rfl) rfl ?_
        refine w_split (fun h61 => ?_) (fun h61 => ?_)
        ·
         try simp only [Bool.not_eq_true', Bool.not_eq_false', decide_eq_true_eq, decide_eq_false_iff_not, Int.not_lt, Int.not_le] at h61
         refine w_pure (want_yes rfl rfl rfl) (y_move (v := .slice _ _ _) rfl rfl) rfl ?_
         refine w_pure (want_yes rfl rfl rfl) (y_fieldAddr (o := 1) (i := 1) Try.underlying63 rfl Try.sizeOf3 rfl rfl rfl) rfl ?_
         refine w_pure (want_yes rfl rfl rfl) (y_load1 Try.isAgg3 hs58 rfl rfl (ats_own (i := 0) (vs := [_]) rfl rfl)) rfl ?_
         refine w_call (want_yes rfl rfl rfl) Try.call41 rfl rfl rfl rfl (c41 _ _ set (by omega) hss.cons.cons _ hs58) ?_
         rintro _ w63 ⟨rfl, hs64⟩
         refine w_pure want_none (y_pickT (v := .bool _) rfl rfl rfl rfl) rfl ?_
         refine w_pure want_none (y_move (v := .bool _) rfl rfl) rfl ?_
         refine w_split (fun h65 => ?_) (fun h65 => ?_)
         ·
          try simp only [Bool.not_eq_true', Bool.not_eq_false', decide_eq_true_eq, decide_eq_false_iff_not, Int.not_lt, Int.not_le] at h65
          refine w_pure (want_yes rfl rfl rfl) (y_loadN (vs := [_, _, _]) Try.isAgg26 Try.sizeOf26 hs64 rfl rfl (ats_own (i := 1) (vs := [_, _, _]) rfl rfl)) rfl ?_
          refine w_pure (want_yes rfl rfl rfl) (y_loadN (vs := [_, _, _, _]) Try.isAgg63 Try.sizeOf63 hs64 rfl rfl (ats_own (i := 0) (vs := [_, _, _, _]) rfl rfl)) rfl ?_
          refine w_call (want_yes rfl rfl rfl) Try.call53 rfl rfl rfl rfl (c53 m _ hm.cons.cons hok _ (List.getElem_mem hi2) hs64) ?_
          rintro _ w67 ⟨rfl, hs68⟩
          refine w_pure want_none (y_pickT (v := .bool _) rfl rfl rfl rfl) rfl ?_
          refine w_nil ?_
          refine q_then (hK59 _ _ ?_)
          refine w_cond rfl rfl (fun h69 => ?_) (fun h69 => ?_)
          ·
           try simp only [Bool.not_eq_true', Bool.not_eq_false', decide_eq_true_eq, decide_eq_false_iff_not, Int.not_lt, Int.not_le] at h69
           refine w_region ?_
           refine w_pure want_none (y_move (v := .int _ _) rfl rfl) rfl ?_
           refine w_pure want_none (y_fieldAddr (o := 3) (i := 3) Try.underlying63 rfl Try.sizeOf3 rfl rfl rfl) rfl ?_
           refine w_pure want_none (y_load1 Try.isAgg3 hs68 rfl rfl (ats_own (i := 0) (vs := [_]) rfl rfl)) rfl ?_
           refine w_pure want_none (y_add rfl rfl rfl rfl (by omega) (by omega)) rfl ?_
           refine w_pure want_none (y_assign (v := .int _ _) rfl rfl) rfl ?_
           refine w_nil ?_
           refine q_blk_normal ?_
           refine q_then (hK50 _ _ ?_)
           refine w_region ?_
           refine w_pure want_none (y_move (v := .int _ _) rfl rfl) rfl ?_
           refine w_pure want_none (y_add rfl rfl rfl rfl (by omega) (by omega)) rfl ?_
           refine w_pure want_none (y_assign (v := .int _ _) rfl rfl) rfl ?_
           refine w_nil ?_
           refine q_then (hN42 _ _ (Nx.intro (m.trains.length - (q + 1)) (by omega) (by repeat (first | exact agree_mix | refine agree_upd rfl ?_ | refine agree_updL rfl ?_ _ | refine agree_mixin rfl ?_)) ?_))
           first
             | exact ⟨q + 1, by rw [capRf_yes hi2 ⟨hqf, by omega, by assumption, by assumption⟩]; rfl, by omega, by omega, rfl, hs68.tail⟩
             | exact ⟨q + 1, by rw [capRf_no hi2 (fun h => by first | exact absurd h.1 (by omega) | exact absurd h.2.1 (by omega) | (have h8 := h.2.2.1; have h9 := h.2.2.2; simp_all))]; rfl, by omega, by omega, rfl, hs68.tail⟩
          ·
           try simp only [Bool.not_eq_true', Bool.not_eq_false', decide_eq_true_eq, decide_eq_false_iff_not, Int.not_lt, Int.not_le] at h69
           refine w_skip ?_
           refine q_blk_normal ?_
           refine q_then (hK50 _ _ ?_)
           refine w_region ?_
           refine w_pure want_none (y_move (v := .int _ _) rfl rfl) rfl ?_
           refine w_pure want_none (y_add rfl rfl rfl rfl (by omega) (by omega)) rfl ?_
           refine w_pure want_none (y_assign (v := .int _ _) rfl rfl) rfl ?_
           refine w_nil ?_
           refine q_then (hN42 _ _ (Nx.intro (m.trains.length - (q + 1)) (by omega) (by repeat (first | exact agree_mix | refine agree_upd rfl ?_ | refine agree_updL rfl ?_ _ | refine agree_mixin rfl ?_)) ?_))
           first
             | exact ⟨q + 1, by rw [capRf_yes hi2 ⟨hqf, by omega, by assumption, by assumption⟩]; rfl, by omega, by omega, rfl, hs68.tail⟩
             | exact ⟨q + 1, by rw [capRf_no hi2 (fun h => by first | exact absurd h.1 (by omega) | exact absurd h.2.1 (by omega) | (have h8 := h.2.2.1; have h9 := h.2.2.2; simp_all))]; rfl, by omega, by omega, rfl, hs68.tail⟩
         ·
          try simp only [Bool.not_eq_true', Bool.not_eq_false', decide_eq_true_eq, decide_eq_false_iff_not, Int.not_lt, Int.not_le] at h65
          refine w_skipop rfl rfl rfl ?_
          refine w_skipop rfl rfl rfl ?_
          refine w_skipop rfl rfl rfl ?_
          refine w_pure want_none (y_pickF (v := _) rfl rfl rfl rfl) rfl ?_
          refine w_nil ?_
          refine q_then (hK59 _ _ ?_)
          refine w_condF rfl rfl ?_
          refine w_skip ?_
          refine q_blk_normal ?_
          refine q_then (hK50 _ _ ?_)
          refine w_region ?_
          refine w_pure want_none (y_move (v := .int _ _) rfl rfl) rfl ?_
          refine w_pure want_none (y_add rfl rfl rfl rfl (by omega) (by omega)) rfl ?_
          refine w_pure want_none (y_assign (v := .int _ _) rfl rfl) rfl ?_
          refine w_nil ?_
          refine q_then (hN42 _ _ (Nx.intro (m.trains.length - (q + 1)) (by omega) (by repeat (first | exact agree_mix | refine agree_upd rfl ?_ | refine agree_updL rfl ?_ _ | refine agree_mixin rfl ?_)) ?_))
          first
            | exact ⟨q + 1, by rw [capRf_yes hi2 ⟨hqf, by omega, by assumption, by assumption⟩]; rfl, by omega, by omega, rfl, hs64.tail⟩
            | exact ⟨q + 1, by rw [capRf_no hi2 (fun h => by first | exact absurd h.1 (by omega) | exact absurd h.2.1 (by omega) | (have h8 := h.2.2.1; have h9 := h.2.2.2; simp_all))]; rfl, by omega, by omega, rfl, hs64.tail⟩
        ·
         try simp only [Bool.not_eq_true', Bool.not_eq_false', decide_eq_true_eq, decide_eq_false_iff_not, Int.not_lt, Int.not_le] at h61
         refine w_skipop rfl rfl rfl ?_
         refine w_skipop rfl rfl rfl ?_
         refine w_skipop rfl rfl rfl ?_
         refine w_skipop rfl rfl rfl ?_
         refine w_pure want_none (y_pickF (v := _) rfl rfl rfl rfl) rfl ?_
         refine w_pure want_none (y_move (v := .bool _) rfl rfl) rfl ?_
         refine w_skipop rfl rfl rfl ?_
         refine w_skipop rfl rfl rfl ?_
         refine w_skipop rfl rfl rfl ?_
         refine w_pure want_none (y_pickF (v := _) rfl rfl rfl rfl) rfl ?_
         refine w_nil ?_
         refine q_then (hK59 _ _ ?_)
         refine w_condF rfl rfl ?_
         refine w_skip ?_
         refine q_blk_normal ?_
         refine q_then (hK50 _ _ ?_)
         refine w_region ?_
         refine w_pure want_none (y_move (v := .int _ _) rfl rfl) rfl ?_
         refine w_pure want_none (y_add rfl rfl rfl rfl (by omega) (by omega)) rfl ?_
         refine w_pure want_none (y_assign (v := .int _ _) rfl rfl) rfl ?_
         refine w_nil ?_
         refine q_then (hN42 _ _ (Nx.intro (m.trains.length - (q + 1)) (by omega) (by repeat (first | exact agree_mix | refine agree_upd rfl ?_ | refine agree_updL rfl ?_ _ | refine agree_mixin rfl ?_)) ?_))
         first
           | exact ⟨q + 1, by rw [capRf_yes hi2 ⟨hqf, by omega, by assumption, by assumption⟩]; rfl, by omega, by omega, rfl, hs58.tail⟩
           | exact ⟨q + 1, by rw [capRf_no hi2 (fun h => by first | exact absurd h.1 (by omega) | exact absurd h.2.1 (by omega) | (have h8 := h.2.2.1; have h9 := h.2.2.2; simp_all))]; rfl, by omega, by omega, rfl, hs58.tail⟩
       ·
        try simp only [Bool.not_eq_true', Bool.not_eq_false', decide_eq_true_eq, decide_eq_false_iff_not, Int.not_lt, Int.not_le] at h49
        refine w_exit ?_
        refine q_then_exit ?_
        refine q_then_exit ?_
        refine q_blk_this ?_
        refine q_then (hK38 _ _ ?_)
        have hcb := capRf_bound hok set fro r q (by omega)
        refine w_region ?_
        refine w_pure want_none (y_move (v := .int _ _) rfl rfl) rfl ?_
        refine w_pure want_none (y_move (v := .slice _ _ _) rfl rfl) rfl ?_
        refine w_pure want_none (y_move (v := .int _ _) rfl rfl) rfl ?_
        refine w_pure want_none (y_indexS Try.underlying30 Try.sizeOf3 rfl rfl rfl rfl (i := _) rfl (by omega)) rfl ?_
        refine w_pure want_none (y_load1 Try.isAgg3 hs.tail rfl rfl hh) rfl ?_
        refine w_pure want_none (y_move (v := .int _ _) rfl rfl) rfl ?_
        refine w_pure want_none (y_min2 rfl rfl rfl rfl) rfl ?_
        refine w_pure want_none (y_sub rfl rfl rfl rfl (by omega) (by omega)) rfl ?_
        refine w_pure want_none (y_assign (v := .int _ _) rfl rfl) rfl ?_
        refine w_nil ?_
        refine q_blk_normal ?_
        refine q_then (hK34 _ _ ?_)
        refine w_region ?_
        refine w_pure want_none (y_move (v := .int _ _) rfl rfl) rfl ?_
        refine w_pure want_none (y_add rfl rfl rfl rfl (by omega) (by omega)) rfl ?_
        refine w_pure want_none (y_assign (v := .int _ _) rfl rfl) rfl ?_
        refine w_nil ?_
        refine q_then (hN26 _ _ (Nx.intro (m.rooms.length - (r + 1)) (by omega) (by repeat (first | exact agree_mix | refine agree_upd rfl ?_ | refine agree_updL rfl ?_ _ | refine agree_mixin rfl ?_)) ?_))
        have hqt : q = m.trains.length := by omega
        subst hqt
        exact ⟨r + 1, by rw [handR_step hr2, ← Int.sub_sub]; rfl, by omega, rfl, hs⟩
     ·
      try simp only [Bool.not_eq_true', Bool.not_eq_false', decide_eq_true_eq, decide_eq_false_iff_not, Int.not_lt, Int.not_le] at h33
      refine w_exit ?_
      refine q_then_exit ?_
      refine q_then_exit ?_
      refine q_blk_this ?_
      refine q_then (hK22 _ _ ?_)
      refine w_seq (fun K71 hK70 => ?_)
      refine w_region ?_
      refine w_pure want_none (y_move (v := .int _ _) rfl rfl) rfl ?_
      refine w_pure want_none (y_assign (v := .int _ _) rfl rfl) rfl ?_
      refine w_nil ?_
      refine q_then (hK70 _ _ ?_)
      refine w_ret ?_
      refine q_ret (l := [.tmp 10]) (vs := [_]) rfl ⟨⟨rfl, show _ = (.int _ _ : Value) from rfl⟩, trivial⟩ ?_
      have hrr : r = m.rooms.length := by omega
      subst hrr
      exact ⟨rfl, hs.tail⟩

theorem c71 {w0 w : World} {F : List (Nat × Obj)} (m : Market) (p : At3) (hm : MIn w0 F m p) (hok : m.Ok) (ah : Option Addr) (ch : Nat) (hands : List Int) (hhl : hands.length = m.rooms.length) (hhs : Sl w0 F ah 1 (hands.map fun x => [Value.int .i64 x])) (hhb : ∀ z ∈ hands, -10000 ≤ z ∧ z ≤ 10000) (aw : Option Addr) (cw : Nat) (wants : List Int) (hwl : wants.length = m.shops.length) (hws : Sl w0 F aw 1 (wants.map fun x => [Value.int .i64 x])) (hwb : ∀ z ∈ wants, -10000 ≤ z ∧ z ≤ 10000) (al : Option Addr) (cl : Nat) (l : List Int) (hll : l.length ≤ 4) (hl : Sl w0 F al 1 (l.map fun x => [Value.int .i64 x])) (hlb : ∀ z ∈ l, 0 ≤ z ∧ z < m.shops.length) (fro : Nat) (hfr : fro ≤ m.trains.length) (hs : St w0 w F) :
  Con Try.prog 71 [.agg (m.cells p).toArray, .slice ah hands.length ch, .slice aw wants.length cw, .slice al l.length cl, .int .i64 (fro : Int)] w fun v w' => ∃ B a c, v = .tuple #[.slice a (worstR m hands wants l fro).1.length c, .int .i64 (worstR m hands wants l fro).2] ∧ Sl w0 B a 1 ((worstR m hands wants l fro).1.map fun x => [Value.int .i64 x]) ∧ St w0 w' (B ++ F) := by
  refine con_of_wc (n := 44) Try.func71 rfl rfl (Nat.le_of_ble_eq_true rfl) ?_
  have hsm := setsL_max (shops := l) (by omega)
  have hsp := setsL_pos l
  have htb := topTo_bound (f := fun s => lackR m hands wants s fro) (all := setsL l) (fun s hs => (lackR_bound hok hhb hwb (by have := (setsL_in hs).1; omega) fro).2)
  refine w_seq (fun K2 hK1 => ?_)
  refine w_region ?_
  refine w_box (v := .agg #[.slice _ _ _, .slice _ _ _, .slice _ _ _]) (cs := [_, _, _]) want_none rfl rfl rfl hs (fun b3 w4 hs5 => ?_)
  refine w_pure want_none (y_assign (v := _) rfl rfl) rfl ?_
  refine w_pure want_none (y_assign (v := _) rfl rfl) rfl ?_
  refine w_nil ?_
  refine q_then (hK1 _ _ ?_)
  refine w_seq (fun K7 hK6 => ?_)
  refine w_region ?_
  refine w_pure want_none (y_move (v := .slice _ _ _) rfl rfl) rfl ?_
  refine w_call want_none Try.call74 rfl rfl rfl rfl (c74 _ _ l (by omega) hl.cons hs5) ?_
  rintro _ w9 ⟨SB, vs, as2, cs2, rfl, hslS, helS, hs10⟩
  replace hs10 := (show St _ _ (SB ++ (_ :: F)) from hs10)
  have hbx : Ats w0 ((b3, blk 26 (m.cells p)) :: F) b3 0 (m.cells p) := ats_own (i := 0) (vs := m.cells p) rfl rfl
  refine w_pure want_none (y_assign (v := .slice _ _ _) rfl rfl) rfl ?_
  refine w_nil ?_
  refine q_then (hK6 _ _ ?_)
  refine w_seq (fun K12 hK11 => ?_)
  refine w_region ?_
  refine w_pure want_none (y_assign (v := _) rfl rfl) rfl ?_
  refine w_nil ?_
  refine q_then (hK11 _ _ ?_)
  refine w_seq (fun K14 hK13 => ?_)
  refine w_region ?_
  refine w_pure want_none (y_assign (v := _) rfl rfl) rfl ?_
  refine w_nil ?_
  refine q_then (hK13 _ _ ?_)
  refine w_seq (fun K16 hK15 => ?_)
  refine w_seq (fun K18 hK17 => ?_)
  refine w_region ?_
  refine w_pure want_none (y_assign (v := _) rfl rfl) rfl ?_
  refine w_nil ?_
  refine q_then (hK17 _ _ ?_)
  refine w_block ?_
  refine w_loop [13, 14, 15, 16, 19, 20, 21, 22, 23, 24, 25, 26, 27, 28, 29, 30, 31, 32, 33, 34, 35, 36, 37, 38, 39, 40, 41] [13, 14, 15] (fun kk vs0 w => ∃ (i : Nat) (ab : Option Addr) (cb : Nat), vs0 = [.slice ab (topTo (fun s => lackR m hands wants s fro) (setsL l) i).1.length cb, .int .i64 (topTo (fun s => lackR m hands wants s fro) (setsL l) i).2, .int .i64 i] ∧ 1 ≤ i ∧ i ≤ (setsL l).length ∧ kk = (setsL l).length - i ∧ Sl w0 SB ab 1 ((topTo (fun s => lackR m hands wants s fro) (setsL l) i).1.map fun x => [Value.int .i64 x]) ∧ St w0 w (SB ++ ((b3, blk 26 (m.cells p)) :: F))) ((setsL l).length - 1) ?_ ?_
  ·
   exact ⟨1, none, 0, rfl, by omega, by omega, rfl, Sl.nil _ _, hs10⟩
  ·
   intro k vs μ w21 hI K20 hN19
   obtain ⟨i, ab, cb, rfl, hi1, hia, rfl, hsb, hs⟩ := hI
   refine w_seq (fun K23 hK22 => ?_)
   refine w_seq (fun K25 hK24 => ?_)
   refine w_region ?_
   refine w_pure want_none (y_move (v := .int _ _) rfl rfl) rfl ?_
   refine w_pure want_none (y_move (v := .slice _ _ _) rfl rfl) rfl ?_
   refine w_pure want_none (y_lenS Try.underlying100 rfl rfl) rfl ?_
   refine w_pure want_none (y_lss rfl rfl rfl rfl) rfl ?_
   refine w_nil ?_
   refine q_then (hK24 _ _ ?_)
   refine w_cond rfl rfl (fun h26 => ?_) (fun h26 => ?_)
   ·
    try simp only [Bool.not_eq_true', Bool.not_eq_false', decide_eq_true_eq, decide_eq_false_iff_not, Int.not_lt, Int.not_le] at h26
    refine w_skip ?_
    refine q_then (hK22 _ _ ?_)
    refine w_seq (fun K28 hK27 => ?_)
    refine w_block ?_
    refine w_seq (fun K30 hK29 => ?_)
    have hi2 : i < (setsL l).length := by omega
    obtain ⟨bx, ox, b2, c2, hac, hx, hsx1, hnx⟩ := el_at hslS helS hi2
    subst hac
    have hx0 := hx.top (F := (b3, blk 26 (m.cells p)) :: F)
    have hsx0 := hsx1.top (F := (b3, blk 26 (m.cells p)) :: F)
    have hsi := setsL_in (List.getElem_mem hi2)
    have hlk := lackR_bound hok hhb hwb (set := (setsL l)[i]'hi2) (by omega) fro
    have htb2 := htb i
    refine w_draw [] [(0, 1), (1, 0), (2, 0), (3, 0), (4, 0), (5, 0), (6, 1), (7, 0), (8, 2), (9, 0)] Try_mo (by kernel_rfl) hs (fun w31 hs32 => ?_)
    refine d_take rfl want_none rfl hs32 (fun _ hq => (y_loadN (vs := [_, _, _]) Try.isAgg26 Try.sizeOf26 hq.drop rfl rfl hbx)) ?_
    refine d_any rfl want_none rfl (fun _ => (y_move (v := .slice _ _ _) rfl rfl)) ?_
    refine d_any rfl want_none rfl (fun _ => (y_move (v := .slice _ _ _) rfl rfl)) ?_
    refine d_any rfl want_none rfl (fun _ => (y_move (v := .slice _ _ _) rfl rfl)) ?_
    refine d_any rfl want_none rfl (fun _ => (y_move (v := .int _ _) rfl rfl)) ?_
    refine d_any rfl want_none rfl (fun _ => (y_indexS Try.underlying100 Try.sizeOf30 rfl rfl rfl rfl (i := _) rfl (by omega))) ?_
    refine d_take rfl want_none rfl hs32 (fun _ hq => (y_load1 Try.isAgg30 hq rfl rfl hx0)) ?_
    refine d_any rfl want_none rfl (fun _ => (y_move (v := .int _ _) rfl rfl)) ?_
    refine d_eff rfl ?_
    refine w_call want_none Try.call92 rfl rfl rfl rfl (c92 m p hm.cons.app hok _ _ hands hhl hhs.cons.app hhb _ _ wants hwl hws.cons.app hwb _ _ ((setsL l)[i]'hi2) (by omega) hsx0 (fun z hz => hlb z (hsi.2 z hz)) fro hfr hs32) ?_
    rintro _ w34 ⟨rfl, hs35⟩
    refine w_nil ?_
    refine qn ⟨hs35, ?_⟩
    refine d_any rfl want_none rfl (fun _ => (y_assign (v := .int _ _) rfl rfl)) ?_
    refine d_nil ?_
    refine q_then (hK29 _ _ ?_)
    refine w_seq (fun K37 hK36 => ?_)
    refine w_region ?_
    refine w_pure want_none (y_move (v := .int _ _) rfl rfl) rfl ?_
    refine w_pure want_none (y_move (v := .int _ _) rfl rfl) rfl ?_
    refine w_pure want_none (y_gtr rfl rfl rfl rfl) rfl ?_
    refine w_nil ?_
    refine q_then (hK36 _ _ ?_)
    refine w_cond rfl rfl (fun h38 => ?_) (fun h38 => ?_)
    ·
     try simp only [Bool.not_eq_true', Bool.not_eq_false', decide_eq_true_eq, decide_eq_false_iff_not, Int.not_lt, Int.not_le] at h38
     refine w_region ?_
     refine w_pure want_none (y_move (v := .slice _ _ _) rfl rfl) rfl ?_
     refine w_pure want_none (y_move (v := .int _ _) rfl rfl) rfl ?_
     refine w_pure want_none (y_indexS Try.underlying100 Try.sizeOf30 rfl rfl rfl rfl (i := _) rfl (by omega)) rfl ?_
     refine w_pure want_none (y_load1 Try.isAgg30 hs35 rfl rfl hx0) rfl ?_
     refine w_pure want_none (y_move (v := .int _ _) rfl rfl) rfl ?_
     refine w_pure want_none (y_assign (v := .slice _ _ _) rfl rfl) rfl ?_
     refine w_pure want_none (y_assign (v := .int _ _) rfl rfl) rfl ?_
     refine w_nil ?_
     refine q_blk_normal ?_
     refine q_then (hK27 _ _ ?_)
     refine w_region ?_
     refine w_pure want_none (y_move (v := .int _ _) rfl rfl) rfl ?_
     refine w_pure want_none (y_add rfl rfl rfl rfl (by omega) (by omega)) rfl ?_
     refine w_pure want_none (y_assign (v := .int _ _) rfl rfl) rfl ?_
     refine w_nil ?_
     refine q_then (hN19 _ _ (Nx.intro ((setsL l).length - (i + 1)) (by omega) (by repeat (first | exact agree_mix | refine agree_upd rfl ?_ | refine agree_updL rfl ?_ _ | refine agree_mixin rfl ?_)) ?_))
     first
       | exact ⟨i + 1, b2, c2, by rw [topTo_succ hi1 hi2]; unfold topStep; rw [if_pos (by assumption)]; rfl, by omega, by omega, rfl, by rw [topTo_succ hi1 hi2]; unfold topStep; rw [if_pos (by assumption)]; exact hsx1, hs35⟩
       | exact ⟨i + 1, ab, cb, by rw [topTo_succ hi1 hi2]; unfold topStep; rw [if_neg (by dsimp only; omega)]; rfl, by omega, by omega, rfl, by rw [topTo_succ hi1 hi2]; unfold topStep; rw [if_neg (by dsimp only; omega)]; exact hsb, hs35⟩
    ·
     try simp only [Bool.not_eq_true', Bool.not_eq_false', decide_eq_true_eq, decide_eq_false_iff_not, Int.not_lt, Int.not_le] at h38
     refine w_skip ?_
     refine q_blk_normal ?_
     refine q_then (hK27 _ _ ?_)
     refine w_region ?_
     refine w_pure want_none (y_move (v := .int _ _) rfl rfl) rfl ?_
     refine w_pure want_none (y_add rfl rfl rfl rfl (by omega) (by omega)) rfl ?_
     refine w_pure want_none (y_assign (v := .int _ _) rfl rfl) rfl ?_
     refine w_nil ?_
     refine q_then (hN19 _ _ (Nx.intro ((setsL l).length - (i + 1)) (by omega) (by repeat (first | exact agree_mix | refine agree_upd rfl ?_ | refine agree_updL rfl ?_ _ | refine agree_mixin rfl ?_)) ?_))
     first
       | exact ⟨i + 1, b2, c2, by rw [topTo_succ hi1 hi2]; unfold topStep; rw [if_pos (by assumption)]; rfl, by omega, by omega, rfl, by rw [topTo_succ hi1 hi2]; unfold topStep; rw [if_pos (by assumption)]; exact hsx1, hs35⟩
       | exact ⟨i + 1, ab, cb, by rw [topTo_succ hi1 hi2]; unfold topStep; rw [if_neg (by dsimp only; omega)]; rfl, by omega, by omega, rfl, by rw [topTo_succ hi1 hi2]; unfold topStep; rw [if_neg (by dsimp only; omega)]; exact hsb, hs35⟩
   ·
    try simp only [Bool.not_eq_true', Bool.not_eq_false', decide_eq_true_eq, decide_eq_false_iff_not, Int.not_lt, Int.not_le] at h26
    refine w_exit ?_
    refine q_then_exit ?_
    refine q_then_exit ?_
    refine q_blk_this ?_
    refine q_then (hK15 _ _ ?_)
    refine w_seq (fun K40 hK39 => ?_)
    refine w_region ?_
    refine w_pure want_none (y_move (v := .slice _ _ _) rfl rfl) rfl ?_
    refine w_pure want_none (y_move (v := .int _ _) rfl rfl) rfl ?_
    refine w_pure want_none (y_assign (v := .slice _ _ _) rfl rfl) rfl ?_
    refine w_pure want_none (y_assign (v := .int _ _) rfl rfl) rfl ?_
    refine w_nil ?_
    refine q_then (hK39 _ _ ?_)
    refine w_ret ?_
    refine q_ret (l := [.tmp 10, .tmp 11]) (vs := [_, _]) rfl ⟨⟨rfl, show _ = (.slice _ _ _ : Value) from rfl⟩, ⟨rfl, show _ = (.int _ _ : Value) from rfl⟩, trivial⟩ ?_
    have hil : i = (setsL l).length := by omega
    subst hil
    exact ⟨SB ++ [_], ab, cb, rfl, hsb.top, by rw [List.append_assoc]; exact hs⟩

end Go.Proofs
/- Plain words of the shop layer's reference: what Can, Proof, Without return. No conditions. -/
set_option linter.unusedSimpArgs false
set_option linter.unusedVariables false
namespace Go.Rt.Sh
def leastL (m : Market) : List Int := m.rooms.map (·.lo)
def mostL (m : Market) : List Int := m.rooms.map (·.hi)
def wantsL (m : Market) : List Int := m.shops.map (·.want)
theorem leastL_in {m : Market} (hok : m.Ok) : ∀ z ∈ leastL m, -10000 ≤ z ∧ z ≤ 10000 := by
  intro z hz; obtain ⟨r, hr, rfl⟩ := List.mem_map.1 hz; have := hok.room r hr; omega
theorem mostL_in {m : Market} (hok : m.Ok) : ∀ z ∈ mostL m, -10000 ≤ z ∧ z ≤ 10000 := by
  intro z hz; obtain ⟨r, hr, rfl⟩ := List.mem_map.1 hz; have := hok.room r hr; omega
theorem wantsL_in {m : Market} (hok : m.Ok) : ∀ z ∈ wantsL m, -10000 ≤ z ∧ z ≤ 10000 := by
  intro z hz; obtain ⟨r, hr, rfl⟩ := List.mem_map.1 hz; have := hok.shop r hr; omega
def servedR (m : Market) (hands shops : List Int) : Bool := decide ((worstR m hands (wantsL m) shops 0).2 = 0)
def askTo (m : Market) (l : List Int) (i : Nat) : Int := if (check m).2.2 ≠ 0 then (check m).2.2 else if (l.take i).any (out 0 (m.shops.length - 1)) then 4 else 0
def askedE (m : Market) (l : List Int) : Int := if askTo m l l.length = 0 ∧ rising m.shops.length (-1) l = false then 2 else askTo m l l.length
theorem askTo_zero (m : Market) (l : List Int) : askTo m l 0 = (check m).2.2 := by
  unfold askTo
  split
  · rfl
  · rename_i h; simp at h ⊢; exact h.symm
theorem askTo_chk {m : Market} {l : List Int} {i : Nat} (h : askTo m l i = 0) : (check m).2.2 = 0 := by
  unfold askTo at h
  split at h
  · rename_i h1; exact absurd h h1
  · rename_i h1; simpa using h1
theorem any_false {m : Market} {l : List Int} {i : Nat} (h : askTo m l i = 0) : (l.take i).any (out 0 (m.shops.length - 1)) = false := by
  unfold askTo at h
  rw [if_neg (by simpa using askTo_chk h)] at h
  split at h
  · cases h
  · rename_i h2; simpa using h2
theorem any_snoc {l : List Int} {f : Int → Bool} {i : Nat} (hi : i < l.length) : (l.take (i + 1)).any f = ((l.take i).any f || f l[i]) := by
  rw [List.take_succ_eq_append_getElem hi, List.any_append]; simp
theorem askTo_bad {m : Market} {l : List Int} {i : Nat} (hi : i < l.length) (h : askTo m l i = 0) (h2 : ¬ (0 ≤ l[i] ∧ l[i] ≤ (m.shops.length : Int) - 1)) : askTo m l (i + 1) = 4 := by
  have h1 := any_false h
  unfold askTo
  rw [if_neg (by simpa using askTo_chk h), any_snoc hi, h1]
  have : out 0 (m.shops.length - 1) l[i] = true := by simp [out]; omega
  rw [this]; rfl
theorem askTo_good {m : Market} {l : List Int} {i : Nat} (hi : i < l.length) (h : askTo m l i = 0) (h2 : 0 ≤ l[i] ∧ l[i] ≤ (m.shops.length : Int) - 1) : askTo m l (i + 1) = askTo m l i := by
  have h1 := any_false h
  rw [h]
  unfold askTo
  rw [if_neg (by simpa using askTo_chk h), any_snoc hi, h1]
  have : out 0 (m.shops.length - 1) l[i] = false := by simp [out]; omega
  rw [this]; rfl
theorem askTo_stop {m : Market} {l : List Int} {i : Nat} (hi : i ≤ l.length) (h : askTo m l i ≠ 0) : askTo m l l.length = askTo m l i := by
  unfold askTo at h ⊢
  by_cases h1 : (check m).2.2 ≠ 0
  · rw [if_pos h1, if_pos h1]
  · rw [if_neg h1] at h ⊢
    rw [if_neg h1]
    by_cases h2 : (l.take i).any (out 0 (m.shops.length - 1)) = true
    · rw [if_pos h2, if_pos]
      rw [List.take_length]
      obtain ⟨x, hx, hf⟩ := List.any_eq_true.1 h2
      exact List.any_eq_true.2 ⟨x, List.mem_of_mem_take hx, hf⟩
    · rw [if_neg h2] at h; exact absurd rfl h
theorem askedE_chk {m : Market} {l : List Int} (h : askedE m l = 0) : (check m).2.2 = 0 ∧ (∀ x ∈ l, 0 ≤ x ∧ x < m.shops.length) ∧ rising m.shops.length (-1) l = true := by
  unfold askedE at h
  split at h
  · cases h
  · rename_i h1
    have h2 := any_false h
    rw [List.take_length] at h2
    refine ⟨askTo_chk h, fun x hx => ?_, ?_⟩
    · have := List.any_eq_false.1 h2 x hx
      simp [out] at this; omega
    · cases hr : rising m.shops.length (-1) l with
      | true => rfl
      | false => exact absurd ⟨h, hr⟩ h1
theorem rising_len {n : Int} : ∀ (l : List Int) (p : Int), rising n p l = true → -1 ≤ p → p < n → (l.length : Int) + p + 1 ≤ n
  | [], p, _, _, h => by simp; omega
  | x :: l, p, h, hp, hn => by
    simp only [rising, Bool.and_eq_true, Bool.not_eq_true', Bool.or_eq_false_iff, decide_eq_false_iff_not] at h
    have := rising_len l x h.2 (by omega) (by omega)
    simp only [List.length_cons]; omega
theorem asked_len {m : Market} {l : List Int} (h : askedE m l = 0) : l.length ≤ m.shops.length := by
  obtain ⟨_, h2, h3⟩ := askedE_chk h
  match l, h2, h3 with
  | [], _, _ => simp
  | x :: l, h2, h3 =>
    have h0 := h2 x (.head _)
    have := rising_len (x :: l) (-1) h3 (by omega) (by omega)
    omega
def canR (m : Market) (l : List Int) : Int × Int := if askedE m l ≠ 0 then (0, askedE m l) else if servedR m (leastL m) l then (1, 0) else if servedR m (mostL m) l = false then (2, 0) else (0, 0)
def proofR (m : Market) (l : List Int) : List Int × Int × Int := if askedE m l ≠ 0 then ([], 0, askedE m l) else if (worstR m (leastL m) (wantsL m) l 0).2 = 0 then ([], 0, 9) else ((worstR m (leastL m) (wantsL m) l 0).1, (worstR m (leastL m) (wantsL m) l 0).2, 0)
/-- The first of some sets without which the others are served. -/
def firstW (m : Market) : List (List Int) → List Int
  | [] => []
  | s :: r => if servedR m (leastL m) (othersTo s m.shops.length) then s else firstW m r
def withoutR (m : Market) : List Int × Int := if (check m).2.2 ≠ 0 then ([], (check m).2.2) else (firstW m (setsL (othersTo [] m.shops.length)), 0)
theorem firstW_here {m : Market} {l : List (List Int)} {i : Nat} (hi : i < l.length) (h : servedR m (leastL m) (othersTo l[i] m.shops.length) = true) : firstW m (l.drop i) = l[i] := by
  rw [List.drop_eq_getElem_cons hi, firstW, if_pos h]
theorem firstW_on {m : Market} {l : List (List Int)} {i : Nat} (hi : i < l.length) (h : servedR m (leastL m) (othersTo l[i] m.shops.length) = false) : firstW m (l.drop i) = firstW m (l.drop (i + 1)) := by
  rw [List.drop_eq_getElem_cons hi, firstW, if_neg (by simp [h])]
theorem firstW_end {m : Market} {l : List (List Int)} {i : Nat} (hi : l.length ≤ i) : firstW m (l.drop i) = [] := by rw [List.drop_of_length_le hi]; rfl
theorem othersTo_in (l : List Int) : ∀ n, ∀ z ∈ othersTo l n, 0 ≤ z ∧ z < n
  | 0, z, h => by simp [othersTo] at h
  | n + 1, z, h => by
    unfold othersTo at h
    split at h
    · have := othersTo_in l n z h; omega
    · rcases List.mem_append.1 h with h | h
      · have := othersTo_in l n z h; omega
      · simp at h; omega
end Go.Rt.Sh
