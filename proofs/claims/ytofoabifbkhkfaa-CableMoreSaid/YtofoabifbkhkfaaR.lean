/- Walks of this seat, printed by gen.py over the engine: what each function returns, in whatever world. No conditions but those of each contract. -/
import Derived.Test.YtofoabifbkhkfaaQ
set_option linter.unusedVariables false
set_option linter.unusedSimpArgs false
set_option maxRecDepth 20000
namespace Go.Proofs
open Go.Rt
attribute [local irreducible] WL WC Con Yd At Ats Sl Agree DW
theorem Try_R_fb8 (x0 : Int) (x1 : Int) (w : World) : (Instr.build 23 [(0, .int .i64 x0), (1, .int .i64 x1)].toArray).run Try.prog w = .ok (.agg #[.int .i64 x0, .int .i64 x1]) w := by kernel_rfl
theorem Try_R_fb9 (x0 : ByteArray) (x1 : Int) (x2 : Int) (x3 : Int) (x4 : Int) (x5 : Int) (w : World) : (Instr.build 60 [(0, .string x0), (1, .int .i64 x1), (2, .int .i64 x2), (3, .int .i64 x3), (4, .agg #[.int .i64 x4, .int .i64 x5])].toArray).run Try.prog w = .ok (.agg #[.string x0, .int .i64 x1, .int .i64 x2, .int .i64 x3, .int .i64 x4, .int .i64 x5]) w := by kernel_rfl
theorem Try_R_fb10 (x0 : ByteArray) (x1 : Int) (x2 : Int) (x3 : Int) (x4 : Int) (x5 : Int) (x6 : ByteArray) (x7 : Int) (x8 : Int) (x9 : Int) (x10 : Int) (x11 : Int) (x12 : ByteArray) (x13 : Int) (x14 : Int) (x15 : Int) (x16 : Int) (x17 : Int) (w : World) : (Instr.buildSlice 24 3 [(0, .agg #[.string x0, .int .i64 x1, .int .i64 x2, .int .i64 x3, .int .i64 x4, .int .i64 x5]), (1, .agg #[.string x6, .int .i64 x7, .int .i64 x8, .int .i64 x9, .int .i64 x10, .int .i64 x11]), (2, .agg #[.string x12, .int .i64 x13, .int .i64 x14, .int .i64 x15, .int .i64 x16, .int .i64 x17])].toArray).run Try.prog w = .ok (.slice (some ⟨w.heap.size, 0, none⟩) 3 3) (w.alloc (Go.Rt.blk 60 [.string x0, .int .i64 x1, .int .i64 x2, .int .i64 x3, .int .i64 x4, .int .i64 x5, .string x6, .int .i64 x7, .int .i64 x8, .int .i64 x9, .int .i64 x10, .int .i64 x11, .string x12, .int .i64 x13, .int .i64 x14, .int .i64 x15, .int .i64 x16, .int .i64 x17])) := by kernel_rfl
theorem Try_R_fb11 (x0 : Int) (x1 : Int) (x2 : Int) (x3 : Option Addr) (l3 c3 : Nat) (w : World) : (Instr.build 26 [(0, .int .i64 x0), (1, .agg #[.int .i64 x1, .int .i64 x2]), (2, .slice x3 l3 c3)].toArray).run Try.prog w = .ok (.agg #[.int .i64 x0, .int .i64 x1, .int .i64 x2, .slice x3 l3 c3]) w := by kernel_rfl
theorem gen_Z {w0 w : World} {L : List (Nat × Obj)} (hs : St w0 w L) : ∃ Z, Z = L ∧ St w0 w Z := ⟨L, rfl, hs⟩
theorem tru {x : Bool} (h : x = true) : Value.bool x = .bool true := by rw [h]
theorem con_true {k : FuncId} {args : List Value} {w : World} {x : Bool} {S : World → Prop} (h : Con Try.prog k args w fun v w' => v = .bool x ∧ S w') (hx : x = true) : Con Try.prog k args w fun v w' => v = .bool true ∧ S w' := by subst hx; exact h
theorem c36 {w0 w : World} {F : List (Nat × Obj)} (x y : Int) (hs : St w0 w F) :
  Con Try.prog 36 [.int .i64 x, .int .i64 y] w fun v w' => v = .agg #[.int .i64 x, .int .i64 y] ∧ St w0 w' F := by
  refine con_of_wc (n := 8) Try.func36 rfl rfl (Nat.le_of_ble_eq_true rfl) ?_
  refine w_seq (fun K2 hK1 => ?_)
  refine w_region ?_
  refine w_alloc (cs := [_, _]) want_none Try.zeroValue23 rfl hs (fun b3 w4 hs5 => ?_)
  refine w_nil ?_
  refine q_then (hK1 _ _ ?_)
  refine w_seq (fun K7 hK6 => ?_)
  refine w_region ?_
  refine w_pure want_none (y_move (v := .int _ _) rfl rfl) rfl ?_
  refine w_pure want_none (y_move (v := .int _ _) rfl rfl) rfl ?_
  refine w_pure want_none (y_build (ps := [(0, _), (1, _)]) (pv := [(0, .int _ _), (1, .int _ _)]) rfl rfl (fun w => Try_R_fb8 _ _ w)) rfl ?_
  refine w_store (i := 0) (v := .agg #[.int _ _, .int _ _]) (vs := [_, _]) want_none Try.sizeOf23 rfl rfl rfl rfl rfl (by simp [Value.oneCell']) hs5 rfl (Nat.le_of_ble_eq_true rfl) (fun w8 hs9 => ?_)
  refine w_nil ?_
  refine q_then (hK6 _ _ ?_)
  refine w_ret ?_
  refine q_ret (l := [.cell 4 23]) (vs := [_]) rfl ⟨⟨rfl, _, rfl, run_loadVarN (vs := [_, _]) Try.isAgg23 Try.sizeOf23 hs9 (ats_own (i := 0) (vs := [_, _]) rfl rfl)⟩, trivial⟩ ?_
  exact ⟨rfl, hs9.tail⟩

theorem c35 {w0 w : World} {F : List (Nat × Obj)} (x : Int) (n : Nat) (hn : n ≤ 3) (hs : St w0 w F) :
  Con Try.prog 35 [.int .i64 x, .int .i64 (n : Int)] w fun v w' => ∃ b, v = .agg #[.int .i64 50, .int .i64 x, .int .i64 8, .slice (some ⟨b, 0, none⟩) n 3] ∧ St w0 w' ((b, blk 60 (rows [fAlto, fBajo, fCima]).flatten) :: F) := by
  refine con_of_wc (n := 19) Try.func35 rfl rfl (Nat.le_of_ble_eq_true rfl) ?_
  refine w_seq (fun K2 hK1 => ?_)
  refine w_region ?_
  refine w_alloc (cs := [_, _, _, _]) want_none Try.zeroValue26 rfl hs (fun b3 w4 hs5 => ?_)
  refine w_nil ?_
  refine q_then (hK1 _ _ ?_)
  refine w_seq (fun K7 hK6 => ?_)
  refine w_region ?_
  refine w_call want_none Try.call36 rfl rfl rfl rfl (c36 _ _ hs5) ?_
  rintro _ w9 ⟨rfl, hs10⟩
  refine w_pure want_none (y_build (ps := [(0, _), (1, _), (2, _), (3, _), (4, _)]) (pv := [(0, .string _), (1, .int _ _), (2, .int _ _), (3, .int _ _), (4, .agg #[.int _ _, .int _ _])]) rfl rfl (fun w => Try_R_fb9 _ _ _ _ _ _ w)) rfl ?_
  refine w_call want_none Try.call36 rfl rfl rfl rfl (c36 _ _ hs10) ?_
  rintro _ w12 ⟨rfl, hs13⟩
  refine w_pure want_none (y_build (ps := [(0, _), (1, _), (2, _), (3, _), (4, _)]) (pv := [(0, .string _), (1, .int _ _), (2, .int _ _), (3, .int _ _), (4, .agg #[.int _ _, .int _ _])]) rfl rfl (fun w => Try_R_fb9 _ _ _ _ _ _ w)) rfl ?_
  refine w_call want_none Try.call36 rfl rfl rfl rfl (c36 _ _ hs13) ?_
  rintro _ w15 ⟨rfl, hs16⟩
  refine w_pure want_none (y_build (ps := [(0, _), (1, _), (2, _), (3, _), (4, _)]) (pv := [(0, .string _), (1, .int _ _), (2, .int _ _), (3, .int _ _), (4, .agg #[.int _ _, .int _ _])]) rfl rfl (fun w => Try_R_fb9 _ _ _ _ _ _ w)) rfl ?_
  refine w_bslice (ps := [(0, _), (1, _), (2, _)]) (pv := [(0, .agg #[.string _, .int _ _, .int _ _, .int _ _, .int _ _, .int _ _]), (1, .agg #[.string _, .int _ _, .int _ _, .int _ _, .int _ _, .int _ _]), (2, .agg #[.string _, .int _ _, .int _ _, .int _ _, .int _ _, .int _ _])]) (cs := [_, _, _, _, _, _, _, _, _, _, _, _, _, _, _, _, _, _]) want_none rfl rfl (fun w => Try_R_fb10 _ _ _ _ _ _ _ _ _ _ _ _ _ _ _ _ _ _ w) hs16 (fun b17 w18 hs19 => ?_)
  refine w_pure want_none (y_assign (v := .slice _ _ _) rfl rfl) rfl ?_
  refine w_nil ?_
  refine q_then (hK6 _ _ ?_)
  refine w_seq (fun K21 hK20 => ?_)
  refine w_draw [6] [(0, 0), (2, 0), (3, 0), (4, 0), (1, 2), (5, 0), (6, 3)] Try_mo (by kernel_rfl) hs19 (fun w22 hs23 => ?_)
  refine d_any rfl want_none rfl (fun _ => (y_move (v := .int _ _) rfl rfl)) ?_
  refine d_any rfl want_none rfl (fun _ => (y_move (v := .slice _ _ _) rfl rfl)) ?_
  refine d_any rfl want_none rfl (fun _ => (y_move (v := .int _ _) rfl rfl)) ?_
  refine d_any rfl want_none rfl (fun _ => (y_sliceS (l' := 0) (h' := n) Try.underlying24 Try.sizeOf60 rfl rfl rfl ⟨rfl, _, _, rfl, rfl⟩ (by omega) (by omega))) ?_
  refine d_eff rfl ?_
  refine w_call want_none Try.call36 rfl rfl rfl rfl (c36 _ _ hs23) ?_
  rintro _ w25 ⟨rfl, hs26⟩
  refine w_nil ?_
  refine qn ⟨hs26, ?_⟩
  refine d_any rfl want_none rfl (fun _ => (y_build (ps := [(0, _), (1, _), (2, _)]) (pv := [(0, .int _ _), (1, .agg #[.int _ _, .int _ _]), (2, .slice _ _ _)]) rfl rfl (fun w => Try_R_fb11 _ _ _ _ _ _ w))) ?_
  refine d_late rfl ?_
  refine w_store (i := 1) (v := .agg #[.int _ _, .int _ _, .int _ _, .slice _ _ _]) (vs := [_, _, _, _]) want_none Try.sizeOf26 rfl rfl rfl rfl rfl (by simp [Value.oneCell']) hs26 rfl (Nat.le_of_ble_eq_true rfl) (fun w27 hs28 => ?_)
  refine w_nil ?_
  refine qn ?_
  refine d_nil ?_
  refine q_then (hK20 _ _ ?_)
  refine w_ret ?_
  refine q_ret (l := [.cell 4 26]) (vs := [_]) rfl ⟨⟨rfl, _, rfl, run_loadVarN (vs := [_, _, _, _]) Try.isAgg26 Try.sizeOf26 hs28 (ats_own (i := 1) (vs := [_, _, _, _]) rfl rfl)⟩, trivial⟩ ?_
  exact ⟨_, rfl, keep_front (Y := [_]) hs28⟩

end Go.Proofs
