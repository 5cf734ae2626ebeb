/- Own texts of this claim, joined. No conditions. -/
import Derived.Test.YtgndnnpadkoagaaHChainKnowna
import Derived.Test.YtgndnnpadkoagaaHChainKnownb
import Derived.Test.YtgndnnpadkoagaaHChainKnownc
import Derived.Test.YtgndnnpadkoagaaHChainKnownd
import Derived.Test.YtgndnnpadkoagaaHChainKnowne
/- Walks of this seat, printed by gen.py over the engine: what each function returns, in whatever world. No conditions but those of each contract. -/
set_option linter.unusedVariables false
set_option linter.unusedSimpArgs false
set_option maxRecDepth 20000
namespace Go.Proofs
open Go.Rt Go.Rt.Ch
open Go.Rt.Ha (firstE firstE_step firstE_stop firstE_end failE nameE felt spanL upto span_mem listL fewest fewTo bit before fewStep drop_lt drop_get drop_next drop_done drop_notin set_take set_zero take_less)
attribute [local irreducible] WL WC Con Yd At Ats Sl Agree DW
theorem Try_Ya_fb7 (x0 : Int) (x1 : Int) (w : World) : (Instr.build 31 [(0, .int .i64 x0), (1, .int .i64 x1)].toArray).run Try.prog w = .ok (.agg #[.int .i64 x0, .int .i64 x1]) w := by kernel_rfl
theorem Try_Ya_fb8 (x0 : Int) (x1 : Int) (w : World) : (Instr.build 70 [(1, .agg #[.int .i64 x0, .int .i64 x1])].toArray).run Try.prog w = .ok (.agg #[.int .i64 0, .int .i64 x0, .int .i64 x1]) w := by kernel_rfl
theorem Try_Ya_fb9 (x0 : Int) (x1 : Int) (x2 : Int) (w : World) : (Instr.build 70 [(0, .int .i64 x0), (1, .agg #[.int .i64 x1, .int .i64 x2])].toArray).run Try.prog w = .ok (.agg #[.int .i64 x0, .int .i64 x1, .int .i64 x2]) w := by kernel_rfl
theorem Try_Ya_fb10 (x0 : Int) (x1 : Int) (x2 : Int) (x3 : Int) (x4 : Int) (x5 : Int) (x6 : Int) (x7 : Int) (x8 : Int) (w : World) : (Instr.buildSlice 22 3 [(0, .agg #[.int .i64 x0, .int .i64 x1, .int .i64 x2]), (1, .agg #[.int .i64 x3, .int .i64 x4, .int .i64 x5]), (2, .agg #[.int .i64 x6, .int .i64 x7, .int .i64 x8])].toArray).run Try.prog w = .ok (.slice (some ⟨w.heap.size, 0, none⟩) 3 3) (w.alloc (Go.Rt.blk 70 [.int .i64 x0, .int .i64 x1, .int .i64 x2, .int .i64 x3, .int .i64 x4, .int .i64 x5, .int .i64 x6, .int .i64 x7, .int .i64 x8])) := by kernel_rfl
theorem Try_Ya_fb11 (x0 : Int) (x1 : Int) (x2 : Int) (w : World) : (Instr.buildSlice 39 3 [(0, .int .i64 x0), (1, .int .i64 x1), (2, .int .i64 x2)].toArray).run Try.prog w = .ok (.slice (some ⟨w.heap.size, 0, none⟩) 3 3) (w.alloc (Go.Rt.blk 3 [.int .i64 x0, .int .i64 x1, .int .i64 x2])) := by kernel_rfl
theorem Try_Ya_fb12 (x0 : ByteArray) (x1 : Int) (x2 : Int) (x3 : Option Addr) (l3 c3 : Nat) (x4 : Option Addr) (l4 c4 : Nat) (w : World) : (Instr.build 76 [(0, .string x0), (1, .int .i64 x1), (3, .int .i64 x2), (4, .slice x3 l3 c3), (5, .slice x4 l4 c4)].toArray).run Try.prog w = .ok (.agg #[.string x0, .int .i64 x1, .int .i64 0, .int .i64 x2, .slice x3 l3 c3, .slice x4 l4 c4]) w := by kernel_rfl
theorem Try_Ya_fb13 (x0 : ByteArray) (x1 : Int) (x2 : Option Addr) (l2 c2 : Nat) (x3 : Option Addr) (l3 c3 : Nat) (w : World) : (Instr.build 76 [(0, .string x0), (2, .int .i64 x1), (4, .slice x2 l2 c2), (5, .slice x3 l3 c3)].toArray).run Try.prog w = .ok (.agg #[.string x0, .int .i64 0, .int .i64 x1, .int .i64 0, .slice x2 l2 c2, .slice x3 l3 c3]) w := by kernel_rfl
theorem Try_Ya_fb14 (x0 : ByteArray) (x1 : Int) (x2 : Int) (x3 : Int) (x4 : Option Addr) (l4 c4 : Nat) (x5 : Option Addr) (l5 c5 : Nat) (x6 : ByteArray) (x7 : Int) (x8 : Int) (x9 : Int) (x10 : Option Addr) (l10 c10 : Nat) (x11 : Option Addr) (l11 c11 : Nat) (w : World) : (Instr.buildSlice 23 2 [(0, .agg #[.string x0, .int .i64 x1, .int .i64 x2, .int .i64 x3, .slice x4 l4 c4, .slice x5 l5 c5]), (1, .agg #[.string x6, .int .i64 x7, .int .i64 x8, .int .i64 x9, .slice x10 l10 c10, .slice x11 l11 c11])].toArray).run Try.prog w = .ok (.slice (some ⟨w.heap.size, 0, none⟩) 2 2) (w.alloc (Go.Rt.blk 76 [.string x0, .int .i64 x1, .int .i64 x2, .int .i64 x3, .slice x4 l4 c4, .slice x5 l5 c5, .string x6, .int .i64 x7, .int .i64 x8, .int .i64 x9, .slice x10 l10 c10, .slice x11 l11 c11])) := by kernel_rfl
theorem Try_Ya_fb15 (x0 : Int) (x1 : Option Addr) (l1 c1 : Nat) (x2 : Option Addr) (l2 c2 : Nat) (w : World) : (Instr.build 25 [(0, .int .i64 x0), (1, .slice x1 l1 c1), (2, .slice x2 l2 c2)].toArray).run Try.prog w = .ok (.agg #[.int .i64 x0, .slice x1 l1 c1, .slice x2 l2 c2]) w := by kernel_rfl
theorem Try_flat31 : flatInts Try.prog 31 2 = true := by kernel_rfl
theorem Try_Ya_fb17 (x0 : Int) (w : World) : (Instr.buildSlice 39 1 [(0, .int .i64 x0)].toArray).run Try.prog w = .ok (.slice (some ⟨w.heap.size, 0, none⟩) 1 1) (w.alloc (Go.Rt.blk 3 [.int .i64 x0])) := by kernel_rfl
theorem ats_ofL {w0 w : World} {L : List (Nat × Obj)} {i b : Nat} {t : TypeId} {cs vs : List Value} (hs : St w0 w L) (hi : L[i]? = some (b, blk t cs)) (h : (cs.drop 0).take vs.length = vs) : Ats w0 L b 0 vs := ats_own hi h
theorem gen_Z {w0 w : World} {L : List (Nat × Obj)} (hs : St w0 w L) : ∃ Z, Z = L ∧ St w0 w Z := ⟨L, rfl, hs⟩
theorem con_true {k : FuncId} {args : List Value} {w : World} {x : Bool} {S : World → Prop} (h : Con Try.prog k args w fun v w' => v = .bool x ∧ S w') (hx : x = true) : Con Try.prog k args w fun v w' => v = .bool true ∧ S w' := by subst hx; exact h
theorem kz_own {w0 w : World} {B F : List (Nat × Obj)} {a : Nat × Obj} (h : St w0 w (B ++ (a :: F))) : St w0 w (B ++ F) := (h.perm (perm_mid B [a] F)).tail
def exP (bh bc z1 s1 z2 s2 : Nat) : AtB := ⟨some ⟨bh, 0, none⟩, 3, some ⟨bc, 0, none⟩, 2, fun i => if i = 0 then ⟨some ⟨z1, 0, none⟩, 3, some ⟨s1, 0, none⟩, 3⟩ else ⟨some ⟨z2, 0, none⟩, 3, some ⟨s2, 0, none⟩, 3⟩⟩
theorem ex_bin {w0 : World} {n : Int} {bh bc z1 s1 z2 s2 : Nat} :
    BIn w0 [(bc, blk 76 (krows (exB n).ctrs (exP bh bc z1 s1 z2 s2).pc).flatten), (s2, blk 3 (iv [13, 10, n])), (z2, blk 3 (iv [0, 2, 0])), (s1, blk 3 (iv [1, -1, 22])), (z1, blk 3 (iv [0, 0, 0])), (bh, blk 70 (hrows (exB n).hours).flatten)] (exB n) (exP bh bc z1 s1 z2 s2) where
  h := sl_own (i := 5) rfl (by intro row h; obtain ⟨q, _, rfl⟩ := List.mem_map.1 h; rfl) rfl
  c := sl_own (i := 0) rfl (krows_row _ _) rfl
  z := fun i hi => by
    match i, hi with
    | 0, _ => exact sl_own (i := 4) rfl (by intro row h; obtain ⟨q, _, rfl⟩ := List.mem_map.1 h; rfl) rfl
    | 1, _ => exact sl_own (i := 2) rfl (by intro row h; obtain ⟨q, _, rfl⟩ := List.mem_map.1 h; rfl) rfl
    | i + 2, hi => exact absurd hi (by simp [exB])
  s := fun i hi => by
    match i, hi with
    | 0, _ => exact sl_own (i := 3) rfl (by intro row h; obtain ⟨q, _, rfl⟩ := List.mem_map.1 h; rfl) rfl
    | 1, _ => exact sl_own (i := 1) rfl (by intro row h; obtain ⟨q, _, rfl⟩ := List.mem_map.1 h; rfl) rfl
    | i + 2, hi => exact absurd hi (by simp [exB])
  lh := by simp [exB]
  lc := by simp [exB]
  ch := by simp [exB, exP]
  cc := by simp [exB, exP]
  lz := fun i hi => by
    match i, hi with
    | 0, _ => exact ⟨by simp [exB], by simp [exB, exP]⟩
    | 1, _ => exact ⟨by simp [exB], by simp [exB, exP]⟩
    | i + 2, hi => exact absurd hi (by simp [exB])
  ls := fun i hi => by
    match i, hi with
    | 0, _ => exact ⟨by simp [exB], by simp [exB, exP]⟩
    | 1, _ => exact ⟨by simp [exB], by simp [exB, exP]⟩
    | i + 2, hi => exact absurd hi (by simp [exB])
  nm := by intro q hq; simp only [exB, List.mem_cons, List.not_mem_nil, or_false] at hq; rcases hq with rfl | rfl <;> (dsimp only; decide)
theorem c33 {w0 w : World} {F : List (Nat × Obj)} (x y : Int) (hs : St w0 w F) :
  Con Try.prog 33 [.int .i64 x, .int .i64 y] w fun v w' => v = .agg #[.int .i64 x, .int .i64 y] ∧ St w0 w' F := by
  refine con_of_wc (n := 8) Try.func33 rfl rfl (Nat.le_of_ble_eq_true rfl) ?_
  refine w_seq (fun K2 hK1 => ?_)
  refine w_region ?_
  refine w_alloc (cs := [_, _]) want_none Try.zeroValue31 rfl hs (fun b3 w4 hs5 => ?_)
  refine w_nil ?_
  refine q_then (hK1 _ _ ?_)
  refine w_seq (fun K7 hK6 => ?_)
  refine w_region ?_
  refine w_pure want_none (y_move (v := .int _ _) rfl rfl) rfl ?_
  refine w_pure want_none (y_move (v := .int _ _) rfl rfl) rfl ?_
  refine w_pure want_none (y_build (ps := [(0, _), (1, _)]) (pv := [(0, .int _ _), (1, .int _ _)]) rfl rfl (fun w => Try_Ya_fb7 _ _ w)) rfl ?_
  refine w_store (i := 0) (v := .agg #[.int _ _, .int _ _]) (vs := [_, _]) want_none Try.sizeOf31 rfl rfl rfl rfl rfl (by simp [Value.oneCell']) hs5 rfl (Nat.le_of_ble_eq_true rfl) (fun w8 hs9 => ?_)
  refine w_nil ?_
  refine q_then (hK6 _ _ ?_)
  refine w_ret ?_
  refine q_ret (l := [.cell 4 31]) (vs := [_]) rfl ⟨⟨rfl, _, rfl, run_loadVarN (vs := [_, _]) Try.isAgg31 Try.sizeOf31 hs9 (ats_own (i := 0) (vs := [_, _]) rfl rfl)⟩, trivial⟩ ?_
  exact ⟨rfl, hs9.tail⟩

theorem c32 {w0 w : World} {F : List (Nat × Obj)} (n : Int) (hs : St w0 w F) :
  Con Try.prog 32 [.int .i64 n] w fun v w' => ∃ p B, v = .agg ((exB n).cells p).toArray ∧ BIn w0 B (exB n) p ∧ St w0 w' (B ++ F) := by
  refine con_of_wc (n := 19) Try.func32 rfl rfl (Nat.le_of_ble_eq_true rfl) ?_
  refine w_seq (fun K2 hK1 => ?_)
  refine w_region ?_
  refine w_alloc (cs := [_, _, _]) want_none Try.zeroValue25 rfl hs (fun b3 w4 hs5 => ?_)
  refine w_nil ?_
  refine q_then (hK1 _ _ ?_)
  refine w_seq (fun K7 hK6 => ?_)
  refine w_region ?_
  refine w_call want_none Try.call33 rfl rfl rfl rfl (c33 _ _ hs5) ?_
  rintro _ w9 ⟨rfl, hs10⟩
  refine w_pure want_none (y_build (ps := [(1, _)]) (pv := [(1, .agg #[.int _ _, .int _ _])]) rfl rfl (fun w => Try_Ya_fb8 _ _ w)) rfl ?_
  refine w_call want_none Try.call33 rfl rfl rfl rfl (c33 _ _ hs10) ?_
  rintro _ w12 ⟨rfl, hs13⟩
  refine w_pure want_none (y_build (ps := [(1, _)]) (pv := [(1, .agg #[.int _ _, .int _ _])]) rfl rfl (fun w => Try_Ya_fb8 _ _ w)) rfl ?_
  refine w_call want_none Try.call33 rfl rfl rfl rfl (c33 _ _ hs13) ?_
  rintro _ w15 ⟨rfl, hs16⟩
  refine w_pure want_none (y_build (ps := [(0, _), (1, _)]) (pv := [(0, .int _ _), (1, .agg #[.int _ _, .int _ _])]) rfl rfl (fun w => Try_Ya_fb9 _ _ _ w)) rfl ?_
  refine w_bslice (ps := [(0, _), (1, _), (2, _)]) (pv := [(0, .agg #[.int _ _, .int _ _, .int _ _]), (1, .agg #[.int _ _, .int _ _, .int _ _]), (2, .agg #[.int _ _, .int _ _, .int _ _])]) (cs := [_, _, _, _, _, _, _, _, _]) want_none rfl rfl (fun w => Try_Ya_fb10 _ _ _ _ _ _ _ _ _ w) hs16 (fun b17 w18 hs19 => ?_)
  refine w_bslice (ps := [(0, _), (1, _), (2, _)]) (pv := [(0, .int _ _), (1, .int _ _), (2, .int _ _)]) (cs := [_, _, _]) want_none rfl rfl (fun w => Try_Ya_fb11 _ _ _ w) hs19 (fun b20 w21 hs22 => ?_)
  refine w_bslice (ps := [(0, _), (1, _), (2, _)]) (pv := [(0, .int _ _), (1, .int _ _), (2, .int _ _)]) (cs := [_, _, _]) want_none rfl rfl (fun w => Try_Ya_fb11 _ _ _ w) hs22 (fun b23 w24 hs25 => ?_)
  refine w_pure want_none (y_build (ps := [(0, _), (1, _), (3, _), (4, _), (5, _)]) (pv := [(0, .string _), (1, .int _ _), (3, .int _ _), (4, .slice _ _ _), (5, .slice _ _ _)]) rfl rfl (fun w => Try_Ya_fb12 _ _ _ _ _ _ _ _ _ w)) rfl ?_
  refine w_bslice (ps := [(0, _), (1, _), (2, _)]) (pv := [(0, .int _ _), (1, .int _ _), (2, .int _ _)]) (cs := [_, _, _]) want_none rfl rfl (fun w => Try_Ya_fb11 _ _ _ w) hs25 (fun b26 w27 hs28 => ?_)
  refine w_pure want_none (y_move (v := .int _ _) rfl rfl) rfl ?_
  refine w_bslice (ps := [(0, _), (1, _), (2, _)]) (pv := [(0, .int _ _), (1, .int _ _), (2, .int _ _)]) (cs := [_, _, _]) want_none rfl rfl (fun w => Try_Ya_fb11 _ _ _ w) hs28 (fun b29 w30 hs31 => ?_)
  refine w_pure want_none (y_build (ps := [(0, _), (2, _), (4, _), (5, _)]) (pv := [(0, .string _), (2, .int _ _), (4, .slice _ _ _), (5, .slice _ _ _)]) rfl rfl (fun w => Try_Ya_fb13 _ _ _ _ _ _ _ _ w)) rfl ?_
  refine w_bslice (ps := [(0, _), (1, _)]) (pv := [(0, .agg #[.string _, .int _ _, .int _ _, .int _ _, .slice _ _ _, .slice _ _ _]), (1, .agg #[.string _, .int _ _, .int _ _, .int _ _, .slice _ _ _, .slice _ _ _])]) (cs := [_, _, _, _, _, _, _, _, _, _, _, _]) want_none rfl rfl (fun w => Try_Ya_fb14 _ _ _ _ _ _ _ _ _ _ _ _ _ _ _ _ _ _ _ _ w) hs31 (fun b32 w33 hs34 => ?_)
  refine w_pure want_none (y_build (ps := [(0, _), (1, _), (2, _)]) (pv := [(0, .int _ _), (1, .slice _ _ _), (2, .slice _ _ _)]) rfl rfl (fun w => Try_Ya_fb15 _ _ _ _ _ _ _ w)) rfl ?_
  refine w_store (i := 6) (v := .agg #[.int _ _, .slice _ _ _, .slice _ _ _]) (vs := [_, _, _]) want_none Try.sizeOf25 rfl rfl rfl rfl rfl (by simp [Value.oneCell']) hs34 rfl (Nat.le_of_ble_eq_true rfl) (fun w35 hs36 => ?_)
  refine w_nil ?_
  refine q_then (hK6 _ _ ?_)
  refine w_ret ?_
  refine q_ret (l := [.cell 2 25]) (vs := [_]) rfl ⟨⟨rfl, _, rfl, run_loadVarN (vs := [_, _, _]) Try.isAgg25 Try.sizeOf25 hs36 (ats_own (i := 6) (vs := [_, _, _]) rfl rfl)⟩, trivial⟩ ?_
  exact ⟨exP b17 b32 b20 b23 b26 b29, [_, _, _, _, _, _], rfl, ex_bin, kz_own (B := [_, _, _, _, _, _]) hs36⟩

theorem c22 {w0 w : World} {F : List (Nat × Obj)}  (hs : St w0 w F) :
  Con Try.prog 22 [] w fun v w' => v = .bool true ∧ St w0 w' F := by
  refine con_of_wc (n := 150) Try.func22 rfl rfl (Nat.le_of_ble_eq_true rfl) ?_
  refine w_seq (fun K2 hK1 => ?_)
  refine w_region ?_
  refine w_pure want_none (y_assign (v := _) rfl rfl) rfl ?_
  refine w_nil ?_
  refine q_then (hK1 _ _ ?_)
  refine w_seq (fun K4 hK3 => ?_)
  refine w_region ?_
  refine w_call want_none Try.call32 rfl rfl rfl rfl (c32 21 hs) ?_
  rintro _ w6 ⟨p1, L1, rfl, hq1, hs7⟩
  replace hs7 := (show St _ _ (L1 ++ (F)) from hs7)
  refine w_call want_none Try.call32 rfl rfl rfl rfl (c32 30 hs7) ?_
  rintro _ w9 ⟨p2, L2, rfl, hq2, hs10⟩
  replace hs10 := (show St _ _ (L2 ++ (L1 ++ (F))) from hs10)
  refine w_alloc (cs := [_, _, _]) want_none Try.zeroValue25 rfl hs10 (fun b11 w12 hs13 => ?_)
  refine w_alloc (cs := [_, _, _]) want_none Try.zeroValue25 rfl hs13 (fun b14 w15 hs16 => ?_)
  refine w_store (i := 1) (v := .agg #[.int _ _, .slice _ _ _, .slice _ _ _]) (vs := [_, _, _]) want_none Try.sizeOf25 rfl rfl rfl rfl rfl (by simp [Value.oneCell']) hs16 rfl (Nat.le_of_ble_eq_true rfl) (fun w17 hs18 => ?_)
  refine w_store (i := 0) (v := .agg #[.int _ _, .slice _ _ _, .slice _ _ _]) (vs := [_, _, _]) want_none Try.sizeOf25 rfl rfl rfl rfl rfl (by simp [Value.oneCell']) hs18 rfl (Nat.le_of_ble_eq_true rfl) (fun w19 hs20 => ?_)
  refine w_nil ?_
  refine q_then (hK3 _ _ ?_)
  refine w_seq (fun K22 hK21 => ?_)
  obtain ⟨Z, hZ, hsZ⟩ := gen_Z hs20
  have hP1 : Ats w0 Z b11 0 ((exB 21).cells p1) := by rw [hZ]; exact ats_own (i := 1) (vs := (exB 21).cells p1) rfl rfl
  have hM1 : BIn w0 Z (exB 21) p1 := by rw [hZ]; exact BIn.mono hq1 (fun w h => h.tail.tail.drop.front)
  have hP2 : Ats w0 Z b14 0 ((exB 30).cells p2) := by rw [hZ]; exact ats_own (i := 0) (vs := (exB 30).cells p2) rfl rfl
  have hM2 : BIn w0 Z (exB 30) p2 := by rw [hZ]; exact BIn.mono hq2 (fun w h => h.tail.tail.front)
  refine w_region ?_
  refine w_pure want_none (y_loadN (vs := [_, _, _]) Try.isAgg25 Try.sizeOf25 hsZ rfl rfl hP1) rfl ?_
  refine w_call want_none Try.call18 rfl rfl rfl rfl ((c18 (exB 21) p1 hM1 0 hsZ).mono (fun v w' h => by rw [ex_went1] at h; exact h)) ?_
  rintro _ w24 ⟨rfl, hs25⟩
  refine w_pure want_none (y_move (v := .tuple _) rfl rfl) rfl ?_
  refine w_pure want_none (y_extract (v := .agg _) rfl rfl rfl) rfl ?_
  refine w_pure want_none (y_extract (v := .int _ _) rfl rfl rfl) rfl ?_
  refine w_alloc (cs := [_, _]) want_none Try.zeroValue31 rfl hs25 (fun b26 w27 hs28 => ?_)
  refine w_store (i := 0) (v := .agg #[.int _ _, .int _ _]) (vs := [_, _]) want_none Try.sizeOf31 rfl rfl rfl rfl rfl (by simp [Value.oneCell']) hs28 rfl (Nat.le_of_ble_eq_true rfl) (fun w29 hs30 => ?_)
  refine w_pure want_none (y_assign (v := .int _ _) rfl rfl) rfl ?_
  refine w_nil ?_
  refine q_then (hK21 _ _ ?_)
  refine w_seq (fun K32 hK31 => ?_)
  have hx3 := ats_ofL (i := 0) (vs := [_, _]) hs30 rfl rfl
  refine w_region ?_
  refine w_pure want_none (y_loadN (vs := [_, _, _]) Try.isAgg25 Try.sizeOf25 hs30.tail rfl rfl hP1) rfl ?_
  refine w_call want_none Try.call20 rfl rfl rfl rfl ((c20 (exB 21) p1 hM1.cons 0 hs30).mono (fun v w' h => by rw [ex_hold1] at h; exact h)) ?_
  rintro _ w34 ⟨rfl, hs35⟩
  refine w_pure want_none (y_move (v := .tuple _) rfl rfl) rfl ?_
  refine w_pure want_none (y_extract (v := .agg _) rfl rfl rfl) rfl ?_
  refine w_pure want_none (y_extract (v := .int _ _) rfl rfl rfl) rfl ?_
  refine w_alloc (cs := [_, _]) want_none Try.zeroValue31 rfl hs35 (fun b36 w37 hs38 => ?_)
  refine w_store (i := 0) (v := .agg #[.int _ _, .int _ _]) (vs := [_, _]) want_none Try.sizeOf31 rfl rfl rfl rfl rfl (by simp [Value.oneCell']) hs38 rfl (Nat.le_of_ble_eq_true rfl) (fun w39 hs40 => ?_)
  refine w_pure want_none (y_assign (v := .int _ _) rfl rfl) rfl ?_
  refine w_nil ?_
  refine q_then (hK31 _ _ ?_)
  refine w_seq (fun K42 hK41 => ?_)
  have hx5 := ats_ofL (i := 0) (vs := [_, _]) hs40 rfl rfl
  refine w_region ?_
  refine w_pure want_none (y_loadN (vs := [_, _, _]) Try.isAgg25 Try.sizeOf25 hs40.tail.tail rfl rfl hP1) rfl ?_
  refine w_call want_none Try.call23 rfl rfl rfl rfl ((c23 (exB 21) p1 hM1.cons.cons 0 hs40).mono (fun v w' h => by rw [ex_right1] at h; exact h)) ?_
  rintro _ w44 ⟨rfl, hs45⟩
  refine w_pure want_none (y_move (v := .tuple _) rfl rfl) rfl ?_
  refine w_pure want_none (y_extract (v := .int _ _) rfl rfl rfl) rfl ?_
  refine w_pure want_none (y_extract (v := .int _ _) rfl rfl rfl) rfl ?_
  refine w_pure want_none (y_assign (v := .int _ _) rfl rfl) rfl ?_
  refine w_pure want_none (y_assign (v := .int _ _) rfl rfl) rfl ?_
  refine w_nil ?_
  refine q_then (hK41 _ _ ?_)
  refine w_seq (fun K47 hK46 => ?_)
  refine w_region ?_
  refine w_pure want_none (y_loadN (vs := [_, _, _]) Try.isAgg25 Try.sizeOf25 hs45.tail.tail rfl rfl hP1) rfl ?_
  refine w_call want_none Try.call23 rfl rfl rfl rfl ((c23 (exB 21) p1 hM1.cons.cons 1 hs45).mono (fun v w' h => by rw [ex_right2] at h; exact h)) ?_
  rintro _ w49 ⟨rfl, hs50⟩
  refine w_pure want_none (y_move (v := .tuple _) rfl rfl) rfl ?_
  refine w_pure want_none (y_extract (v := .int _ _) rfl rfl rfl) rfl ?_
  refine w_pure want_none (y_extract (v := .int _ _) rfl rfl rfl) rfl ?_
  refine w_pure want_none (y_assign (v := .int _ _) rfl rfl) rfl ?_
  refine w_pure want_none (y_assign (v := .int _ _) rfl rfl) rfl ?_
  refine w_nil ?_
  refine q_then (hK46 _ _ ?_)
  refine w_seq (fun K52 hK51 => ?_)
  refine w_region ?_
  refine w_pure want_none (y_loadN (vs := [_, _, _]) Try.isAgg25 Try.sizeOf25 hs50.tail.tail rfl rfl hP1) rfl ?_
  refine w_call want_none Try.call25 rfl rfl rfl rfl ((c25 (exB 21) p1 hM1.cons.cons 1 1 hs50).mono (fun v w' h => by rw [ex_zero1] at h; exact h)) ?_
  rintro _ w54 ⟨rfl, hs55⟩
  refine w_pure want_none (y_move (v := .tuple _) rfl rfl) rfl ?_
  refine w_pure want_none (y_extract (v := .int _ _) rfl rfl rfl) rfl ?_
  refine w_pure want_none (y_extract (v := .int _ _) rfl rfl rfl) rfl ?_
  refine w_pure want_none (y_assign (v := .int _ _) rfl rfl) rfl ?_
  refine w_pure want_none (y_assign (v := .int _ _) rfl rfl) rfl ?_
  refine w_nil ?_
  refine q_then (hK51 _ _ ?_)
  refine w_seq (fun K57 hK56 => ?_)
  refine w_region ?_
  refine w_pure want_none (y_loadN (vs := [_, _, _]) Try.isAgg25 Try.sizeOf25 hs55.tail.tail rfl rfl hP1) rfl ?_
  refine w_call want_none Try.call27 rfl rfl rfl rfl ((c27 (exB 21) p1 hM1.cons.cons 0 0 hs55).mono (fun v w' h => by rw [ex_looks1] at h; exact h)) ?_
  rintro _ w59 ⟨B1, a1, c1, rfl, hr1, hs60⟩
  replace hs60 := (show St _ _ (B1 ++ (_ :: _ :: Z)) from hs60)
  refine w_pure want_none (y_move (v := .tuple _) rfl rfl) rfl ?_
  refine w_pure want_none (y_extract (v := .slice _ _ _) rfl rfl rfl) rfl ?_
  refine w_pure want_none (y_extract (v := .int _ _) rfl rfl rfl) rfl ?_
  refine w_pure want_none (y_assign (v := .slice _ _ _) rfl rfl) rfl ?_
  refine w_pure want_none (y_assign (v := .int _ _) rfl rfl) rfl ?_
  refine w_nil ?_
  refine q_then (hK56 _ _ ?_)
  refine w_seq (fun K62 hK61 => ?_)
  refine w_region ?_
  refine w_pure want_none (y_loadN (vs := [_, _, _]) Try.isAgg25 Try.sizeOf25 hs60.drop.tail.tail rfl rfl hP1) rfl ?_
  refine w_call want_none Try.call27 rfl rfl rfl rfl ((c27 (exB 21) p1 hM1.cons.cons.app 0 1 hs60).mono (fun v w' h => by rw [ex_looks2] at h; exact h)) ?_
  rintro _ w64 ⟨B2, a2, c2, rfl, hr2, hs65⟩
  replace hs65 := (show St _ _ (B2 ++ (B1 ++ (_ :: _ :: Z))) from hs65)
  refine w_pure want_none (y_move (v := .tuple _) rfl rfl) rfl ?_
  refine w_pure want_none (y_extract (v := .slice _ _ _) rfl rfl rfl) rfl ?_
  refine w_pure want_none (y_extract (v := .int _ _) rfl rfl rfl) rfl ?_
  refine w_pure want_none (y_assign (v := .slice _ _ _) rfl rfl) rfl ?_
  refine w_pure want_none (y_assign (v := .int _ _) rfl rfl) rfl ?_
  refine w_nil ?_
  refine q_then (hK61 _ _ ?_)
  refine w_seq (fun K67 hK66 => ?_)
  refine w_region ?_
  refine w_pure want_none (y_loadN (vs := [_, _, _]) Try.isAgg25 Try.sizeOf25 hs65.drop.drop.tail.tail rfl rfl hP2) rfl ?_
  refine w_call want_none Try.call30 rfl rfl rfl rfl ((c30 (exB 30) p2 hM2.cons.cons.app.app hs65).mono (fun v w' h => by rw [ex_wrong1] at h; exact h)) ?_
  rintro _ w69 ⟨B3, a3, c3, rfl, hr3, hs70⟩
  replace hs70 := (show St _ _ (B3 ++ (B2 ++ (B1 ++ (_ :: _ :: Z)))) from hs70)
  refine w_pure want_none (y_move (v := .tuple _) rfl rfl) rfl ?_
  refine w_pure want_none (y_extract (v := .slice _ _ _) rfl rfl rfl) rfl ?_
  refine w_pure want_none (y_extract (v := .int _ _) rfl rfl rfl) rfl ?_
  refine w_pure want_none (y_assign (v := .slice _ _ _) rfl rfl) rfl ?_
  refine w_pure want_none (y_assign (v := .int _ _) rfl rfl) rfl ?_
  refine w_nil ?_
  refine q_then (hK66 _ _ ?_)
  refine w_seq (fun K72 hK71 => ?_)
  refine w_region ?_
  refine w_pure want_none (y_loadN (vs := [_, _, _]) Try.isAgg25 Try.sizeOf25 hs70.drop.drop.drop.tail.tail rfl rfl hP2) rfl ?_
  refine w_call want_none Try.call18 rfl rfl rfl rfl ((c18 (exB 30) p2 hM2.cons.cons.app.app.app 0 hs70).mono (fun v w' h => by rw [ex_went2] at h; exact h)) ?_
  rintro _ w74 ⟨rfl, hs75⟩
  refine w_pure want_none (y_move (v := .tuple _) rfl rfl) rfl ?_
  refine w_pure want_none (y_extract (v := .agg _) rfl rfl rfl) rfl ?_
  refine w_pure want_none (y_extract (v := .int _ _) rfl rfl rfl) rfl ?_
  refine w_alloc (cs := [_, _]) want_none Try.zeroValue31 rfl hs75 (fun b76 w77 hs78 => ?_)
  refine w_store (i := 0) (v := .agg #[.int _ _, .int _ _]) (vs := [_, _]) want_none Try.sizeOf31 rfl rfl rfl rfl rfl (by simp [Value.oneCell']) hs78 rfl (Nat.le_of_ble_eq_true rfl) (fun w79 hs80 => ?_)
  refine w_pure want_none (y_assign (v := .int _ _) rfl rfl) rfl ?_
  refine w_nil ?_
  refine q_then (hK71 _ _ ?_)
  refine w_seq (fun K82 hK81 => ?_)
  refine w_region ?_
  refine w_pure want_none (y_loadN (vs := [_, _, _]) Try.isAgg25 Try.sizeOf25 hs80.tail.drop.drop.drop.tail.tail rfl rfl hP1) rfl ?_
  refine w_call want_none Try.call27 rfl rfl rfl rfl ((c27 (exB 21) p1 hM1.cons.cons.app.app.app.cons 0 (-1) hs80).mono (fun v w' h => by rw [ex_looks3] at h; exact h)) ?_
  rintro _ w84 ⟨B4, a4, c4, rfl, hr4, hs85⟩
  replace hs85 := (show St _ _ (B4 ++ (_ :: B3 ++ (B2 ++ (B1 ++ (_ :: _ :: Z))))) from hs85)
  refine w_pure want_none (y_move (v := .tuple _) rfl rfl) rfl ?_
  refine w_pure want_none (y_extract (v := .slice _ _ _) rfl rfl rfl) rfl ?_
  refine w_pure want_none (y_extract (v := .int _ _) rfl rfl rfl) rfl ?_
  refine w_pure want_none (y_assign (v := .slice _ _ _) rfl rfl) rfl ?_
  refine w_pure want_none (y_assign (v := .int _ _) rfl rfl) rfl ?_
  refine w_nil ?_
  refine q_then (hK81 _ _ ?_)
  refine w_seq (fun K87 hK86 => ?_)
  refine w_draw [] [(0, 0), (1, 0), (2, 0), (3, 0), (4, 0), (5, 0), (6, 0), (7, 0), (8, 0), (9, 0), (10, 0), (11, 0), (12, 0), (13, 0), (14, 0), (15, 0), (16, 0), (17, 0), (18, 0), (19, 0), (20, 0), (21, 0), (22, 0), (23, 0), (24, 0), (25, 0), (26, 0), (27, 0), (28, 0), (29, 0), (30, 0), (31, 0), (32, 0), (33, 0), (34, 0), (35, 0), (36, 0), (37, 0), (38, 0), (39, 1), (40, 2), (41, 0), (42, 0), (43, 0), (44, 1), (45, 2), (46, 0), (47, 0), (48, 0), (49, 0), (50, 0), (51, 0), (52, 0), (53, 0), (54, 0), (55, 0), (56, 0), (57, 0), (58, 0), (59, 0), (60, 0), (61, 0), (62, 2), (63, 2), (64, 0), (65, 0), (66, 0), (67, 0), (68, 0), (69, 0), (70, 0), (71, 0), (72, 2), (73, 2), (74, 0), (75, 0)] Try_mo (drawOK_of (by kernel_rfl)) hs85 (fun w88 hs89 => ?_)
  refine d_any rfl want_none rfl (fun _ => (y_move (v := .int _ _) rfl rfl)) ?_
  refine d_any rfl want_none rfl (fun _ => (y_eql rfl rfl rfl rfl)) ?_
  refine d_any rfl want_none rfl (fun _ => (y_move (v := .bool _) rfl rfl)) ?_
  refine d_any rfl (want_yes rfl rfl rfl) rfl (fun _ => (y_move (v := .int _ _) rfl rfl)) ?_
  refine d_any rfl (want_yes rfl rfl rfl) rfl (fun _ => (y_eql rfl rfl rfl rfl)) ?_
  refine d_any rfl want_none rfl (fun _ => (y_pickT (v := .bool _) rfl rfl rfl rfl)) ?_
  refine d_any rfl want_none rfl (fun _ => (y_move (v := .bool _) rfl rfl)) ?_
  refine d_any rfl (want_yes rfl rfl rfl) rfl (fun _ => (y_move (v := .int _ _) rfl rfl)) ?_
  refine d_any rfl (want_yes rfl rfl rfl) rfl (fun _ => (y_eql rfl rfl rfl rfl)) ?_
  refine d_any rfl want_none rfl (fun _ => (y_pickT (v := .bool _) rfl rfl rfl rfl)) ?_
  refine d_any rfl want_none rfl (fun _ => (y_move (v := .bool _) rfl rfl)) ?_
  refine d_any rfl (want_yes rfl rfl rfl) rfl (fun _ => (y_move (v := .int _ _) rfl rfl)) ?_
  refine d_any rfl (want_yes rfl rfl rfl) rfl (fun _ => (y_eql rfl rfl rfl rfl)) ?_
  refine d_any rfl want_none rfl (fun _ => (y_pickT (v := .bool _) rfl rfl rfl rfl)) ?_
  refine d_any rfl want_none rfl (fun _ => (y_move (v := .bool _) rfl rfl)) ?_
  refine d_any rfl (want_yes rfl rfl rfl) rfl (fun _ => (y_move (v := .int _ _) rfl rfl)) ?_
  refine d_any rfl (want_yes rfl rfl rfl) rfl (fun _ => (y_eql rfl rfl rfl rfl)) ?_
  refine d_any rfl want_none rfl (fun _ => (y_pickT (v := .bool _) rfl rfl rfl rfl)) ?_
  refine d_any rfl want_none rfl (fun _ => (y_move (v := .bool _) rfl rfl)) ?_
  refine d_any rfl (want_yes rfl rfl rfl) rfl (fun _ => (y_move (v := .int _ _) rfl rfl)) ?_
  refine d_any rfl (want_yes rfl rfl rfl) rfl (fun _ => (y_eql rfl rfl rfl rfl)) ?_
  refine d_any rfl want_none rfl (fun _ => (y_pickT (v := .bool _) rfl rfl rfl rfl)) ?_
  refine d_any rfl want_none rfl (fun _ => (y_move (v := .bool _) rfl rfl)) ?_
  refine d_any rfl (want_yes rfl rfl rfl) rfl (fun _ => (y_move (v := .int _ _) rfl rfl)) ?_
  refine d_any rfl (want_yes rfl rfl rfl) rfl (fun _ => (y_eql rfl rfl rfl rfl)) ?_
  refine d_any rfl want_none rfl (fun _ => (y_pickT (v := .bool _) rfl rfl rfl rfl)) ?_
  refine d_any rfl want_none rfl (fun _ => (y_move (v := .bool _) rfl rfl)) ?_
  refine d_any rfl (want_yes rfl rfl rfl) rfl (fun _ => (y_move (v := .int _ _) rfl rfl)) ?_
  refine d_any rfl (want_yes rfl rfl rfl) rfl (fun _ => (y_eql rfl rfl rfl rfl)) ?_
  refine d_any rfl want_none rfl (fun _ => (y_pickT (v := .bool _) rfl rfl rfl rfl)) ?_
  refine d_any rfl want_none rfl (fun _ => (y_move (v := .bool _) rfl rfl)) ?_
  refine d_any rfl (want_yes rfl rfl rfl) rfl (fun _ => (y_move (v := .int _ _) rfl rfl)) ?_
  refine d_any rfl (want_yes rfl rfl rfl) rfl (fun _ => (y_eql rfl rfl rfl rfl)) ?_
  refine d_any rfl want_none rfl (fun _ => (y_pickT (v := .bool _) rfl rfl rfl rfl)) ?_
  refine d_any rfl want_none rfl (fun _ => (y_move (v := .bool _) rfl rfl)) ?_
  refine d_any rfl (want_yes rfl rfl rfl) rfl (fun _ => (y_move (v := .int _ _) rfl rfl)) ?_
  refine d_any rfl (want_yes rfl rfl rfl) rfl (fun _ => (y_eql rfl rfl rfl rfl)) ?_
  refine d_any rfl want_none rfl (fun _ => (y_pickT (v := .bool _) rfl rfl rfl rfl)) ?_
  refine d_any rfl want_none rfl (fun _ => (y_move (v := .bool _) rfl rfl)) ?_
  refine d_take rfl (want_yes rfl rfl rfl) rfl hs89 (fun _ hq => (y_loadN (vs := [_, _]) Try.isAgg31 Try.sizeOf31 hq.drop.tail.drop.drop.drop.tail rfl rfl hx3)) ?_
  refine d_eff rfl ?_
  refine w_call (want_yes rfl rfl rfl) Try.call33 rfl rfl rfl rfl (c33 _ _ hs89) ?_
  rintro _ w91 ⟨rfl, hs92⟩
  refine w_nil ?_
  refine qn ⟨hs92, ?_⟩
  refine d_any rfl (want_yes rfl rfl rfl) rfl (fun _ => (y_eqFlat (l := [_, _]) (m := [_, _]) Try.eqGuardType31 Try_flat31 (by first | omega | rfl | (simp only [List.length_map, List.length_set, List.length_append, List.length_take, List.length_drop, List.length_replicate, List.length_cons, List.length_nil] <;> omega)) (by first | omega | rfl | (simp only [List.length_map, List.length_set, List.length_append, List.length_take, List.length_drop, List.length_replicate, List.length_cons, List.length_nil] <;> omega)) rfl rfl rfl rfl rfl rfl)) ?_
  refine d_any rfl want_none rfl (fun _ => (y_pickT (v := .bool _) rfl rfl rfl rfl)) ?_
  refine d_any rfl want_none rfl (fun _ => (y_move (v := .bool _) rfl rfl)) ?_
  refine d_split (fun h93 => ?_) (fun h93 => ?_)
  ·
   try simp only [Bool.not_eq_true', Bool.not_eq_false', decide_eq_true_eq, decide_eq_false_iff_not, Int.not_lt, Int.not_le] at h93
   refine d_take rfl (want_yes rfl rfl rfl) rfl hs92 (fun _ hq => (y_loadN (vs := [_, _]) Try.isAgg31 Try.sizeOf31 hq.drop.tail.drop.drop.drop rfl rfl hx5)) ?_
   refine d_eff rfl ?_
   refine w_call (want_yes rfl rfl rfl) Try.call33 rfl rfl rfl rfl (c33 _ _ hs92) ?_
   rintro _ w95 ⟨rfl, hs96⟩
   refine w_nil ?_
   refine qn ⟨hs96, ?_⟩
   refine d_any rfl (want_yes rfl rfl rfl) rfl (fun _ => (y_eqFlat (l := [_, _]) (m := [_, _]) Try.eqGuardType31 Try_flat31 (by first | omega | rfl | (simp only [List.length_map, List.length_set, List.length_append, List.length_take, List.length_drop, List.length_replicate, List.length_cons, List.length_nil] <;> omega)) (by first | omega | rfl | (simp only [List.length_map, List.length_set, List.length_append, List.length_take, List.length_drop, List.length_replicate, List.length_cons, List.length_nil] <;> omega)) rfl rfl rfl rfl rfl rfl)) ?_
   refine d_any rfl want_none rfl (fun _ => (y_pickT (v := .bool _) rfl rfl rfl rfl)) ?_
   refine d_any rfl want_none rfl (fun _ => (y_move (v := .bool _) rfl rfl)) ?_
   refine d_split (fun h97 => ?_) (fun h97 => ?_)
   ·
    try simp only [Bool.not_eq_true', Bool.not_eq_false', decide_eq_true_eq, decide_eq_false_iff_not, Int.not_lt, Int.not_le] at h97
    refine d_any rfl (want_yes rfl rfl rfl) rfl (fun _ => (y_move (v := .int _ _) rfl rfl)) ?_
    refine d_any rfl (want_yes rfl rfl rfl) rfl (fun _ => (y_eql rfl rfl rfl rfl)) ?_
    refine d_any rfl want_none rfl (fun _ => (y_pickT (v := .bool _) rfl rfl rfl rfl)) ?_
    refine d_any rfl want_none rfl (fun _ => (y_move (v := .bool _) rfl rfl)) ?_
    refine d_any rfl (want_yes rfl rfl rfl) rfl (fun _ => (y_move (v := .int _ _) rfl rfl)) ?_
    refine d_any rfl (want_yes rfl rfl rfl) rfl (fun _ => (y_eql rfl rfl rfl rfl)) ?_
    refine d_any rfl want_none rfl (fun _ => (y_pickT (v := .bool _) rfl rfl rfl rfl)) ?_
    refine d_any rfl want_none rfl (fun _ => (y_move (v := .bool _) rfl rfl)) ?_
    refine d_any rfl (want_yes rfl rfl rfl) rfl (fun _ => (y_move (v := .int _ _) rfl rfl)) ?_
    refine d_any rfl (want_yes rfl rfl rfl) rfl (fun _ => (y_eql rfl rfl rfl rfl)) ?_
    refine d_any rfl want_none rfl (fun _ => (y_pickT (v := .bool _) rfl rfl rfl rfl)) ?_
    refine d_any rfl want_none rfl (fun _ => (y_move (v := .bool _) rfl rfl)) ?_
    refine d_any rfl (want_yes rfl rfl rfl) rfl (fun _ => (y_move (v := .slice _ _ _) rfl rfl)) ?_
    refine d_eff rfl ?_
    refine w_bslice (ps := [(0, _)]) (pv := [(0, .int _ _)]) (cs := [_]) (want_yes rfl rfl rfl) rfl rfl (fun w => Try_Ya_fb17 _ w) hs96 (fun b98 w99 hs100 => ?_)
    refine w_nil ?_
    refine qn ⟨hs100.tail, ?_⟩
    refine d_eff rfl ?_
    refine w_call (want_yes rfl rfl rfl) Try.call29 rfl rfl rfl rfl (con_true (c29 _ _ [0] [0] _ _ (by decide) hr1.top.app.app.cons.app.cons (sl_own (i := 0) (rows := [[_]]) rfl (by simp) rfl) hs100) (by decide)) ?_
    rintro _ w102 ⟨rfl, hs103⟩
    refine w_nil ?_
    refine qn ⟨hs103.tail, ?_⟩
    refine d_any rfl want_none rfl (fun _ => (y_pickT (v := .bool _) rfl rfl rfl rfl)) ?_
    refine d_any rfl want_none rfl (fun _ => (y_move (v := .bool _) rfl rfl)) ?_
    refine d_any rfl (want_yes rfl rfl rfl) rfl (fun _ => (y_move (v := .slice _ _ _) rfl rfl)) ?_
    refine d_any rfl (want_yes rfl rfl rfl) rfl (fun _ => (y_lenS Try.underlying39 rfl rfl)) ?_
    refine d_any rfl (want_yes rfl rfl rfl) rfl (fun _ => (y_eql rfl rfl rfl rfl)) ?_
    refine d_any rfl want_none rfl (fun _ => (y_pickT (v := .bool _) rfl rfl rfl rfl)) ?_
    refine d_any rfl want_none rfl (fun _ => (y_move (v := .bool _) rfl rfl)) ?_
    refine d_split (fun h104 => ?_) (fun h104 => ?_)
    ·
     try simp only [Bool.not_eq_true', Bool.not_eq_false', decide_eq_true_eq, decide_eq_false_iff_not, Int.not_lt, Int.not_le] at h104
     refine d_any rfl (want_yes rfl rfl rfl) rfl (fun _ => (y_move (v := .slice _ _ _) rfl rfl)) ?_
     refine d_eff rfl ?_
     refine w_bslice (ps := [(0, _)]) (pv := [(0, .int _ _)]) (cs := [_]) (want_yes rfl rfl rfl) rfl rfl (fun w => Try_Ya_fb17 _ w) hs103 (fun b105 w106 hs107 => ?_)
     refine w_nil ?_
     refine qn ⟨hs107.tail.tail, ?_⟩
     refine d_eff rfl ?_
     refine w_call (want_yes rfl rfl rfl) Try.call29 rfl rfl rfl rfl (con_true (c29 _ _ [5] [5] _ _ (by decide) hr3.top.cons.app.cons.cons (sl_own (i := 0) (rows := [[_]]) rfl (by simp) rfl) hs107) (by decide)) ?_
     rintro _ w109 ⟨rfl, hs110⟩
     refine w_nil ?_
     refine qn ⟨hs110.tail.tail, ?_⟩
     refine d_any rfl want_none rfl (fun _ => (y_pickT (v := .bool _) rfl rfl rfl rfl)) ?_
     refine d_any rfl want_none rfl (fun _ => (y_assign (v := .bool _) rfl rfl)) ?_
     refine d_nil ?_
     refine q_then (hK86 _ _ ?_)
     refine w_ret ?_
     refine q_ret (l := [.tmp 0]) (vs := [_]) rfl ⟨⟨rfl, show _ = (.bool _ : Value) from rfl⟩, trivial⟩ ?_
     exact ⟨rfl, (St.cast hZ hs110.tail.tail.drop.tail.drop.drop.drop.tail.tail).tail.tail.drop.drop⟩
    ·
     exfalso; simp at h104
   ·
    exfalso; simp at h97
  ·
   exfalso; simp at h93

end Go.Proofs
/- Walks of this seat, printed by gen.py over the engine: what each function returns, in whatever world. No conditions but those of each contract. -/
set_option linter.unusedVariables false
set_option linter.unusedSimpArgs false
set_option maxRecDepth 20000
namespace Go.Proofs
open Go.Rt Go.Rt.Ch
open Go.Rt.Ha (firstE firstE_step firstE_stop firstE_end failE nameE felt spanL upto span_mem listL fewest fewTo bit before fewStep drop_lt drop_get drop_next drop_done drop_notin set_take set_zero take_less)
attribute [local irreducible] WL WC Con Yd At Ats Sl Agree DW

theorem c7 {w0 w : World} {F : List (Nat × Obj)}  (hs : St w0 w F) :
  Con Try.prog 7 [] w fun v w' => v = .bool true ∧ St w0 w' F := by
  refine con_of_wc (n := 99) Try.func7 rfl rfl (Nat.le_of_ble_eq_true rfl) ?_
  refine w_seq (fun K2 hK1 => ?_)
  refine w_region ?_
  refine w_pure want_none (y_assign (v := _) rfl rfl) rfl ?_
  refine w_nil ?_
  refine q_then (hK1 _ _ ?_)
  refine w_seq (fun K4 hK3 => ?_)
  refine w_region ?_
  refine w_call want_none Try.call32 rfl rfl rfl rfl (c32 21 hs) ?_
  rintro _ w6 ⟨p1, L1, rfl, hq1, hs7⟩
  replace hs7 := (show St _ _ (L1 ++ (F)) from hs7)
  refine w_alloc (cs := [_, _, _]) want_none Try.zeroValue25 rfl hs7 (fun b8 w9 hs10 => ?_)
  refine w_store (i := 0) (v := .agg #[.int _ _, .slice _ _ _, .slice _ _ _]) (vs := [_, _, _]) want_none Try.sizeOf25 rfl rfl rfl rfl rfl (by simp [Value.oneCell']) hs10 rfl (Nat.le_of_ble_eq_true rfl) (fun w11 hs12 => ?_)
  refine w_nil ?_
  refine q_then (hK3 _ _ ?_)
  refine w_seq (fun K14 hK13 => ?_)
  obtain ⟨Z, hZ, hsZ⟩ := gen_Z hs12
  have hP1 : Ats w0 Z b8 0 ((exB 21).cells p1) := by rw [hZ]; exact ats_own (i := 0) (vs := (exB 21).cells p1) rfl rfl
  have hM1 : BIn w0 Z (exB 21) p1 := by rw [hZ]; exact BIn.mono hq1 (fun w h => h.tail.front)
  refine w_region ?_
  refine w_pure want_none (y_loadN (vs := [_, _, _]) Try.isAgg25 Try.sizeOf25 hsZ rfl rfl hP1) rfl ?_
  refine w_call want_none Try.call18 rfl rfl rfl rfl ((c18 (exB 21) p1 hM1 1 hsZ).mono (fun v w' h => by rw [ex_went3] at h; exact h)) ?_
  rintro _ w16 ⟨rfl, hs17⟩
  refine w_pure want_none (y_move (v := .tuple _) rfl rfl) rfl ?_
  refine w_pure want_none (y_extract (v := .agg _) rfl rfl rfl) rfl ?_
  refine w_pure want_none (y_extract (v := .int _ _) rfl rfl rfl) rfl ?_
  refine w_alloc (cs := [_, _]) want_none Try.zeroValue31 rfl hs17 (fun b18 w19 hs20 => ?_)
  refine w_store (i := 0) (v := .agg #[.int _ _, .int _ _]) (vs := [_, _]) want_none Try.sizeOf31 rfl rfl rfl rfl rfl (by simp [Value.oneCell']) hs20 rfl (Nat.le_of_ble_eq_true rfl) (fun w21 hs22 => ?_)
  refine w_pure want_none (y_assign (v := .int _ _) rfl rfl) rfl ?_
  refine w_nil ?_
  refine q_then (hK13 _ _ ?_)
  refine w_seq (fun K24 hK23 => ?_)
  have hx2 := ats_ofL (i := 0) (vs := [_, _]) hs22 rfl rfl
  refine w_region ?_
  refine w_pure want_none (y_loadN (vs := [_, _, _]) Try.isAgg25 Try.sizeOf25 hs22.tail rfl rfl hP1) rfl ?_
  refine w_call want_none Try.call18 rfl rfl rfl rfl ((c18 (exB 21) p1 hM1.cons 2 hs22).mono (fun v w' h => by rw [ex_went4] at h; exact h)) ?_
  rintro _ w26 ⟨rfl, hs27⟩
  refine w_pure want_none (y_move (v := .tuple _) rfl rfl) rfl ?_
  refine w_pure want_none (y_extract (v := .agg _) rfl rfl rfl) rfl ?_
  refine w_pure want_none (y_extract (v := .int _ _) rfl rfl rfl) rfl ?_
  refine w_alloc (cs := [_, _]) want_none Try.zeroValue31 rfl hs27 (fun b28 w29 hs30 => ?_)
  refine w_store (i := 0) (v := .agg #[.int _ _, .int _ _]) (vs := [_, _]) want_none Try.sizeOf31 rfl rfl rfl rfl rfl (by simp [Value.oneCell']) hs30 rfl (Nat.le_of_ble_eq_true rfl) (fun w31 hs32 => ?_)
  refine w_pure want_none (y_assign (v := .int _ _) rfl rfl) rfl ?_
  refine w_nil ?_
  refine q_then (hK23 _ _ ?_)
  refine w_seq (fun K34 hK33 => ?_)
  have hx4 := ats_ofL (i := 0) (vs := [_, _]) hs32 rfl rfl
  refine w_region ?_
  refine w_pure want_none (y_loadN (vs := [_, _, _]) Try.isAgg25 Try.sizeOf25 hs32.tail.tail rfl rfl hP1) rfl ?_
  refine w_call want_none Try.call20 rfl rfl rfl rfl ((c20 (exB 21) p1 hM1.cons.cons 1 hs32).mono (fun v w' h => by rw [ex_hold2] at h; exact h)) ?_
  rintro _ w36 ⟨rfl, hs37⟩
  refine w_pure want_none (y_move (v := .tuple _) rfl rfl) rfl ?_
  refine w_pure want_none (y_extract (v := .agg _) rfl rfl rfl) rfl ?_
  refine w_pure want_none (y_extract (v := .int _ _) rfl rfl rfl) rfl ?_
  refine w_alloc (cs := [_, _]) want_none Try.zeroValue31 rfl hs37 (fun b38 w39 hs40 => ?_)
  refine w_store (i := 0) (v := .agg #[.int _ _, .int _ _]) (vs := [_, _]) want_none Try.sizeOf31 rfl rfl rfl rfl rfl (by simp [Value.oneCell']) hs40 rfl (Nat.le_of_ble_eq_true rfl) (fun w41 hs42 => ?_)
  refine w_pure want_none (y_assign (v := .int _ _) rfl rfl) rfl ?_
  refine w_nil ?_
  refine q_then (hK33 _ _ ?_)
  refine w_seq (fun K44 hK43 => ?_)
  have hx6 := ats_ofL (i := 0) (vs := [_, _]) hs42 rfl rfl
  refine w_region ?_
  refine w_pure want_none (y_loadN (vs := [_, _, _]) Try.isAgg25 Try.sizeOf25 hs42.tail.tail.tail rfl rfl hP1) rfl ?_
  refine w_call want_none Try.call25 rfl rfl rfl rfl ((c25 (exB 21) p1 hM1.cons.cons.cons 1 2 hs42).mono (fun v w' h => by rw [ex_zero2] at h; exact h)) ?_
  rintro _ w46 ⟨rfl, hs47⟩
  refine w_pure want_none (y_move (v := .tuple _) rfl rfl) rfl ?_
  refine w_pure want_none (y_extract (v := .int _ _) rfl rfl rfl) rfl ?_
  refine w_pure want_none (y_extract (v := .int _ _) rfl rfl rfl) rfl ?_
  refine w_pure want_none (y_assign (v := .int _ _) rfl rfl) rfl ?_
  refine w_pure want_none (y_assign (v := .int _ _) rfl rfl) rfl ?_
  refine w_nil ?_
  refine q_then (hK43 _ _ ?_)
  refine w_seq (fun K49 hK48 => ?_)
  refine w_region ?_
  refine w_pure want_none (y_loadN (vs := [_, _, _]) Try.isAgg25 Try.sizeOf25 hs47.tail.tail.tail rfl rfl hP1) rfl ?_
  refine w_call want_none Try.call27 rfl rfl rfl rfl ((c27 (exB 21) p1 hM1.cons.cons.cons 1 0 hs47).mono (fun v w' h => by rw [ex_looks4] at h; exact h)) ?_
  rintro _ w51 ⟨B1, a1, c1, rfl, hr1, hs52⟩
  replace hs52 := (show St _ _ (B1 ++ (_ :: _ :: _ :: Z)) from hs52)
  refine w_pure want_none (y_move (v := .tuple _) rfl rfl) rfl ?_
  refine w_pure want_none (y_extract (v := .slice _ _ _) rfl rfl rfl) rfl ?_
  refine w_pure want_none (y_extract (v := .int _ _) rfl rfl rfl) rfl ?_
  refine w_pure want_none (y_assign (v := .slice _ _ _) rfl rfl) rfl ?_
  refine w_pure want_none (y_assign (v := .int _ _) rfl rfl) rfl ?_
  refine w_nil ?_
  refine q_then (hK48 _ _ ?_)
  refine w_seq (fun K54 hK53 => ?_)
  refine w_region ?_
  refine w_pure want_none (y_loadN (vs := [_, _, _]) Try.isAgg25 Try.sizeOf25 hs52.drop.tail.tail.tail rfl rfl hP1) rfl ?_
  refine w_call want_none Try.call30 rfl rfl rfl rfl ((c30 (exB 21) p1 hM1.cons.cons.cons.app hs52).mono (fun v w' h => by rw [ex_wrong2] at h; exact h)) ?_
  rintro _ w56 ⟨B2, a2, c2, rfl, hr2, hs57⟩
  replace hs57 := (show St _ _ (B2 ++ (B1 ++ (_ :: _ :: _ :: Z))) from hs57)
  refine w_pure want_none (y_move (v := .tuple _) rfl rfl) rfl ?_
  refine w_pure want_none (y_extract (v := .slice _ _ _) rfl rfl rfl) rfl ?_
  refine w_pure want_none (y_extract (v := .int _ _) rfl rfl rfl) rfl ?_
  refine w_pure want_none (y_assign (v := .slice _ _ _) rfl rfl) rfl ?_
  refine w_pure want_none (y_assign (v := .int _ _) rfl rfl) rfl ?_
  refine w_nil ?_
  refine q_then (hK53 _ _ ?_)
  refine w_seq (fun K59 hK58 => ?_)
  refine w_draw [] [(0, 0), (1, 0), (2, 0), (3, 0), (4, 0), (5, 0), (6, 0), (7, 0), (8, 0), (9, 0), (10, 0), (11, 0), (12, 0), (13, 0), (14, 0), (15, 0), (16, 0), (17, 0), (18, 0), (19, 0), (20, 0), (21, 0), (22, 0), (23, 1), (24, 2), (25, 0), (26, 0), (27, 0), (28, 1), (29, 2), (30, 0), (31, 0), (32, 0), (33, 1), (34, 2), (35, 0), (36, 0), (37, 0), (38, 0), (39, 0), (40, 0), (41, 0), (42, 0), (43, 0), (44, 0), (45, 0), (46, 0), (47, 0), (48, 0), (49, 0), (50, 0), (51, 0), (52, 2), (53, 0), (54, 0)] Try_mo (drawOK_of (by kernel_rfl)) hs57 (fun w60 hs61 => ?_)
  refine d_any rfl want_none rfl (fun _ => (y_move (v := .int _ _) rfl rfl)) ?_
  refine d_any rfl want_none rfl (fun _ => (y_eql rfl rfl rfl rfl)) ?_
  refine d_any rfl want_none rfl (fun _ => (y_move (v := .bool _) rfl rfl)) ?_
  refine d_any rfl (want_yes rfl rfl rfl) rfl (fun _ => (y_move (v := .int _ _) rfl rfl)) ?_
  refine d_any rfl (want_yes rfl rfl rfl) rfl (fun _ => (y_eql rfl rfl rfl rfl)) ?_
  refine d_any rfl want_none rfl (fun _ => (y_pickT (v := .bool _) rfl rfl rfl rfl)) ?_
  refine d_any rfl want_none rfl (fun _ => (y_move (v := .bool _) rfl rfl)) ?_
  refine d_any rfl (want_yes rfl rfl rfl) rfl (fun _ => (y_move (v := .int _ _) rfl rfl)) ?_
  refine d_any rfl (want_yes rfl rfl rfl) rfl (fun _ => (y_eql rfl rfl rfl rfl)) ?_
  refine d_any rfl want_none rfl (fun _ => (y_pickT (v := .bool _) rfl rfl rfl rfl)) ?_
  refine d_any rfl want_none rfl (fun _ => (y_move (v := .bool _) rfl rfl)) ?_
  refine d_any rfl (want_yes rfl rfl rfl) rfl (fun _ => (y_move (v := .int _ _) rfl rfl)) ?_
  refine d_any rfl (want_yes rfl rfl rfl) rfl (fun _ => (y_eql rfl rfl rfl rfl)) ?_
  refine d_any rfl want_none rfl (fun _ => (y_pickT (v := .bool _) rfl rfl rfl rfl)) ?_
  refine d_any rfl want_none rfl (fun _ => (y_move (v := .bool _) rfl rfl)) ?_
  refine d_any rfl (want_yes rfl rfl rfl) rfl (fun _ => (y_move (v := .int _ _) rfl rfl)) ?_
  refine d_any rfl (want_yes rfl rfl rfl) rfl (fun _ => (y_eql rfl rfl rfl rfl)) ?_
  refine d_any rfl want_none rfl (fun _ => (y_pickT (v := .bool _) rfl rfl rfl rfl)) ?_
  refine d_any rfl want_none rfl (fun _ => (y_move (v := .bool _) rfl rfl)) ?_
  refine d_any rfl (want_yes rfl rfl rfl) rfl (fun _ => (y_move (v := .int _ _) rfl rfl)) ?_
  refine d_any rfl (want_yes rfl rfl rfl) rfl (fun _ => (y_eql rfl rfl rfl rfl)) ?_
  refine d_any rfl want_none rfl (fun _ => (y_pickT (v := .bool _) rfl rfl rfl rfl)) ?_
  refine d_any rfl want_none rfl (fun _ => (y_move (v := .bool _) rfl rfl)) ?_
  refine d_take rfl (want_yes rfl rfl rfl) rfl hs61 (fun _ hq => (y_loadN (vs := [_, _]) Try.isAgg31 Try.sizeOf31 hq.drop.drop.tail.tail rfl rfl hx2)) ?_
  refine d_eff rfl ?_
  refine w_call (want_yes rfl rfl rfl) Try.call33 rfl rfl rfl rfl (c33 _ _ hs61) ?_
  rintro _ w63 ⟨rfl, hs64⟩
  refine w_nil ?_
  refine qn ⟨hs64, ?_⟩
  refine d_any rfl (want_yes rfl rfl rfl) rfl (fun _ => (y_eqFlat (l := [_, _]) (m := [_, _]) Try.eqGuardType31 Try_flat31 (by first | omega | rfl | (simp only [List.length_map, List.length_set, List.length_append, List.length_take, List.length_drop, List.length_replicate, List.length_cons, List.length_nil] <;> omega)) (by first | omega | rfl | (simp only [List.length_map, List.length_set, List.length_append, List.length_take, List.length_drop, List.length_replicate, List.length_cons, List.length_nil] <;> omega)) rfl rfl rfl rfl rfl rfl)) ?_
  refine d_any rfl want_none rfl (fun _ => (y_pickT (v := .bool _) rfl rfl rfl rfl)) ?_
  refine d_any rfl want_none rfl (fun _ => (y_move (v := .bool _) rfl rfl)) ?_
  refine d_split (fun h65 => ?_) (fun h65 => ?_)
  ·
   try simp only [Bool.not_eq_true', Bool.not_eq_false', decide_eq_true_eq, decide_eq_false_iff_not, Int.not_lt, Int.not_le] at h65
   refine d_take rfl (want_yes rfl rfl rfl) rfl hs64 (fun _ hq => (y_loadN (vs := [_, _]) Try.isAgg31 Try.sizeOf31 hq.drop.drop.tail rfl rfl hx4)) ?_
   refine d_eff rfl ?_
   refine w_call (want_yes rfl rfl rfl) Try.call33 rfl rfl rfl rfl (c33 _ _ hs64) ?_
   rintro _ w67 ⟨rfl, hs68⟩
   refine w_nil ?_
   refine qn ⟨hs68, ?_⟩
   refine d_any rfl (want_yes rfl rfl rfl) rfl (fun _ => (y_eqFlat (l := [_, _]) (m := [_, _]) Try.eqGuardType31 Try_flat31 (by first | omega | rfl | (simp only [List.length_map, List.length_set, List.length_append, List.length_take, List.length_drop, List.length_replicate, List.length_cons, List.length_nil] <;> omega)) (by first | omega | rfl | (simp only [List.length_map, List.length_set, List.length_append, List.length_take, List.length_drop, List.length_replicate, List.length_cons, List.length_nil] <;> omega)) rfl rfl rfl rfl rfl rfl)) ?_
   refine d_any rfl want_none rfl (fun _ => (y_pickT (v := .bool _) rfl rfl rfl rfl)) ?_
   refine d_any rfl want_none rfl (fun _ => (y_move (v := .bool _) rfl rfl)) ?_
   refine d_split (fun h69 => ?_) (fun h69 => ?_)
   ·
    try simp only [Bool.not_eq_true', Bool.not_eq_false', decide_eq_true_eq, decide_eq_false_iff_not, Int.not_lt, Int.not_le] at h69
    refine d_take rfl (want_yes rfl rfl rfl) rfl hs68 (fun _ hq => (y_loadN (vs := [_, _]) Try.isAgg31 Try.sizeOf31 hq.drop.drop rfl rfl hx6)) ?_
    refine d_eff rfl ?_
    refine w_call (want_yes rfl rfl rfl) Try.call33 rfl rfl rfl rfl (c33 _ _ hs68) ?_
    rintro _ w71 ⟨rfl, hs72⟩
    refine w_nil ?_
    refine qn ⟨hs72, ?_⟩
    refine d_any rfl (want_yes rfl rfl rfl) rfl (fun _ => (y_eqFlat (l := [_, _]) (m := [_, _]) Try.eqGuardType31 Try_flat31 (by first | omega | rfl | (simp only [List.length_map, List.length_set, List.length_append, List.length_take, List.length_drop, List.length_replicate, List.length_cons, List.length_nil] <;> omega)) (by first | omega | rfl | (simp only [List.length_map, List.length_set, List.length_append, List.length_take, List.length_drop, List.length_replicate, List.length_cons, List.length_nil] <;> omega)) rfl rfl rfl rfl rfl rfl)) ?_
    refine d_any rfl want_none rfl (fun _ => (y_pickT (v := .bool _) rfl rfl rfl rfl)) ?_
    refine d_any rfl want_none rfl (fun _ => (y_move (v := .bool _) rfl rfl)) ?_
    refine d_split (fun h73 => ?_) (fun h73 => ?_)
    ·
     try simp only [Bool.not_eq_true', Bool.not_eq_false', decide_eq_true_eq, decide_eq_false_iff_not, Int.not_lt, Int.not_le] at h73
     refine d_any rfl (want_yes rfl rfl rfl) rfl (fun _ => (y_move (v := .int _ _) rfl rfl)) ?_
     refine d_any rfl (want_yes rfl rfl rfl) rfl (fun _ => (y_eql rfl rfl rfl rfl)) ?_
     refine d_any rfl want_none rfl (fun _ => (y_pickT (v := .bool _) rfl rfl rfl rfl)) ?_
     refine d_any rfl want_none rfl (fun _ => (y_move (v := .bool _) rfl rfl)) ?_
     refine d_any rfl (want_yes rfl rfl rfl) rfl (fun _ => (y_move (v := .slice _ _ _) rfl rfl)) ?_
     refine d_any rfl (want_yes rfl rfl rfl) rfl (fun _ => (y_lenS Try.underlying39 rfl rfl)) ?_
     refine d_any rfl (want_yes rfl rfl rfl) rfl (fun _ => (y_eql rfl rfl rfl rfl)) ?_
     refine d_any rfl want_none rfl (fun _ => (y_pickT (v := .bool _) rfl rfl rfl rfl)) ?_
     refine d_any rfl want_none rfl (fun _ => (y_move (v := .bool _) rfl rfl)) ?_
     refine d_split (fun h74 => ?_) (fun h74 => ?_)
     ·
      try simp only [Bool.not_eq_true', Bool.not_eq_false', decide_eq_true_eq, decide_eq_false_iff_not, Int.not_lt, Int.not_le] at h74
      refine d_any rfl (want_yes rfl rfl rfl) rfl (fun _ => (y_move (v := .slice _ _ _) rfl rfl)) ?_
      refine d_any rfl (want_yes rfl rfl rfl) rfl (fun _ => (y_lenS Try.underlying39 rfl rfl)) ?_
      refine d_any rfl (want_yes rfl rfl rfl) rfl (fun _ => (y_eql rfl rfl rfl rfl)) ?_
      refine d_any rfl want_none rfl (fun _ => (y_pickT (v := .bool _) rfl rfl rfl rfl)) ?_
      refine d_any rfl want_none rfl (fun _ => (y_move (v := .bool _) rfl rfl)) ?_
      refine d_split (fun h75 => ?_) (fun h75 => ?_)
      ·
       try simp only [Bool.not_eq_true', Bool.not_eq_false', decide_eq_true_eq, decide_eq_false_iff_not, Int.not_lt, Int.not_le] at h75
       refine d_eff rfl ?_
       refine w_call (want_yes rfl rfl rfl) Try.call22 rfl rfl rfl rfl (c22 hs72) ?_
       rintro _ w77 ⟨rfl, hs78⟩
       refine w_nil ?_
       refine qn ⟨hs78, ?_⟩
       refine d_any rfl want_none rfl (fun _ => (y_pickT (v := .bool _) rfl rfl rfl rfl)) ?_
       refine d_any rfl want_none rfl (fun _ => (y_assign (v := .bool _) rfl rfl)) ?_
       refine d_nil ?_
       refine q_then (hK58 _ _ ?_)
       refine w_ret ?_
       refine q_ret (l := [.tmp 0]) (vs := [_]) rfl ⟨⟨rfl, show _ = (.bool _ : Value) from rfl⟩, trivial⟩ ?_
       exact ⟨rfl, (St.cast hZ hs78.drop.drop.tail.tail.tail).tail.drop⟩
      ·
       exfalso; simp at h75
     ·
      exfalso; simp at h74
    ·
     exfalso; simp at h73
   ·
    exfalso; simp at h69
  ·
   exfalso; simp at h65

end Go.Proofs
