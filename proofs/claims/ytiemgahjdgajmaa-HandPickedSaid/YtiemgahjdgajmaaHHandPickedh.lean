/- Own texts of this claim, joined. No conditions. -/
import Derived.Test.YtiemgahjdgajmaaHHandPickeda
import Derived.Test.YtiemgahjdgajmaaHHandPickedb
import Derived.Test.YtiemgahjdgajmaaHHandPickedc
import Derived.Test.YtiemgahjdgajmaaHHandPickedd
import Derived.Test.YtiemgahjdgajmaaHHandPickede
import Derived.Test.YtiemgahjdgajmaaHHandPickedf
import Derived.Test.YtiemgahjdgajmaaHHandPickedg
/- Walks of this seat, printed by gen.py over the engine: what each function returns, in whatever world. No conditions but those of each contract. -/
set_option linter.unusedVariables false
set_option linter.unusedSimpArgs false
set_option maxRecDepth 20000
namespace Go.Proofs
open Go.Rt Go.Rt.Ha
attribute [local irreducible] WL WC Con Yd At Ats Sl Agree DW
theorem Try_Ya_fb6 (x0 : Int) (x1 : Int) (w : World) : (Instr.build 34 [(0, .int .i64 x0), (1, .int .i64 x1)].toArray).run Try.prog w = .ok (.agg #[.int .i64 x0, .int .i64 x1]) w := by kernel_rfl
theorem c72 {w0 w : World} {F : List (Nat × Obj)} (l : Lot) (p : At3) (hm : LIn w0 F l p) (e : Int) (hok : e = 0 → l.Ok) (hs : St w0 w F) :
  Con Try.prog 72 [.agg (l.cells p).toArray, .int .i64 e] w fun v w' => (kE l e ≠ 0 ∧ v = .tuple #[.slice none 0 0, .int .i64 (kE l e)] ∧ St w0 w' F) ∨ (kE l e = 0 ∧ ∃ (B : List (Nat × Obj)) (vs : List Value) (a : Option Addr) (c : Nat), v = .tuple #[.slice a (Ha.ways l 0).length c, .int .i64 0] ∧ Sl w0 B a 1 (vs.map fun v => [v]) ∧ EL w0 B vs (Ha.ways l 0) ∧ St w0 w' (B ++ F)) := by
  refine con_of_wc (n := 16) Try.func72 rfl rfl (Nat.le_of_ble_eq_true rfl) ?_
  refine w_seq (fun K2 hK1 => ?_)
  refine w_region ?_
  refine w_box (v := .agg #[.slice _ _ _, .slice _ _ _, .slice _ _ _]) (cs := [_, _, _]) want_none rfl rfl rfl hs (fun b3 w4 hs5 => ?_)
  refine w_pure want_none (y_assign (v := _) rfl rfl) rfl ?_
  refine w_pure want_none (y_assign (v := _) rfl rfl) rfl ?_
  refine w_nil ?_
  refine q_then (hK1 _ _ ?_)
  refine w_seq (fun K7 hK6 => ?_)
  refine w_seq (fun K9 hK8 => ?_)
  refine w_region ?_
  refine w_pure want_none (y_move (v := .int _ _) rfl rfl) rfl ?_
  refine w_pure want_none (y_neq rfl rfl rfl rfl) rfl ?_
  refine w_nil ?_
  refine q_then (hK8 _ _ ?_)
  refine w_cond rfl rfl (fun h10 => ?_) (fun h10 => ?_)
  ·
   try simp only [Bool.not_eq_true', Bool.not_eq_false', decide_eq_true_eq, decide_eq_false_iff_not, Int.not_lt, Int.not_le] at h10
   refine w_seq (fun K12 hK11 => ?_)
   refine w_region ?_
   refine w_pure want_none (y_move (v := .int _ _) rfl rfl) rfl ?_
   refine w_pure want_none (y_assign (v := _) rfl rfl) rfl ?_
   refine w_pure want_none (y_assign (v := .int _ _) rfl rfl) rfl ?_
   refine w_nil ?_
   refine q_then (hK11 _ _ ?_)
   refine w_ret ?_
   refine q_then_ret ?_
   refine q_ret (l := [.tmp 4, .tmp 5]) (vs := [_, _]) rfl ⟨⟨rfl, show _ = (.slice _ _ _ : Value) from rfl⟩, ⟨rfl, show _ = (.int _ _ : Value) from rfl⟩, trivial⟩ ?_
   first
     | exact .inl ⟨by rw [kE_1 (by assumption)]; assumption, by rw [kE_1 (by assumption)]; rfl, hs5.tail⟩
     | (have hw0 : Ha.ways l 0 = [] := List.length_eq_zero_iff.1 (by omega)
        exact .inl ⟨by rw [kE_2 (by assumption) hw0]; decide, by rw [kE_2 (by assumption) hw0]; rfl, hs5.tail⟩)
     | (have hw0 : Ha.ways l 0 ≠ [] := fun h => by (have := congrArg List.length h; simp only [List.length_nil] at this; omega)
        exact .inr ⟨kE_3 (by assumption) hw0, B, vs, a, c, rfl, hslB, helB, kq_own hs5⟩)
  ·
   try simp only [Bool.not_eq_true', Bool.not_eq_false', decide_eq_true_eq, decide_eq_false_iff_not, Int.not_lt, Int.not_le] at h10
   refine w_skip ?_
   refine q_then (hK6 _ _ ?_)
   refine w_seq (fun K14 hK13 => ?_)
   refine w_region ?_
   refine w_pure want_none (y_loadN (vs := [_, _, _]) Try.isAgg26 Try.sizeOf26 hs5 rfl rfl (ats_own (i := 0) (vs := [_, _, _]) rfl rfl)) rfl ?_
   refine w_call want_none Try.call45 rfl rfl rfl rfl ((by have h := c45 l p hm.cons (hok (by assumption)) none 0 [] (by simp) (Sl.nil _ _) hs5; rw [waysR_nil] at h; exact h)) ?_
   rintro _ w16 ⟨B, vs, a, c, rfl, hslB, helB, hs17⟩
   replace hs17 := (show St _ _ (B ++ (_ :: F)) from hs17)
   refine w_pure want_none (y_assign (v := .slice _ _ _) rfl rfl) rfl ?_
   refine w_nil ?_
   refine q_then (hK13 _ _ ?_)
   refine w_seq (fun K19 hK18 => ?_)
   refine w_seq (fun K21 hK20 => ?_)
   refine w_region ?_
   refine w_pure want_none (y_move (v := .slice _ _ _) rfl rfl) rfl ?_
   refine w_pure want_none (y_lenS Try.underlying64 rfl rfl) rfl ?_
   refine w_pure want_none (y_eql rfl rfl rfl rfl) rfl ?_
   refine w_nil ?_
   refine q_then (hK20 _ _ ?_)
   refine w_cond rfl rfl (fun h22 => ?_) (fun h22 => ?_)
   ·
    try simp only [Bool.not_eq_true', Bool.not_eq_false', decide_eq_true_eq, decide_eq_false_iff_not, Int.not_lt, Int.not_le] at h22
    refine w_seq (fun K24 hK23 => ?_)
    refine w_region ?_
    refine w_pure want_none (y_assign (v := _) rfl rfl) rfl ?_
    refine w_pure want_none (y_assign (v := _) rfl rfl) rfl ?_
    refine w_nil ?_
    refine q_then (hK23 _ _ ?_)
    refine w_ret ?_
    refine q_then_ret ?_
    refine q_ret (l := [.tmp 4, .tmp 5]) (vs := [_, _]) rfl ⟨⟨rfl, show _ = (.slice _ _ _ : Value) from rfl⟩, ⟨rfl, show _ = (.int _ _ : Value) from rfl⟩, trivial⟩ ?_
    first
      | exact .inl ⟨by rw [kE_1 (by assumption)]; assumption, by rw [kE_1 (by assumption)]; rfl, hs17.drop.tail⟩
      | (have hw0 : Ha.ways l 0 = [] := List.length_eq_zero_iff.1 (by omega)
         exact .inl ⟨by rw [kE_2 (by assumption) hw0]; decide, by rw [kE_2 (by assumption) hw0]; rfl, hs17.drop.tail⟩)
      | (have hw0 : Ha.ways l 0 ≠ [] := fun h => by (have := congrArg List.length h; simp only [List.length_nil] at this; omega)
         exact .inr ⟨kE_3 (by assumption) hw0, B, vs, a, c, rfl, hslB, helB, kq_own hs17⟩)
   ·
    try simp only [Bool.not_eq_true', Bool.not_eq_false', decide_eq_true_eq, decide_eq_false_iff_not, Int.not_lt, Int.not_le] at h22
    refine w_skip ?_
    refine q_then (hK18 _ _ ?_)
    refine w_seq (fun K26 hK25 => ?_)
    refine w_region ?_
    refine w_pure want_none (y_move (v := .slice _ _ _) rfl rfl) rfl ?_
    refine w_pure want_none (y_assign (v := .slice _ _ _) rfl rfl) rfl ?_
    refine w_pure want_none (y_assign (v := _) rfl rfl) rfl ?_
    refine w_nil ?_
    refine q_then (hK25 _ _ ?_)
    refine w_ret ?_
    refine q_ret (l := [.tmp 4, .tmp 5]) (vs := [_, _]) rfl ⟨⟨rfl, show _ = (.slice _ _ _ : Value) from rfl⟩, ⟨rfl, show _ = (.int _ _ : Value) from rfl⟩, trivial⟩ ?_
    first
      | exact .inl ⟨by rw [kE_1 (by assumption)]; assumption, by rw [kE_1 (by assumption)]; rfl, hs17.drop.tail⟩
      | (have hw0 : Ha.ways l 0 = [] := List.length_eq_zero_iff.1 (by omega)
         exact .inl ⟨by rw [kE_2 (by assumption) hw0]; decide, by rw [kE_2 (by assumption) hw0]; rfl, hs17.drop.tail⟩)
      | (have hw0 : Ha.ways l 0 ≠ [] := fun h => by (have := congrArg List.length h; simp only [List.length_nil] at this; omega)
         exact .inr ⟨kE_3 (by assumption) hw0, B, vs, a, c, rfl, hslB, helB, kq_own hs17⟩)

theorem c73 {w0 w : World} {F : List (Nat × Obj)} (l : Lot) (p : At3) (hm : LIn w0 F l p) (n : Int) (b : Nat) (hb : b ≤ 9223372036854775807) (hs : St w0 w F) :
  Con Try.prog 73 [.agg (l.cells p).toArray, .int .i64 n, .int .i64 (b : Int)] w fun v w' => v = .int .i64 (idxC l n b) ∧ St w0 w' F := by
  refine con_of_wc (n := 26) Try.func73 rfl rfl (Nat.le_of_ble_eq_true rfl) ?_
  refine w_seq (fun K2 hK1 => ?_)
  refine w_region ?_
  refine w_box (v := .agg #[.slice _ _ _, .slice _ _ _, .slice _ _ _]) (cs := [_, _, _]) want_none rfl rfl rfl hs (fun b3 w4 hs5 => ?_)
  refine w_pure want_none (y_assign (v := _) rfl rfl) rfl ?_
  refine w_nil ?_
  refine q_then (hK1 _ _ ?_)
  refine w_seq (fun K7 hK6 => ?_)
  refine w_region ?_
  refine w_pure want_none (y_loadN (vs := [_, _, _]) Try.isAgg26 Try.sizeOf26 hs5 rfl rfl (ats_own (i := 0) (vs := [_, _, _]) rfl rfl)) rfl ?_
  refine w_call want_none Try.call17 rfl rfl rfl rfl (c17 l p hm.cons hs5) ?_
  rintro _ w9 ⟨rfl, hs10⟩
  refine w_pure want_none (y_move (v := .tuple _) rfl rfl) rfl ?_
  refine w_pure want_none (y_extract (v := .int _ _) rfl rfl rfl) rfl ?_
  refine w_pure want_none (y_extract (v := .int _ _) rfl rfl rfl) rfl ?_
  refine w_pure want_none (y_extract (v := .int _ _) rfl rfl rfl) rfl ?_
  refine w_pure want_none (y_assign (v := .int _ _) rfl rfl) rfl ?_
  refine w_pure want_none (y_assign (v := .int _ _) rfl rfl) rfl ?_
  refine w_pure want_none (y_assign (v := .int _ _) rfl rfl) rfl ?_
  refine w_nil ?_
  refine q_then (hK6 _ _ ?_)
  refine w_seq (fun K12 hK11 => ?_)
  refine w_seq (fun K14 hK13 => ?_)
  refine w_region ?_
  refine w_pure want_none (y_move (v := .int _ _) rfl rfl) rfl ?_
  refine w_pure want_none (y_eql rfl rfl rfl rfl) rfl ?_
  refine w_pure want_none (y_move (v := .bool _) rfl rfl) rfl ?_
  refine w_split (fun h15 => ?_) (fun h15 => ?_)
  ·
   try simp only [Bool.not_eq_true', Bool.not_eq_false', decide_eq_true_eq, decide_eq_false_iff_not, Int.not_lt, Int.not_le] at h15
   refine w_pure (want_yes rfl rfl rfl) (y_move (v := .int _ _) rfl rfl) rfl ?_
   refine w_pure (want_yes rfl rfl rfl) (y_move (v := .int _ _) rfl rfl) rfl ?_
   refine w_pure (want_yes rfl rfl rfl) (y_sub rfl rfl rfl rfl (by omega) (by omega)) rfl ?_
   refine w_call (want_yes rfl rfl rfl) Try.call51 rfl rfl rfl rfl (c51 _ _ _ hs10) ?_
   rintro _ w17 ⟨rfl, hs18⟩
   refine w_pure (want_yes rfl rfl rfl) (y_not rfl rfl) rfl ?_
   refine w_pure want_none (y_pickT (v := .bool _) rfl rfl rfl rfl) rfl ?_
   refine w_nil ?_
   refine q_then (hK13 _ _ ?_)
   refine w_cond rfl rfl (fun h19 => ?_) (fun h19 => ?_)
   ·
    try simp only [Bool.not_eq_true', Bool.not_eq_false', decide_eq_true_eq, decide_eq_false_iff_not, Int.not_lt, Int.not_le] at h19
    refine w_region ?_
    refine w_pure want_none (y_assign (v := _) rfl rfl) rfl ?_
    refine w_nil ?_
    refine q_then (hK11 _ _ ?_)
    refine w_seq (fun K21 hK20 => ?_)
    refine w_region ?_
    refine w_pure want_none (y_move (v := .int _ _) rfl rfl) rfl ?_
    refine w_pure want_none (y_assign (v := .int _ _) rfl rfl) rfl ?_
    refine w_nil ?_
    refine q_then (hK20 _ _ ?_)
    refine w_ret ?_
    refine q_ret (l := [.tmp 6]) (vs := [_]) rfl ⟨⟨rfl, show _ = (.int _ _ : Value) from rfl⟩, trivial⟩ ?_
    first
      | exact ⟨congrArg (Value.int .i64) (idxC_2 (by assumption) (by assumption)).symm, hs18.tail⟩
      | exact ⟨congrArg (Value.int .i64) ((by assumption : (check l).2.2 = 0).trans (idxC_3 (by assumption) (by assumption)).symm), hs18.tail⟩
      | exact ⟨congrArg (Value.int .i64) (idxC_1 (by assumption)).symm, hs18.tail⟩
   ·
    try simp only [Bool.not_eq_true', Bool.not_eq_false', decide_eq_true_eq, decide_eq_false_iff_not, Int.not_lt, Int.not_le] at h19
    refine w_skip ?_
    refine q_then (hK11 _ _ ?_)
    refine w_seq (fun K23 hK22 => ?_)
    refine w_region ?_
    refine w_pure want_none (y_move (v := .int _ _) rfl rfl) rfl ?_
    refine w_pure want_none (y_assign (v := .int _ _) rfl rfl) rfl ?_
    refine w_nil ?_
    refine q_then (hK22 _ _ ?_)
    refine w_ret ?_
    refine q_ret (l := [.tmp 6]) (vs := [_]) rfl ⟨⟨rfl, show _ = (.int _ _ : Value) from rfl⟩, trivial⟩ ?_
    first
      | exact ⟨congrArg (Value.int .i64) (idxC_2 (by assumption) (by assumption)).symm, hs18.tail⟩
      | exact ⟨congrArg (Value.int .i64) ((by assumption : (check l).2.2 = 0).trans (idxC_3 (by assumption) (by assumption)).symm), hs18.tail⟩
      | exact ⟨congrArg (Value.int .i64) (idxC_1 (by assumption)).symm, hs18.tail⟩
  ·
   try simp only [Bool.not_eq_true', Bool.not_eq_false', decide_eq_true_eq, decide_eq_false_iff_not, Int.not_lt, Int.not_le] at h15
   refine w_skipop rfl rfl rfl ?_
   refine w_skipop rfl rfl rfl ?_
   refine w_skipop rfl rfl rfl ?_
   refine w_skipop rfl rfl rfl ?_
   refine w_skipop rfl rfl rfl ?_
   refine w_pure want_none (y_pickF (v := _) rfl rfl rfl rfl) rfl ?_
   refine w_nil ?_
   refine q_then (hK13 _ _ ?_)
   refine w_condF rfl rfl ?_
   refine w_skip ?_
   refine q_then (hK11 _ _ ?_)
   refine w_seq (fun K25 hK24 => ?_)
   refine w_region ?_
   refine w_pure want_none (y_move (v := .int _ _) rfl rfl) rfl ?_
   refine w_pure want_none (y_assign (v := .int _ _) rfl rfl) rfl ?_
   refine w_nil ?_
   refine q_then (hK24 _ _ ?_)
   refine w_ret ?_
   refine q_ret (l := [.tmp 6]) (vs := [_]) rfl ⟨⟨rfl, show _ = (.int _ _ : Value) from rfl⟩, trivial⟩ ?_
   first
     | exact ⟨congrArg (Value.int .i64) (idxC_2 (by assumption) (by assumption)).symm, hs10.tail⟩
     | exact ⟨congrArg (Value.int .i64) ((by assumption : (check l).2.2 = 0).trans (idxC_3 (by assumption) (by assumption)).symm), hs10.tail⟩
     | exact ⟨congrArg (Value.int .i64) (idxC_1 (by assumption)).symm, hs10.tail⟩

theorem c81 {w0 w : World} {F : List (Nat × Obj)} (x y n : Int) (hs : St w0 w F) :
  Con Try.prog 81 [.agg #[.int .i64 x, .int .i64 y], .int .i64 n] w fun v w' => v = .agg #[.int .i64 (min x n), .int .i64 (max y n)] ∧ St w0 w' F := by
  refine con_of_wc (n := 14) Try.func81 rfl rfl (Nat.le_of_ble_eq_true rfl) ?_
  refine w_seq (fun K2 hK1 => ?_)
  refine w_region ?_
  refine w_box (v := .agg #[.int _ _, .int _ _]) (cs := [_, _]) want_none rfl rfl rfl hs (fun b3 w4 hs5 => ?_)
  refine w_alloc (cs := [_, _]) want_none Try.zeroValue34 rfl hs5 (fun b6 w7 hs8 => ?_)
  refine w_nil ?_
  refine q_then (hK1 _ _ ?_)
  refine w_seq (fun K10 hK9 => ?_)
  refine w_region ?_
  refine w_pure want_none (y_fieldAddr (o := 0) (i := 0) Try.underlying34 rfl Try.sizeOf3 rfl rfl rfl) rfl ?_
  refine w_pure want_none (y_load1 Try.isAgg3 hs8 rfl rfl (ats_own (i := 1) (vs := [_]) rfl rfl)) rfl ?_
  refine w_pure want_none (y_move (v := .int _ _) rfl rfl) rfl ?_
  refine w_pure want_none (y_min2 rfl rfl rfl rfl) rfl ?_
  refine w_pure want_none (y_fieldAddr (o := 1) (i := 1) Try.underlying34 rfl Try.sizeOf3 rfl rfl rfl) rfl ?_
  refine w_pure want_none (y_load1 Try.isAgg3 hs8 rfl rfl (ats_own (i := 1) (vs := [_]) rfl rfl)) rfl ?_
  refine w_pure want_none (y_move (v := .int _ _) rfl rfl) rfl ?_
  refine w_pure want_none (y_max2 rfl rfl rfl rfl) rfl ?_
  refine w_pure want_none (y_build (ps := [(0, _), (1, _)]) (pv := [(0, .int _ _), (1, .int _ _)]) rfl rfl (fun w => Try_Ya_fb6 _ _ w)) rfl ?_
  refine w_store (i := 0) (v := .agg #[.int _ _, .int _ _]) (vs := [_, _]) want_none Try.sizeOf34 rfl rfl rfl rfl rfl (by simp [Value.oneCell']) hs8 rfl (Nat.le_of_ble_eq_true rfl) (fun w11 hs12 => ?_)
  refine w_nil ?_
  refine q_then (hK9 _ _ ?_)
  refine w_ret ?_
  refine q_ret (l := [.cell 4 34]) (vs := [_]) rfl ⟨⟨rfl, _, rfl, run_loadVarN (vs := [_, _]) Try.isAgg34 Try.sizeOf34 hs12 (ats_own (i := 0) (vs := [_, _]) rfl rfl)⟩, trivial⟩ ?_
  exact ⟨rfl, hs12.tail.tail⟩

theorem c74 {w0 w : World} {F : List (Nat × Obj)} (a : Option Addr) (c : Nat) (ws : List (List Int)) (vs : List Value) (hsl : Sl w0 F a 1 (vs.map fun v => [v])) (hel : EL w0 F vs ws) (hwl : ws.length ≤ 4096) (h0 : 0 < ws.length) (b : Nat) (hb : ∀ h ∈ ws, b < h.length) (hs : St w0 w F) :
  Con Try.prog 74 [.slice a ws.length c, .int .i64 (b : Int)] w fun v w' => v = .agg #[.int .i64 (spanR b ws).1, .int .i64 (spanR b ws).2] ∧ St w0 w' F := by
  refine con_of_wc (n := 36) Try.func74 rfl rfl (Nat.le_of_ble_eq_true rfl) ?_
  obtain ⟨b0, o0, e0, q0, ha, hx0, hsx0, _⟩ := el_at hsl hel h0
  subst ha
  have hb0 := hb _ (List.getElem_mem h0)
  obtain ⟨c0, p0, he0, hy0⟩ := sl_ints hsx0 hb0
  subst he0
  refine w_seq (fun K2 hK1 => ?_)
  refine w_region ?_
  refine w_alloc (cs := [_, _]) want_none Try.zeroValue34 rfl hs (fun b3 w4 hs5 => ?_)
  refine w_nil ?_
  refine q_then (hK1 _ _ ?_)
  refine w_seq (fun K7 hK6 => ?_)
  refine w_draw [14] [(0, 0), (1, 0), (2, 1), (3, 0), (4, 0), (5, 1), (6, 0), (7, 0), (8, 1), (9, 0), (10, 0), (11, 1), (12, 0), (13, 2), (14, 3)] Try_mo (drawOK_of (by kernel_rfl)) hs5 (fun w8 hs9 => ?_)
  refine d_any rfl want_none rfl (fun _ => (y_move (v := .slice _ _ _) rfl rfl)) ?_
  refine d_any rfl want_none rfl (fun _ => (y_indexS Try.underlying64 Try.sizeOf37 rfl rfl rfl rfl (i := 0) rfl (by omega))) ?_
  refine d_take rfl want_none rfl hs9 (fun _ hq => (y_load1 Try.isAgg37 hq.tail rfl rfl hx0)) ?_
  refine d_any rfl want_none rfl (fun _ => (y_move (v := .int _ _) rfl rfl)) ?_
  refine d_any rfl want_none rfl (fun _ => (y_indexS Try.underlying37 Try.sizeOf3 rfl rfl rfl rfl (i := b) rfl hb0)) ?_
  refine d_take rfl want_none rfl hs9 (fun _ hq => (y_load1 Try.isAgg3 hq.tail rfl rfl hy0)) ?_
  refine d_any rfl want_none rfl (fun _ => (y_move (v := .slice _ _ _) rfl rfl)) ?_
  refine d_any rfl want_none rfl (fun _ => (y_indexS Try.underlying64 Try.sizeOf37 rfl rfl rfl rfl (i := 0) rfl (by omega))) ?_
  refine d_take rfl want_none rfl hs9 (fun _ hq => (y_load1 Try.isAgg37 hq.tail rfl rfl hx0)) ?_
  refine d_any rfl want_none rfl (fun _ => (y_move (v := .int _ _) rfl rfl)) ?_
  refine d_any rfl want_none rfl (fun _ => (y_indexS Try.underlying37 Try.sizeOf3 rfl rfl rfl rfl (i := b) rfl hb0)) ?_
  refine d_take rfl want_none rfl hs9 (fun _ hq => (y_load1 Try.isAgg3 hq.tail rfl rfl hy0)) ?_
  refine d_any rfl want_none rfl (fun _ => (y_build (ps := [(0, _), (1, _)]) (pv := [(0, .int _ _), (1, .int _ _)]) rfl rfl (fun w => Try_Ya_fb6 _ _ w))) ?_
  refine d_eff rfl ?_
  refine w_alloc (cs := [_, _]) want_none Try.zeroValue34 rfl hs9 (fun b10 w11 hs12 => ?_)
  refine w_nil ?_
  refine qn ⟨hs12.tail, ?_⟩
  refine d_late rfl ?_
  refine w_store (i := 0) (v := .agg #[.int _ _, .int _ _]) (vs := [_, _]) want_none Try.sizeOf34 rfl rfl rfl rfl rfl (by simp [Value.oneCell']) hs12 rfl (Nat.le_of_ble_eq_true rfl) (fun w13 hs14 => ?_)
  refine w_nil ?_
  refine qn ?_
  refine d_nil ?_
  refine q_then (hK6 _ _ ?_)
  refine w_seq (fun K16 hK15 => ?_)
  refine w_seq (fun K18 hK17 => ?_)
  refine w_region ?_
  refine w_pure want_none (y_assign (v := _) rfl rfl) rfl ?_
  refine w_nil ?_
  refine q_then (hK17 _ _ ?_)
  refine w_block ?_
  refine w_loop [6, 20, 21, 22, 23, 24, 25, 26, 27, 28, 29, 30, 31, 32, 33, 34] [6] (fun k vs0 w => ∃ i : Nat, vs0 = [.int .i64 i] ∧ 1 ≤ i ∧ i ≤ ws.length ∧ k = ws.length - i ∧ St w0 w ((b10, blk 34 [.int .i64 (spanR b (ws.take i)).1, .int .i64 (spanR b (ws.take i)).2]) :: (b3, blk 34 [.int .i64 0, .int .i64 0]) :: F)) (ws.length - 1) ?_ ?_
  ·
   exact ⟨1, rfl, by omega, by omega, by omega, by rw [spanR_one h0, at_get hb0]; exact hs14⟩
  ·
   intro k vs μ w21 hI K20 hN19
   obtain ⟨i, rfl, hi1, hia, rfl, hs⟩ := hI
   refine w_seq (fun K23 hK22 => ?_)
   refine w_seq (fun K25 hK24 => ?_)
   refine w_region ?_
   refine w_pure want_none (y_move (v := .int _ _) rfl rfl) rfl ?_
   refine w_pure want_none (y_move (v := .slice _ _ _) rfl rfl) rfl ?_
   refine w_pure want_none (y_lenS Try.underlying64 rfl rfl) rfl ?_
   refine w_pure want_none (y_lss rfl rfl rfl rfl) rfl ?_
   refine w_nil ?_
   refine q_then (hK24 _ _ ?_)
   refine w_cond rfl rfl (fun h26 => ?_) (fun h26 => ?_)
   ·
    try simp only [Bool.not_eq_true', Bool.not_eq_false', decide_eq_true_eq, decide_eq_false_iff_not, Int.not_lt, Int.not_le] at h26
    refine w_skip ?_
    refine q_then (hK22 _ _ ?_)
    refine w_seq (fun K28 hK27 => ?_)
    refine w_block ?_
    have hi2 : i < ws.length := by omega
    obtain ⟨bx, ox, e2, q2, ha, hx, hsx, _⟩ := el_at hsl hel hi2
    cases ha
    have hbi := hb _ (List.getElem_mem hi2)
    obtain ⟨c1, p1, he1, hy⟩ := sl_ints hsx hbi
    subst he1
    refine w_draw [9] [(0, 1), (1, 0), (2, 0), (3, 0), (4, 1), (5, 0), (6, 0), (7, 1), (8, 2), (9, 3)] Try_mo (drawOK_of (by kernel_rfl)) hs (fun w29 hs30 => ?_)
    refine d_take rfl want_none rfl hs30 (fun _ hq => (y_loadN (vs := [_, _]) Try.isAgg34 Try.sizeOf34 hq rfl rfl (ats_own (i := 0) (vs := [_, _]) rfl rfl))) ?_
    refine d_any rfl want_none rfl (fun _ => (y_move (v := .slice _ _ _) rfl rfl)) ?_
    refine d_any rfl want_none rfl (fun _ => (y_move (v := .int _ _) rfl rfl)) ?_
    refine d_any rfl want_none rfl (fun _ => (y_indexS Try.underlying64 Try.sizeOf37 rfl rfl rfl rfl (i := _) rfl (by omega))) ?_
    refine d_take rfl want_none rfl hs30 (fun _ hq => (y_load1 Try.isAgg37 hq.tail.tail rfl rfl hx)) ?_
    refine d_any rfl want_none rfl (fun _ => (y_move (v := .int _ _) rfl rfl)) ?_
    refine d_any rfl want_none rfl (fun _ => (y_indexS Try.underlying37 Try.sizeOf3 rfl rfl rfl rfl (i := b) rfl hbi)) ?_
    refine d_take rfl want_none rfl hs30 (fun _ hq => (y_load1 Try.isAgg3 hq.tail.tail rfl rfl hy)) ?_
    refine d_eff rfl ?_
    refine w_call want_none Try.call81 rfl rfl rfl rfl (c81 _ _ _ hs30) ?_
    rintro _ w32 ⟨rfl, hs33⟩
    refine w_nil ?_
    refine qn ⟨hs33, ?_⟩
    refine d_late rfl ?_
    refine w_store (i := 0) (v := .agg #[.int _ _, .int _ _]) (vs := [_, _]) want_none Try.sizeOf34 rfl rfl rfl rfl rfl (by simp [Value.oneCell']) hs33 rfl (Nat.le_of_ble_eq_true rfl) (fun w34 hs35 => ?_)
    refine w_nil ?_
    refine qn ?_
    refine d_nil ?_
    refine q_blk_normal ?_
    refine q_then (hK27 _ _ ?_)
    refine w_region ?_
    refine w_pure want_none (y_move (v := .int _ _) rfl rfl) rfl ?_
    refine w_pure want_none (y_add rfl rfl rfl rfl (by omega) (by omega)) rfl ?_
    refine w_pure want_none (y_assign (v := .int _ _) rfl rfl) rfl ?_
    refine w_nil ?_
    refine q_then (hN19 _ _ (Nx.intro (ws.length - (i + 1)) (by omega) (by repeat (first | exact agree_mix | refine agree_upd rfl ?_ | refine agree_updL rfl ?_ _ | refine agree_mixin rfl ?_)) ?_))
    exact ⟨i + 1, rfl, by omega, by omega, rfl, by rw [spanR_step hi1 hi2, at_get hbi]; exact hs35⟩
   ·
    try simp only [Bool.not_eq_true', Bool.not_eq_false', decide_eq_true_eq, decide_eq_false_iff_not, Int.not_lt, Int.not_le] at h26
    refine w_exit ?_
    refine q_then_exit ?_
    refine q_then_exit ?_
    refine q_blk_this ?_
    refine q_then (hK15 _ _ ?_)
    refine w_seq (fun K37 hK36 => ?_)
    refine w_region ?_
    refine w_pure want_none (y_loadN (vs := [_, _]) Try.isAgg34 Try.sizeOf34 hs rfl rfl (ats_own (i := 0) (vs := [_, _]) rfl rfl)) rfl ?_
    refine w_store (i := 1) (v := .agg #[.int _ _, .int _ _]) (vs := [_, _]) want_none Try.sizeOf34 rfl rfl rfl rfl rfl (by simp [Value.oneCell']) hs rfl (Nat.le_of_ble_eq_true rfl) (fun w38 hs39 => ?_)
    refine w_nil ?_
    refine q_then (hK36 _ _ ?_)
    refine w_ret ?_
    refine q_ret (l := [.cell 4 34]) (vs := [_]) rfl ⟨⟨rfl, _, rfl, run_loadVarN (vs := [_, _]) Try.isAgg34 Try.sizeOf34 hs39 (ats_own (i := 1) (vs := [_, _]) rfl rfl)⟩, trivial⟩ ?_
    have hil : i = ws.length := by omega
    subst hil
    exact ⟨by rw [List.take_length]; rfl, hs39.tail.tail⟩

theorem c76 {w0 w : World} {F : List (Nat × Obj)} (l : Lot) (p : At3) (hm : LIn w0 F l p) (hok : l.Ok) (a : Option Addr) (c : Nat) (ws : List (List Int)) (vs : List Value) (hsl : Sl w0 F a 1 (vs.map fun v => [v])) (hel : EL w0 F vs ws) (hwl : ws.length ≤ 4096) (b : Nat) (hb2 : b < l.bunches.length) (hb : ∀ h ∈ ws, b < h.length) (g : Int) (hs : St w0 w F) :
  Con Try.prog 76 [.agg (l.cells p).toArray, .slice a ws.length c, .int .i64 (b : Int), .int .i64 g] w fun v w' => v = .bool (couldR l ws b g) ∧ St w0 w' F := by
  refine con_of_wc (n := 33) Try.func76 rfl rfl (Nat.le_of_ble_eq_true rfl) ?_
  refine w_seq (fun K2 hK1 => ?_)
  refine w_region ?_
  refine w_box (v := .agg #[.slice _ _ _, .slice _ _ _, .slice _ _ _]) (cs := [_, _, _]) want_none rfl rfl rfl hs (fun b3 w4 hs5 => ?_)
  refine w_pure want_none (y_assign (v := _) rfl rfl) rfl ?_
  refine w_nil ?_
  refine q_then (hK1 _ _ ?_)
  refine w_seq (fun K7 hK6 => ?_)
  refine w_region ?_
  refine w_pure want_none (y_assign (v := _) rfl rfl) rfl ?_
  refine w_nil ?_
  refine q_then (hK6 _ _ ?_)
  refine w_seq (fun K9 hK8 => ?_)
  refine w_seq (fun K11 hK10 => ?_)
  refine w_region ?_
  refine w_pure want_none (y_assign (v := _) rfl rfl) rfl ?_
  refine w_nil ?_
  refine q_then (hK10 _ _ ?_)
  refine w_block ?_
  refine w_loop [9, 10, 11, 12, 13, 14, 15, 16, 17, 18, 19, 20, 21, 22, 23, 24, 25, 26, 27, 28, 29, 30, 31] [9, 10] (fun k vs0 w => ∃ i : Nat, vs0 = [.bool (couldR l (ws.take i) b g), .int .i64 i] ∧ i ≤ ws.length ∧ k = ws.length - i ∧ St w0 w ((b3, blk 26 (l.cells p)) :: F)) (ws.length) ?_ ?_
  ·
   exact ⟨0, rfl, by omega, by omega, hs5⟩
  ·
   intro k vs μ w14 hI K13 hN12
   obtain ⟨i, rfl, hia, rfl, hs⟩ := hI
   generalize hcd : couldR l (ws.take i) b g = cd
   refine w_seq (fun K16 hK15 => ?_)
   refine w_seq (fun K18 hK17 => ?_)
   refine w_region ?_
   refine w_pure want_none (y_move (v := .int _ _) rfl rfl) rfl ?_
   refine w_pure want_none (y_move (v := .slice _ _ _) rfl rfl) rfl ?_
   refine w_pure want_none (y_lenS Try.underlying64 rfl rfl) rfl ?_
   refine w_pure want_none (y_lss rfl rfl rfl rfl) rfl ?_
   refine w_nil ?_
   refine q_then (hK17 _ _ ?_)
   refine w_cond rfl rfl (fun h19 => ?_) (fun h19 => ?_)
   ·
    try simp only [Bool.not_eq_true', Bool.not_eq_false', decide_eq_true_eq, decide_eq_false_iff_not, Int.not_lt, Int.not_le] at h19
    refine w_skip ?_
    refine q_then (hK15 _ _ ?_)
    refine w_seq (fun K21 hK20 => ?_)
    refine w_block ?_
    have hi2 : i < ws.length := by omega
    obtain ⟨bx, ox, e2, q2, ha, hx, hsx, _⟩ := el_at hsl hel hi2
    subst ha
    have hbi := hb _ (List.getElem_mem hi2)
    obtain ⟨c1, p1, he1, hy⟩ := sl_ints hsx hbi
    subst he1
    have hgl := gradesL_len2 hok hb2 (at_ ws[i] b)
    refine w_draw [] [(0, 0), (1, 0), (2, 1), (3, 0), (4, 0), (5, 0), (6, 0), (7, 1), (8, 0), (9, 0), (10, 1), (12, 0), (11, 2), (13, 2), (14, 0), (15, 0)] Try_mo (drawOK_of (by kernel_rfl)) hs (fun w22 hs23 => ?_)
    refine d_any rfl want_none rfl (fun _ => (y_move (v := .bool _) rfl rfl)) ?_
    refine d_any rfl want_none rfl (fun _ => (y_move (v := .bool _) rfl rfl)) ?_
    refine d_split (fun h24 => ?_) (fun h24 => ?_)
    ·
     subst h24
     refine d_skip1 rfl rfl rfl rfl hs23 ?_
     refine d_skip rfl rfl rfl rfl ?_
     refine d_skip rfl rfl rfl rfl ?_
     refine d_skip rfl rfl rfl rfl ?_
     refine d_skip rfl rfl rfl rfl ?_
     refine d_skip1 rfl rfl rfl rfl hs23 ?_
     refine d_skip rfl rfl rfl rfl ?_
     refine d_skip rfl rfl rfl rfl ?_
     refine d_skip1 rfl rfl rfl rfl hs23 ?_
     refine d_skip rfl rfl rfl rfl ?_
     refine d_eff rfl ?_
     refine w_skipop rfl rfl rfl ?_
     refine w_nil ?_
     refine qn ⟨hs23, ?_⟩
     refine d_eff rfl ?_
     refine w_skipop rfl rfl rfl ?_
     refine w_nil ?_
     refine qn ⟨hs23, ?_⟩
     refine d_any rfl want_none rfl (fun _ => (y_pickT (v := _) rfl rfl rfl rfl)) ?_
     refine d_any rfl want_none rfl (fun _ => (y_assign (v := .bool _) rfl rfl)) ?_
     refine d_nil ?_
     refine q_blk_normal ?_
     refine q_then (hK20 _ _ ?_)
     refine w_region ?_
     refine w_pure want_none (y_move (v := .int _ _) rfl rfl) rfl ?_
     refine w_pure want_none (y_add rfl rfl rfl rfl (by omega) (by omega)) rfl ?_
     refine w_pure want_none (y_assign (v := .int _ _) rfl rfl) rfl ?_
     refine w_nil ?_
     refine q_then (hN12 _ _ (Nx.intro (ws.length - (i + 1)) (by omega) (by repeat (first | exact agree_mix | refine agree_upd rfl ?_ | refine agree_updL rfl ?_ _ | refine agree_mixin rfl ?_)) ?_))
     first
       | exact ⟨i + 1, bi2 (by rw [could_step hi2, hcd]; rfl) rfl, by omega, rfl, hs23⟩
    ·
     subst h24
     refine d_take rfl (want_yes rfl rfl rfl) rfl hs23 (fun _ hq => (y_loadN (vs := [_, _, _]) Try.isAgg26 Try.sizeOf26 hq rfl rfl (ats_own (i := 0) (vs := [_, _, _]) rfl rfl))) ?_
     refine d_any rfl (want_yes rfl rfl rfl) rfl (fun _ => (y_move (v := .int _ _) rfl rfl)) ?_
     refine d_any rfl (want_yes rfl rfl rfl) rfl (fun _ => (y_move (v := .slice _ _ _) rfl rfl)) ?_
     refine d_any rfl (want_yes rfl rfl rfl) rfl (fun _ => (y_move (v := .int _ _) rfl rfl)) ?_
     refine d_any rfl (want_yes rfl rfl rfl) rfl (fun _ => (y_indexS Try.underlying64 Try.sizeOf37 rfl rfl rfl rfl (i := _) rfl (by omega))) ?_
     refine d_take rfl (want_yes rfl rfl rfl) rfl hs23 (fun _ hq => (y_load1 Try.isAgg37 hq.tail rfl rfl hx)) ?_
     refine d_any rfl (want_yes rfl rfl rfl) rfl (fun _ => (y_move (v := .int _ _) rfl rfl)) ?_
     refine d_any rfl (want_yes rfl rfl rfl) rfl (fun _ => (y_indexS Try.underlying37 Try.sizeOf3 rfl rfl rfl rfl (i := b) rfl hbi)) ?_
     refine d_take rfl (want_yes rfl rfl rfl) rfl hs23 (fun _ hq => (y_load1 Try.isAgg3 hq.tail rfl rfl hy)) ?_
     refine d_any rfl (want_yes rfl rfl rfl) rfl (fun _ => (y_move (v := .int _ _) rfl rfl)) ?_
     refine d_eff rfl ?_
     refine w_call (want_yes rfl rfl rfl) Try.call80 rfl rfl rfl rfl ((c80 l p hm.cons hok b hb2 (ws[i]'hi2)[b] hs23).mono (fun v w2 h => by rw [← at_get hbi] at h; exact h)) ?_
     rintro _ w26 ⟨GB, hownG, hs27⟩
     replace hs27 := (show St _ _ (GB ++ (_ :: F)) from hs27)
     obtain ⟨aG, cG, rfl, hslG, _, _⟩ := own_ints (w0 := w0) hownG
     refine w_nil ?_
     refine qn ⟨hs27.drop, ?_⟩
     refine d_eff rfl ?_
     refine w_call (want_yes rfl rfl rfl) Try.call43 rfl rfl rfl rfl (c43 _ _ (gradesL l.grades (at_ (ws[i]'hi2) b) (scarsOf l b)) (by omega) hslG.top _ hs27) ?_
     rintro _ w29 ⟨rfl, hs30⟩
     refine w_nil ?_
     refine qn ⟨hs30.drop, ?_⟩
     refine d_any rfl want_none rfl (fun _ => (y_pickF (v := .bool _) rfl rfl rfl rfl)) ?_
     refine d_any rfl want_none rfl (fun _ => (y_assign (v := .bool _) rfl rfl)) ?_
     refine d_nil ?_
     refine q_blk_normal ?_
     refine q_then (hK20 _ _ ?_)
     refine w_region ?_
     refine w_pure want_none (y_move (v := .int _ _) rfl rfl) rfl ?_
     refine w_pure want_none (y_add rfl rfl rfl rfl (by omega) (by omega)) rfl ?_
     refine w_pure want_none (y_assign (v := .int _ _) rfl rfl) rfl ?_
     refine w_nil ?_
     refine q_then (hN12 _ _ (Nx.intro (ws.length - (i + 1)) (by omega) (by repeat (first | exact agree_mix | refine agree_upd rfl ?_ | refine agree_updL rfl ?_ _ | refine agree_mixin rfl ?_)) ?_))
     first
       | exact ⟨i + 1, bi2 (by rw [could_step hi2, hcd]; rfl) rfl, by omega, rfl, hs30.drop⟩
   ·
    try simp only [Bool.not_eq_true', Bool.not_eq_false', decide_eq_true_eq, decide_eq_false_iff_not, Int.not_lt, Int.not_le] at h19
    refine w_exit ?_
    refine q_then_exit ?_
    refine q_then_exit ?_
    refine q_blk_this ?_
    refine q_then (hK8 _ _ ?_)
    refine w_seq (fun K32 hK31 => ?_)
    refine w_region ?_
    refine w_pure want_none (y_move (v := .bool _) rfl rfl) rfl ?_
    refine w_pure want_none (y_assign (v := .bool _) rfl rfl) rfl ?_
    refine w_nil ?_
    refine q_then (hK31 _ _ ?_)
    refine w_ret ?_
    refine q_ret (l := [.tmp 8]) (vs := [_]) rfl ⟨⟨rfl, show _ = (.bool _ : Value) from rfl⟩, trivial⟩ ?_
    have hil : i = ws.length := by omega
    subst hil
    rw [List.take_length] at hcd
    exact ⟨congrArg Value.bool hcd.symm, hs.tail⟩

theorem c83 {w0 w : World} {F : List (Nat × Obj)} (l : Lot) (p : At3) (hm : LIn w0 F l p) (hok : l.Ok) (a : Option Addr) (c : Nat) (ws : List (List Int)) (vs : List Value) (hsl : Sl w0 F a 1 (vs.map fun v => [v])) (hel : EL w0 F vs ws) (hwl : ws.length ≤ 4096) (b : Nat) (hb2 : b < l.bunches.length) (hb : ∀ h ∈ ws, b < h.length) (g : Int) (hs : St w0 w F) :
  Con Try.prog 83 [.agg (l.cells p).toArray, .slice a ws.length c, .int .i64 (b : Int), .int .i64 g] w fun v w' => v = .bool (mustR l ws b g) ∧ St w0 w' F := by
  refine con_of_wc (n := 42) Try.func83 rfl rfl (Nat.le_of_ble_eq_true rfl) ?_
  refine w_seq (fun K2 hK1 => ?_)
  refine w_region ?_
  refine w_box (v := .agg #[.slice _ _ _, .slice _ _ _, .slice _ _ _]) (cs := [_, _, _]) want_none rfl rfl rfl hs (fun b3 w4 hs5 => ?_)
  refine w_pure want_none (y_assign (v := _) rfl rfl) rfl ?_
  refine w_nil ?_
  refine q_then (hK1 _ _ ?_)
  refine w_seq (fun K7 hK6 => ?_)
  refine w_region ?_
  refine w_pure want_none (y_assign (v := _) rfl rfl) rfl ?_
  refine w_nil ?_
  refine q_then (hK6 _ _ ?_)
  refine w_seq (fun K9 hK8 => ?_)
  refine w_seq (fun K11 hK10 => ?_)
  refine w_region ?_
  refine w_pure want_none (y_assign (v := _) rfl rfl) rfl ?_
  refine w_nil ?_
  refine q_then (hK10 _ _ ?_)
  refine w_block ?_
  refine w_loop [9, 10, 11, 12, 13, 14, 15, 16, 17, 18, 19, 20, 21, 22, 23, 24, 25, 26, 27, 28, 29, 30, 31, 32, 33, 34, 35, 36, 37, 38, 39, 40] [9, 10] (fun k vs0 w => ∃ i : Nat, vs0 = [.bool (mustR l (ws.take i) b g), .int .i64 i] ∧ i ≤ ws.length ∧ k = ws.length - i ∧ St w0 w ((b3, blk 26 (l.cells p)) :: F)) (ws.length) ?_ ?_
  ·
   exact ⟨0, rfl, by omega, by omega, hs5⟩
  ·
   intro k vs μ w14 hI K13 hN12
   obtain ⟨i, rfl, hia, rfl, hs⟩ := hI
   generalize hcd : mustR l (ws.take i) b g = cd
   refine w_seq (fun K16 hK15 => ?_)
   refine w_seq (fun K18 hK17 => ?_)
   refine w_region ?_
   refine w_pure want_none (y_move (v := .int _ _) rfl rfl) rfl ?_
   refine w_pure want_none (y_move (v := .slice _ _ _) rfl rfl) rfl ?_
   refine w_pure want_none (y_lenS Try.underlying64 rfl rfl) rfl ?_
   refine w_pure want_none (y_lss rfl rfl rfl rfl) rfl ?_
   refine w_nil ?_
   refine q_then (hK17 _ _ ?_)
   refine w_cond rfl rfl (fun h19 => ?_) (fun h19 => ?_)
   ·
    try simp only [Bool.not_eq_true', Bool.not_eq_false', decide_eq_true_eq, decide_eq_false_iff_not, Int.not_lt, Int.not_le] at h19
    refine w_skip ?_
    refine q_then (hK15 _ _ ?_)
    refine w_seq (fun K21 hK20 => ?_)
    refine w_block ?_
    refine w_seq (fun K23 hK22 => ?_)
    have hi2 : i < ws.length := by omega
    obtain ⟨bx, ox, e2, q2, ha, hx, hsx, _⟩ := el_at hsl hel hi2
    subst ha
    have hbi := hb _ (List.getElem_mem hi2)
    obtain ⟨c1, p1, he1, hy⟩ := sl_ints hsx hbi
    subst he1
    have hgl := gradesL_len2 hok hb2 (at_ ws[i] b)
    refine w_draw [] [(0, 1), (1, 0), (2, 0), (3, 0), (4, 0), (5, 1), (6, 0), (7, 0), (8, 1), (9, 2), (10, 0)] Try_mo (drawOK_of (by kernel_rfl)) hs (fun w24 hs25 => ?_)
    refine d_take rfl want_none rfl hs25 (fun _ hq => (y_loadN (vs := [_, _, _]) Try.isAgg26 Try.sizeOf26 hq rfl rfl (ats_own (i := 0) (vs := [_, _, _]) rfl rfl))) ?_
    refine d_any rfl want_none rfl (fun _ => (y_move (v := .int _ _) rfl rfl)) ?_
    refine d_any rfl want_none rfl (fun _ => (y_move (v := .slice _ _ _) rfl rfl)) ?_
    refine d_any rfl want_none rfl (fun _ => (y_move (v := .int _ _) rfl rfl)) ?_
    refine d_any rfl want_none rfl (fun _ => (y_indexS Try.underlying64 Try.sizeOf37 rfl rfl rfl rfl (i := _) rfl (by omega))) ?_
    refine d_take rfl want_none rfl hs25 (fun _ hq => (y_load1 Try.isAgg37 hq.tail rfl rfl hx)) ?_
    refine d_any rfl want_none rfl (fun _ => (y_move (v := .int _ _) rfl rfl)) ?_
    refine d_any rfl want_none rfl (fun _ => (y_indexS Try.underlying37 Try.sizeOf3 rfl rfl rfl rfl (i := b) rfl hbi)) ?_
    refine d_take rfl want_none rfl hs25 (fun _ hq => (y_load1 Try.isAgg3 hq.tail rfl rfl hy)) ?_
    refine d_eff rfl ?_
    refine w_call want_none Try.call80 rfl rfl rfl rfl ((c80 l p hm.cons hok b hb2 (ws[i]'hi2)[b] hs25).mono (fun v w2 h => by rw [← at_get hbi] at h; exact h)) ?_
    rintro _ w27 ⟨GB, hownG, hs28⟩
    replace hs28 := (show St _ _ (GB ++ (_ :: F)) from hs28)
    obtain ⟨aG, cG, rfl, hslG, _, _⟩ := own_ints (w0 := w0) hownG
    refine w_nil ?_
    refine qn ⟨hs28.drop, ?_⟩
    refine d_any rfl want_none rfl (fun _ => (y_assign (v := .slice _ _ _) rfl rfl)) ?_
    refine d_nil ?_
    refine q_then (hK22 _ _ ?_)
    refine w_region ?_
    refine w_pure want_none (y_move (v := .bool _) rfl rfl) rfl ?_
    refine w_pure want_none (y_move (v := .bool _) rfl rfl) rfl ?_
    refine w_split (fun h29 => ?_) (fun h29 => ?_)
    ·
     subst h29
     refine w_pure (want_yes rfl rfl rfl) (y_move (v := .slice _ _ _) rfl rfl) rfl ?_
     refine w_pure (want_yes rfl rfl rfl) (y_lenS Try.underlying37 rfl rfl) rfl ?_
     refine w_pure (want_yes rfl rfl rfl) (y_eql rfl rfl rfl rfl) rfl ?_
     refine w_pure want_none (y_pickT (v := .bool _) rfl rfl rfl rfl) rfl ?_
     refine w_pure want_none (y_move (v := .bool _) rfl rfl) rfl ?_
     refine w_split (fun h30 => ?_) (fun h30 => ?_)
     ·
      try simp only [Bool.not_eq_true', Bool.not_eq_false', decide_eq_true_eq, decide_eq_false_iff_not, Int.not_lt, Int.not_le] at h30
      refine w_pure (want_yes rfl rfl rfl) (y_move (v := .slice _ _ _) rfl rfl) rfl ?_
      obtain ⟨bz, oz, hbz, hz0⟩ := sl_ints hslG (i := 0) (by omega)
      subst hbz
      have hz := hz0.top (F := (b3, blk 26 (l.cells p)) :: F)
      refine w_pure (want_yes rfl rfl rfl) (y_indexS Try.underlying37 Try.sizeOf3 rfl rfl rfl rfl (i := 0) rfl (by omega)) rfl ?_
      refine w_pure (want_yes rfl rfl rfl) (y_load1 Try.isAgg3 hs28 rfl rfl hz) rfl ?_
      refine w_pure (want_yes rfl rfl rfl) (y_move (v := .int _ _) rfl rfl) rfl ?_
      refine w_pure (want_yes rfl rfl rfl) (y_eql rfl rfl rfl rfl) rfl ?_
      refine w_pure want_none (y_pickT (v := .bool _) rfl rfl rfl rfl) rfl ?_
      refine w_pure want_none (y_assign (v := .bool _) rfl rfl) rfl ?_
      refine w_nil ?_
      refine q_blk_normal ?_
      refine q_then (hK20 _ _ ?_)
      refine w_region ?_
      refine w_pure want_none (y_move (v := .int _ _) rfl rfl) rfl ?_
      refine w_pure want_none (y_add rfl rfl rfl rfl (by omega) (by omega)) rfl ?_
      refine w_pure want_none (y_assign (v := .int _ _) rfl rfl) rfl ?_
      refine w_nil ?_
      refine q_then (hN12 _ _ (Nx.intro (ws.length - (i + 1)) (by omega) (by repeat (first | exact agree_mix | refine agree_upd rfl ?_ | refine agree_updL rfl ?_ _ | refine agree_mixin rfl ?_)) ?_))
      first
        | exact ⟨i + 1, bi2 (by rw [must_step hi2, hcd, only_dec (by omega)]; rfl) rfl, by omega, rfl, hs28.drop⟩
        | exact ⟨i + 1, bi2 (by rw [must_step hi2, hcd, only_not (by omega)]; rfl) rfl, by omega, rfl, hs28.drop⟩
        | exact ⟨i + 1, bi2 (by rw [must_step hi2, hcd]; rfl) rfl, by omega, rfl, hs28.drop⟩
     ·
      try simp only [Bool.not_eq_true', Bool.not_eq_false', decide_eq_true_eq, decide_eq_false_iff_not, Int.not_lt, Int.not_le] at h30
      refine w_skipop rfl rfl rfl ?_
      refine w_skipop rfl rfl rfl ?_
      refine w_skipop rfl rfl rfl ?_
      refine w_skipop rfl rfl rfl ?_
      refine w_skipop rfl rfl rfl ?_
      refine w_pure want_none (y_pickF (v := _) rfl rfl rfl rfl) rfl ?_
      refine w_pure want_none (y_assign (v := .bool _) rfl rfl) rfl ?_
      refine w_nil ?_
      refine q_blk_normal ?_
      refine q_then (hK20 _ _ ?_)
      refine w_region ?_
      refine w_pure want_none (y_move (v := .int _ _) rfl rfl) rfl ?_
      refine w_pure want_none (y_add rfl rfl rfl rfl (by omega) (by omega)) rfl ?_
      refine w_pure want_none (y_assign (v := .int _ _) rfl rfl) rfl ?_
      refine w_nil ?_
      refine q_then (hN12 _ _ (Nx.intro (ws.length - (i + 1)) (by omega) (by repeat (first | exact agree_mix | refine agree_upd rfl ?_ | refine agree_updL rfl ?_ _ | refine agree_mixin rfl ?_)) ?_))
      first
        | exact ⟨i + 1, bi2 (by rw [must_step hi2, hcd, only_dec (by omega)]; rfl) rfl, by omega, rfl, hs28.drop⟩
        | exact ⟨i + 1, bi2 (by rw [must_step hi2, hcd, only_not (by omega)]; rfl) rfl, by omega, rfl, hs28.drop⟩
        | exact ⟨i + 1, bi2 (by rw [must_step hi2, hcd]; rfl) rfl, by omega, rfl, hs28.drop⟩
    ·
     subst h29
     refine w_skipop rfl rfl rfl ?_
     refine w_skipop rfl rfl rfl ?_
     refine w_skipop rfl rfl rfl ?_
     refine w_pure want_none (y_pickF (v := _) rfl rfl rfl rfl) rfl ?_
     refine w_pure want_none (y_move (v := .bool _) rfl rfl) rfl ?_
     refine w_skipop rfl rfl rfl ?_
     refine w_skipop rfl rfl rfl ?_
     refine w_skipop rfl rfl rfl ?_
     refine w_skipop rfl rfl rfl ?_
     refine w_skipop rfl rfl rfl ?_
     refine w_pure want_none (y_pickF (v := _) rfl rfl rfl rfl) rfl ?_
     refine w_pure want_none (y_assign (v := .bool _) rfl rfl) rfl ?_
     refine w_nil ?_
     refine q_blk_normal ?_
     refine q_then (hK20 _ _ ?_)
     refine w_region ?_
     refine w_pure want_none (y_move (v := .int _ _) rfl rfl) rfl ?_
     refine w_pure want_none (y_add rfl rfl rfl rfl (by omega) (by omega)) rfl ?_
     refine w_pure want_none (y_assign (v := .int _ _) rfl rfl) rfl ?_
     refine w_nil ?_
     refine q_then (hN12 _ _ (Nx.intro (ws.length - (i + 1)) (by omega) (by repeat (first | exact agree_mix | refine agree_upd rfl ?_ | refine agree_updL rfl ?_ _ | refine agree_mixin rfl ?_)) ?_))
     first
       | exact ⟨i + 1, bi2 (by rw [must_step hi2, hcd, only_dec (by omega)]; rfl) rfl, by omega, rfl, hs28.drop⟩
       | exact ⟨i + 1, bi2 (by rw [must_step hi2, hcd, only_not (by omega)]; rfl) rfl, by omega, rfl, hs28.drop⟩
       | exact ⟨i + 1, bi2 (by rw [must_step hi2, hcd]; rfl) rfl, by omega, rfl, hs28.drop⟩
   ·
    try simp only [Bool.not_eq_true', Bool.not_eq_false', decide_eq_true_eq, decide_eq_false_iff_not, Int.not_lt, Int.not_le] at h19
    refine w_exit ?_
    refine q_then_exit ?_
    refine q_then_exit ?_
    refine q_blk_this ?_
    refine q_then (hK8 _ _ ?_)
    refine w_seq (fun K32 hK31 => ?_)
    refine w_region ?_
    refine w_pure want_none (y_move (v := .bool _) rfl rfl) rfl ?_
    refine w_pure want_none (y_assign (v := .bool _) rfl rfl) rfl ?_
    refine w_nil ?_
    refine q_then (hK31 _ _ ?_)
    refine w_ret ?_
    refine q_ret (l := [.tmp 8]) (vs := [_]) rfl ⟨⟨rfl, show _ = (.bool _ : Value) from rfl⟩, trivial⟩ ?_
    have hil : i = ws.length := by omega
    subst hil
    rw [List.take_length] at hcd
    exact ⟨congrArg Value.bool hcd.symm, hs.tail⟩

end Go.Proofs
/- Plain words of the hand layer: totals, picks and others over the ways, step by step. No conditions. -/
set_option linter.unusedSimpArgs false
set_option linter.unusedVariables false
namespace Go.Rt.Ha
theorem kE_chk (l : Lot) : kE l (check l).2.2 = enterE l 0 := by
  rw [← kE_enter l 0]
  congr 1
  split <;> omega
theorem sumsR_in {l : Lot} {g : Int} {h : List Int} (hh : ∀ b, 0 ≤ at_ h b ∧ at_ h b ≤ 12) : ∀ k, 0 ≤ (sumsR l g h k).1 ∧ (sumsR l g h k).1 ≤ 12 * k ∧ 0 ≤ (sumsR l g h k).2 ∧ (sumsR l g h k).2 ≤ 12 * k
  | 0 => by simp [sumsR]
  | k + 1 => by
    have ih := sumsR_in (l := l) (g := g) hh k
    have hx := hh k
    simp only [sumsR]
    split
    · split <;> (dsimp only; omega)
    · omega
theorem sumsR_a {l : Lot} {g : Int} {h : List Int} {k : Nat} (e : hasI (gradesL l.grades (at_ h k) (scarsOf l k)) g = true) (e2 : (gradesL l.grades (at_ h k) (scarsOf l k)).length = 1) : sumsR l g h (k + 1) = ((sumsR l g h k).1 + at_ h k, (sumsR l g h k).2 + at_ h k) := by
  simp only [sumsR]; rw [if_pos e, if_pos e2]
theorem sumsR_b {l : Lot} {g : Int} {h : List Int} {k : Nat} (e : hasI (gradesL l.grades (at_ h k) (scarsOf l k)) g = true) (e2 : ¬ (gradesL l.grades (at_ h k) (scarsOf l k)).length = 1) : sumsR l g h (k + 1) = ((sumsR l g h k).1, (sumsR l g h k).2 + at_ h k) := by
  simp only [sumsR]; rw [if_pos e, if_neg e2]
theorem sumsR_c {l : Lot} {g : Int} {h : List Int} {k : Nat} (e : hasI (gradesL l.grades (at_ h k) (scarsOf l k)) g = false) : sumsR l g h (k + 1) = sumsR l g h k := by
  simp only [sumsR]; rw [if_neg (by simp [e])]
theorem totalR_take {l : Lot} {g : Int} {ws : List (List Int)} {i : Nat} (h : i < ws.length) : totalR l g (ws.take (i + 1)) = (min (min (totalR l g (ws.take i)).1 (sumsR l g ws[i] l.bunches.length).1) (sumsR l g ws[i] l.bunches.length).2, max (max (totalR l g (ws.take i)).2 (sumsR l g ws[i] l.bunches.length).1) (sumsR l g ws[i] l.bunches.length).2) := fold_take _ _ h
theorem sureR_yes {l : Lot} {ws : List (List Int)} {i : Nat} (h : mustR l ws i (-1) = true) : sureR l ws (i + 1) = sureR l ws i ++ [(i : Int)] := by simp only [sureR]; rw [if_pos h]
theorem sureR_no {l : Lot} {ws : List (List Int)} {i : Nat} (h : mustR l ws i (-1) = false) : sureR l ws (i + 1) = sureR l ws i := by simp only [sureR]; rw [if_neg (by simp [h]), List.append_nil]
theorem mayR_yes {l : Lot} {ws : List (List Int)} {i : Nat} (h : couldR l ws i (-1) = true) : mayR l ws (i + 1) = mayR l ws i ++ [(i : Int)] := by simp only [mayR]; rw [if_pos h]
theorem mayR_no {l : Lot} {ws : List (List Int)} {i : Nat} (h : couldR l ws i (-1) = false) : mayR l ws (i + 1) = mayR l ws i := by simp only [mayR]; rw [if_neg (by simp [h]), List.append_nil]
theorem sureR_len (l : Lot) (ws : List (List Int)) : ∀ n, (sureR l ws n).length ≤ n
  | 0 => by simp [sureR]
  | n + 1 => by have := sureR_len l ws n; simp only [sureR, List.length_append]; split <;> simp <;> omega
theorem mayR_len (l : Lot) (ws : List (List Int)) : ∀ n, (mayR l ws n).length ≤ n
  | 0 => by simp [mayR]
  | n + 1 => by have := mayR_len l ws n; simp only [mayR, List.length_append]; split <;> simp <;> omega
theorem fitR_yes {l : Lot} {ws : List (List Int)} {g b : Nat} (h : noneTo l ws b g (l.grades.length - (g + 1)) = true) : fitR l ws g (b + 1) = fitR l ws g b ++ [(b : Int)] := by simp only [fitR]; rw [if_pos h]
theorem fitR_no {l : Lot} {ws : List (List Int)} {g b : Nat} (h : noneTo l ws b g (l.grades.length - (g + 1)) = false) : fitR l ws g (b + 1) = fitR l ws g b := by simp only [fitR]; rw [if_neg (by simp [h]), List.append_nil]
theorem fitR_in (l : Lot) (ws : List (List Int)) (g : Nat) : ∀ b, (fitR l ws g b).length ≤ b ∧ ∀ z ∈ fitR l ws g b, 0 ≤ z ∧ z < b
  | 0 => by simp [fitR]
  | b + 1 => by
    have ih := fitR_in l ws g b
    simp only [fitR, List.length_append]
    refine ⟨by split <;> simp <;> omega, fun z hz => ?_⟩
    rcases List.mem_append.1 hz with h | h
    · have := ih.2 z h; omega
    · split at h <;> simp at h
      omega
theorem least_take {ws : List (List Int)} {own : List Int} {i : Nat} (h : i < ws.length) : leastR (ws.take (i + 1)) own = min (leastR (ws.take i) own) (someOf ws[i] own) := fold_take _ _ h
theorem some_take {h own : List Int} {k : Nat} (hk : k < own.length) : someOf h (own.take (k + 1)) = someOf h (own.take k) + at_ h own[k].toNat := by rw [List.take_succ_eq_append_getElem hk, someOf_snoc]
theorem often_yes {b : Nat} {n : Int} {ws : List (List Int)} {i : Nat} (h : i < ws.length) (e : at_ ws[i] b = n) : often b n (ws.take (i + 1)) = often b n (ws.take i) + 1 := by rw [often_take h, if_pos e]
theorem often_no {b : Nat} {n : Int} {ws : List (List Int)} {i : Nat} (h : i < ws.length) (e : ¬ at_ ws[i] b = n) : often b n (ws.take (i + 1)) = often b n (ws.take i) := by rw [often_take h, if_neg e]; omega
theorem most_succ (b : Nat) (ws : List (List Int)) (n : Nat) : mostTo b ws (n + 1) = max (mostTo b ws n) (often b (n : Int) ws) := rfl
theorem nextR_yes {ws : List (List Int)} {k : Nat} (h : (spanR k ws).1 < (spanR k ws).2) (h2 : (nextRTo ws k).1 < 0 ∨ leftW k ws < (nextRTo ws k).2) : nextRTo ws (k + 1) = ((k : Int), leftW k ws) := by simp only [nextRTo]; rw [if_pos ⟨h, h2⟩]
theorem nextR_no {ws : List (List Int)} {k : Nat} (h : ¬ (spanR k ws).1 < (spanR k ws).2 ∨ (¬ (nextRTo ws k).1 < 0 ∧ ¬ leftW k ws < (nextRTo ws k).2)) : nextRTo ws (k + 1) = nextRTo ws k := by simp only [nextRTo]; rw [if_neg (by rintro ⟨h1, h2⟩; omega)]
/-! ### Picks -/
def pickC (l : Lot) (g m : Int) : Int := if (check l).2.2 = 0 then pickE l g m else (check l).2.2
theorem pickC_enter (l : Lot) (g m : Int) : kE l (pickC l g m) = enterE l (pickE l g m) := kE_enter l _
theorem pickC_zero {l : Lot} {g m : Int} (h : pickC l g m = 0) : (check l).2.2 = 0 ∧ pickE l g m = 0 := by
  unfold pickC at h
  split at h
  · rename_i h1; exact ⟨h1, h⟩
  · rename_i h1; exact absurd h h1
theorem pickC_e {l : Lot} {g m : Int} (h : ¬ idxC l g l.grades.length = 0) : idxC l g l.grades.length = pickC l g m := by
  unfold pickC pickE
  unfold idxC at h ⊢
  by_cases h1 : (check l).2.2 = 0
  · rw [if_pos h1] at h ⊢
    rw [if_pos h1, if_pos h]
  · rw [if_neg h1, if_neg h1]
theorem pickC_7 {l : Lot} {g m : Int} (h : idxC l g l.grades.length = 0) (h2 : ¬ (0 ≤ m ∧ m ≤ 72)) : 7 = pickC l g m := by
  have h1 := idxC_ok h
  unfold idxC at h
  rw [if_pos h1] at h
  unfold pickC pickE
  rw [if_pos h1, if_neg (by simp [h]), if_pos]
  unfold out; rw [Bool.or_eq_true]; simp; omega
theorem pickC_0 {l : Lot} {g m : Int} (h : idxC l g l.grades.length = 0) (h2 : 0 ≤ m ∧ m ≤ 72) : idxC l g l.grades.length = pickC l g m := by
  have h1 := idxC_ok h
  rw [h]
  unfold idxC at h
  rw [if_pos h1] at h
  unfold pickC pickE
  rw [if_pos h1, if_neg (by simp [h]), if_neg]
  unfold out; rw [Bool.or_eq_true]; simp; omega
theorem sets_split {s : List Int} {k n : Nat} (h : k ≤ n) : ∃ r, setsTo s n = setsTo s k ++ r := by
  obtain ⟨d, rfl⟩ : ∃ d, n = k + d := ⟨n - k, by omega⟩
  clear h
  induction d with
  | zero => exact ⟨[], by simp⟩
  | succ d ih =>
    obtain ⟨r, hr⟩ := ih
    exact ⟨r ++ setsMany s (k + d), by rw [show k + (d + 1) = (k + d) + 1 by omega, setsTo, hr, List.append_assoc]⟩
theorem find_here {s : List Int} {p : List Int → Bool} {k q : Nat} (hk : k ≤ s.length) (h1 : (setsTo s k).find? p = none) (h2 : (((choices s.length k).take q).map (pickL s)).find? p = none) (hq : q < (choices s.length k).length) (hp : p (pickL s (choices s.length k)[q]) = true) : (setsL s).find? p = some (pickL s (choices s.length k)[q]) := by
  obtain ⟨r, hr⟩ := sets_split (s := s) (k := k + 1) (n := s.length + 1) (by omega)
  unfold setsL
  rw [hr, setsTo, List.append_assoc, List.find?_append, h1, Option.none_or, List.find?_append]
  have : (setsMany s k).find? p = some (pickL s (choices s.length k)[q]) := by
    have e : setsMany s k = ((choices s.length k).take q).map (pickL s) ++ (pickL s (choices s.length k)[q] :: ((choices s.length k).drop (q + 1)).map (pickL s)) := by
      unfold setsMany
      rw [← List.map_cons (f := pickL s), ← List.drop_eq_getElem_cons hq, ← List.map_append, List.take_append_drop]
    rw [e, List.find?_append, h2, Option.none_or, List.find?_cons, hp]
  rw [this]; rfl
theorem find_next {s : List Int} {p : List Int → Bool} {k q : Nat} (h2 : (((choices s.length k).take q).map (pickL s)).find? p = none) (hq : q < (choices s.length k).length) (hp : p (pickL s (choices s.length k)[q]) = false) : (((choices s.length k).take (q + 1)).map (pickL s)).find? p = none := by
  rw [List.take_succ_eq_append_getElem hq, List.map_append, List.find?_append, h2, Option.none_or]
  simp [hp]
theorem find_on {s : List Int} {p : List Int → Bool} {k q : Nat} (h1 : (setsTo s k).find? p = none) (h2 : (((choices s.length k).take q).map (pickL s)).find? p = none) (hq : (choices s.length k).length ≤ q) : (setsTo s (k + 1)).find? p = none := by
  rw [List.take_of_length_le hq] at h2
  rw [setsTo, List.find?_append, h1, Option.none_or]; exact h2
theorem pickP_some {l : Lot} {g m : Int} {x : List Int} (he : enterE l (pickE l g m) = 0) (h : (setsL (fitR l (ways l 0) g.toNat l.bunches.length)).find? (fun own => decide (m ≤ leastR (ways l 0) own)) = some x) : pickP l g m = (x, 0) := by
  rw [← pick_same]; unfold pickR; rw [if_neg (by simp [he]), h]
theorem pickP_none {l : Lot} {g m : Int} (he : enterE l (pickE l g m) = 0) (h : (setsL (fitR l (ways l 0) g.toNat l.bunches.length)).find? (fun own => decide (m ≤ leastR (ways l 0) own)) = none) : pickP l g m = ([], 9) := by
  rw [← pick_same]; unfold pickR; rw [if_neg (by simp [he]), h]
theorem wrongP_some {l : Lot} {x : List Int} (hc : (check l).2.2 = 0) (h : (choicesTo l.counts.length l.counts.length).find? (fun x => !(waysR l x).isEmpty) = some x) : wrongP l = (x, 0) := by
  rw [← wrong_same]; unfold wrongR; rw [if_neg (by simp [hc]), h]
theorem wrongP_none {l : Lot} (hc : (check l).2.2 = 0) (h : (choicesTo l.counts.length l.counts.length).find? (fun x => !(waysR l x).isEmpty) = none) : wrongP l = ((choices l.counts.length l.counts.length).getD 0 [], 0) := by
  rw [← wrong_same]; unfold wrongR; rw [if_neg (by simp [hc]), h]
theorem cTo_split {n k m : Nat} (h : k ≤ m) : ∃ r, choicesTo n m = choicesTo n k ++ r := by
  obtain ⟨d, rfl⟩ : ∃ d, m = k + d := ⟨m - k, by omega⟩
  clear h
  induction d with
  | zero => exact ⟨[], by simp⟩
  | succ d ih =>
    obtain ⟨r, hr⟩ := ih
    exact ⟨r ++ choices n (k + d), by rw [show k + (d + 1) = (k + d) + 1 by omega, choicesTo, hr, List.append_assoc]⟩
theorem cfind_here {n : Nat} {p : List Int → Bool} {k q : Nat} (hk : k < n) (h1 : (choicesTo n k).find? p = none) (h2 : ((choices n k).take q).find? p = none) (hq : q < (choices n k).length) (hp : p (choices n k)[q] = true) : (choicesTo n n).find? p = some (choices n k)[q] := by
  obtain ⟨r, hr⟩ := cTo_split (n := n) (k := k + 1) (m := n) (by omega)
  rw [hr, choicesTo, List.append_assoc, List.find?_append, h1, Option.none_or, List.find?_append]
  have : (choices n k).find? p = some (choices n k)[q] := by
    have e : ((choices n k).take q ++ (choices n k).drop q).find? p = some (choices n k)[q] := by
      rw [List.drop_eq_getElem_cons hq, List.find?_append, h2, Option.none_or, List.find?_cons, hp]
    rwa [List.take_append_drop] at e
  rw [this]; rfl
theorem cfind_next {n : Nat} {p : List Int → Bool} {k q : Nat} (h2 : ((choices n k).take q).find? p = none) (hq : q < (choices n k).length) (hp : p (choices n k)[q] = false) : ((choices n k).take (q + 1)).find? p = none := by
  rw [List.take_succ_eq_append_getElem hq, List.find?_append, h2, Option.none_or]; simp [hp]
theorem cfind_on {n : Nat} {p : List Int → Bool} {k q : Nat} (h1 : (choicesTo n k).find? p = none) (h2 : ((choices n k).take q).find? p = none) (hq : (choices n k).length ≤ q) : (choicesTo n (k + 1)).find? p = none := by
  rw [List.take_of_length_le hq] at h2
  rw [choicesTo, List.find?_append, h1, Option.none_or]; exact h2
theorem pick_idx {s : List Int} {k q j : Nat} (hq : q < (choices s.length k).length) (hj : j < ((choices s.length k)[q]).length) : 0 ≤ ((choices s.length k)[q])[j] ∧ ((choices s.length k)[q])[j].toNat < s.length := by
  have h1 := (choices_len (below := s.length) k _ (List.getElem_mem hq)).2 _ (List.getElem_mem hj)
  omega
theorem pickL_in {s : List Int} {k q : Nat} (hq : q < (choices s.length k).length) : ∀ z ∈ pickL s (choices s.length k)[q], z ∈ s := by
  intro z hz
  unfold pickL at hz
  obtain ⟨y, hy, rfl⟩ := List.mem_map.1 hz
  have h1 := (choices_len (below := s.length) k _ (List.getElem_mem hq)).2 y hy
  have hl : y.toNat < s.length := by omega
  simp only [List.getD, List.getElem?_eq_getElem hl, Option.getD_some]
  exact List.getElem_mem hl
end Go.Rt.Ha
/- Walks of this seat, printed by gen.py over the engine: what each function returns, in whatever world. No conditions but those of each contract. -/
set_option linter.unusedVariables false
set_option linter.unusedSimpArgs false
set_option maxRecDepth 20000
namespace Go.Proofs
open Go.Rt Go.Rt.Ha
attribute [local irreducible] WL WC Con Yd At Ats Sl Agree DW
theorem Try_Yd_fb6 (x0 : Option Addr) (l0 c0 : Nat) (w : World) : (Instr.buildSlice 64 1 [(0, .slice x0 l0 c0)].toArray).run Try.prog w = .ok (.slice (some ⟨w.heap.size, 0, none⟩) 1 1) (w.alloc (Go.Rt.blk 37 [.slice x0 l0 c0])) := by kernel_rfl
theorem Try_Yd_fb7  (w : World) : (Instr.buildSlice 37 0 [].toArray).run Try.prog w = .ok (.slice (some ⟨w.heap.size, 0, none⟩) 0 0) (w.alloc (Go.Rt.blk 3 [])) := by kernel_rfl
theorem Try_Yd_fb8 (x0 : Int) (w : World) : (Instr.buildSlice 37 1 [(0, .int .i64 x0)].toArray).run Try.prog w = .ok (.slice (some ⟨w.heap.size, 0, none⟩) 1 1) (w.alloc (Go.Rt.blk 3 [.int .i64 x0])) := by kernel_rfl
theorem c87 {w0 w : World} {F : List (Nat × Obj)} (below many : Nat) (hb12 : below ≤ 11) (hm12 : many ≤ 11) (hs : St w0 w F) : Con Try.prog 87 [.int .i64 (below : Int), .int .i64 (many : Int)] w fun v w' => ∃ (B : List (Nat × Obj)) (vs : List Value) (a : Option Addr) (c : Nat), v = .slice a (choices below many).length c ∧ Sl w0 B a 1 (vs.map fun v => [v]) ∧ EL w0 B vs (choices below many) ∧ St w0 w' (B ++ F) := by
  refine con_of_wc (n := 54) Try.func87 rfl rfl (Nat.le_of_ble_eq_true rfl) ?_
  refine w_seq (fun K2 hK1 => ?_)
  refine w_region ?_
  refine w_pure want_none (y_assign (v := _) rfl rfl) rfl ?_
  refine w_nil ?_
  refine q_then (hK1 _ _ ?_)
  refine w_seq (fun K4 hK3 => ?_)
  refine w_region ?_
  refine w_bslice (ps := [(0, _)]) (pv := [(0, .slice _ _ _)]) (cs := [_]) want_none rfl rfl (fun w => Try_Yd_fb6 _ _ _ w) hs (fun b5 w6 hs7 => ?_)
  refine w_pure want_none (y_assign (v := .slice _ _ _) rfl rfl) rfl ?_
  refine w_nil ?_
  refine q_then (hK3 _ _ ?_)
  refine w_seq (fun K9 hK8 => ?_)
  refine w_seq (fun K11 hK10 => ?_)
  refine w_region ?_
  refine w_pure want_none (y_assign (v := _) rfl rfl) rfl ?_
  refine w_nil ?_
  refine q_then (hK10 _ _ ?_)
  refine w_block ?_
  refine w_loop [5, 6, 7, 8, 9, 10, 12, 13, 14, 15, 16, 17, 18, 19, 20, 21, 22, 23, 24, 25, 26, 27, 28, 29, 30, 31, 32, 33, 34, 35, 36, 37, 38, 39, 40, 41, 42, 43, 44, 45, 46, 47, 48, 49, 50, 51, 52] [5, 6] (fun kk vs0 w => ∃ (i : Nat) (vO : Value) (OB E : List (Nat × Obj)) (vs : List Value), vs0 = [vO, .int .i64 i] ∧ i ≤ many ∧ kk = many - i ∧ Rt.Own vO 37 1 (choices below i).length vs OB ∧ EL w0 E vs (choices below i) ∧ St w0 w (OB ++ (E ++ F))) (many) ?_ ?_
  ·
   exact ⟨0, _, [_], [], [.slice none 0 0], rfl, by omega, by omega, own_lit rfl (by simp [maxLen]), ⟨rfl, fun k hk => ⟨none, 0, by simp [choices] at hk; subst hk; rfl, by simp [choices] at hk; subst hk; exact Sl.nil _ _, fun _ => rfl⟩⟩, hs7⟩
  ·
   intro k vs μ w14 hI K13 hN12
   obtain ⟨i, vO, OB, E, vs, rfl, hia, rfl, hown0, hel, hs⟩ := hI
   refine w_seq (fun K16 hK15 => ?_)
   refine w_seq (fun K18 hK17 => ?_)
   refine w_region ?_
   refine w_pure want_none (y_move (v := .int _ _) rfl rfl) rfl ?_
   refine w_pure want_none (y_move (v := .int _ _) rfl rfl) rfl ?_
   refine w_pure want_none (y_lss rfl rfl rfl rfl) rfl ?_
   refine w_nil ?_
   refine q_then (hK17 _ _ ?_)
   refine w_cond rfl rfl (fun h19 => ?_) (fun h19 => ?_)
   ·
    try simp only [Bool.not_eq_true', Bool.not_eq_false', decide_eq_true_eq, decide_eq_false_iff_not, Int.not_lt, Int.not_le] at h19
    refine w_skip ?_
    refine q_then (hK15 _ _ ?_)
    refine w_seq (fun K21 hK20 => ?_)
    refine w_block ?_
    refine w_seq (fun K23 hK22 => ?_)
    have hi2 : i < many := by omega
    have hcm := choices_max (i := i) hb12 (by omega)
    have hcl := choices_len (below := below) i
    obtain ⟨aO, cO, rfl, hslO⟩ := own_sl_id (w0 := w0) hown0 hel.1 (E ++ F)
    refine w_region ?_
    refine w_pure want_none (y_assign (v := _) rfl rfl) rfl ?_
    refine w_nil ?_
    refine q_then (hK22 _ _ ?_)
    refine w_seq (fun K25 hK24 => ?_)
    refine w_seq (fun K27 hK26 => ?_)
    refine w_region ?_
    refine w_pure want_none (y_assign (v := _) rfl rfl) rfl ?_
    refine w_nil ?_
    refine q_then (hK26 _ _ ?_)
    refine w_block ?_
    refine w_loop [7, 8, 9, 10, 17, 18, 19, 20, 21, 22, 23, 24, 25, 26, 27, 28, 29, 30, 31, 32, 33, 34, 35, 36, 37, 38, 39, 40, 41, 42, 43, 44, 45, 46, 47, 48, 49, 50, 51] [7, 8] (fun kk vs0 w => ∃ (k : Nat) (vN : Value) (NB E1 : List (Nat × Obj)) (ws : List Value), vs0 = [vN, .int .i64 k] ∧ k ≤ (choices below i).length ∧ kk = (choices below i).length - k ∧ Rt.Own vN 37 1 (chTo below i k).length ws NB ∧ EL w0 E1 ws (chTo below i k) ∧ St w0 w (NB ++ (E1 ++ (OB ++ (E ++ F))))) ((choices below i).length) ?_ ?_
    ·
     exact ⟨0, _, [], [], [], rfl, by omega, by omega, own_nil 37 1, EL.nil _ _, hs⟩
    ·
     intro k vs μ w30 hI K29 hN28
     obtain ⟨k, vN, NB, E1, ws, rfl, hka, rfl, hown1, hel1, hs⟩ := hI
     refine w_seq (fun K32 hK31 => ?_)
     refine w_seq (fun K34 hK33 => ?_)
     refine w_region ?_
     refine w_pure want_none (y_move (v := .int _ _) rfl rfl) rfl ?_
     refine w_pure want_none (y_move (v := .slice _ _ _) rfl rfl) rfl ?_
     refine w_pure want_none (y_lenS Try.underlying64 rfl rfl) rfl ?_
     refine w_pure want_none (y_lss rfl rfl rfl rfl) rfl ?_
     refine w_nil ?_
     refine q_then (hK33 _ _ ?_)
     refine w_cond rfl rfl (fun h35 => ?_) (fun h35 => ?_)
     ·
      try simp only [Bool.not_eq_true', Bool.not_eq_false', decide_eq_true_eq, decide_eq_false_iff_not, Int.not_lt, Int.not_le] at h35
      refine w_skip ?_
      refine q_then (hK31 _ _ ?_)
      refine w_seq (fun K37 hK36 => ?_)
      refine w_block ?_
      refine w_seq (fun K39 hK38 => ?_)
      have hk2 : k < (choices below i).length := by omega
      obtain ⟨bx, ox, b2, c2, rfl, hx, hsx0, hnx⟩ := el_at hslO (hel.mono fun _ h => h.drop.front) hk2
      have hxl := (hcl _ (List.getElem_mem hk2)).1
      have hln := leastN_nn (List.getElem_mem hk2)
      refine w_region ?_
      refine w_pure want_none (y_assign (v := _) rfl rfl) rfl ?_
      refine w_nil ?_
      refine q_then (hK38 _ _ ?_)
      refine w_seq (fun K41 hK40 => ?_)
      refine w_cut [9, 23, 24, 25, 26, 27, 28, 29, 30, 31, 32, 33] [9] (fun vs w => vs = [.int .i64 (leastN ((choices below i)[k]'hk2))] ∧ St w0 w (NB ++ (E1 ++ (OB ++ (E ++ F))))) (fun K43 hC42 => ?_) ?_
      ·
       refine w_seq (fun K45 hK44 => ?_)
       refine w_region ?_
       refine w_pure want_none (y_move (v := .int _ _) rfl rfl) rfl ?_
       refine w_pure want_none (y_gtr rfl rfl rfl rfl) rfl ?_
       refine w_nil ?_
       refine q_then (hK44 _ _ ?_)
       refine w_cond rfl rfl (fun h46 => ?_) (fun h46 => ?_)
       ·
        try simp only [Bool.not_eq_true', Bool.not_eq_false', decide_eq_true_eq, decide_eq_false_iff_not, Int.not_lt, Int.not_le] at h46
        obtain ⟨by_, oy, hb2, hy⟩ := sl_ints (i := i - 1) hsx0 (by omega)
        subst hb2
        have hyb := (hcl _ (List.getElem_mem hk2)).2 _ (List.getElem_mem (show i - 1 < ((choices below i)[k]'hk2).length by omega))
        refine w_region ?_
        refine w_pure want_none (y_move (v := .slice _ _ _) rfl rfl) rfl ?_
        refine w_pure want_none (y_move (v := .int _ _) rfl rfl) rfl ?_
        refine w_pure want_none (y_indexS Try.underlying64 Try.sizeOf37 rfl rfl rfl rfl (i := _) rfl (by omega)) rfl ?_
        refine w_pure want_none (y_load1 Try.isAgg37 hs.drop.drop rfl rfl hx) rfl ?_
        refine w_pure want_none (y_move (v := .int _ _) rfl rfl) rfl ?_
        refine w_pure want_none (y_sub rfl rfl rfl rfl (by omega) (by omega)) rfl ?_
        refine w_pure want_none (y_indexS Try.underlying37 Try.sizeOf3 rfl rfl rfl rfl (i := i - 1) (by omega) (by omega)) rfl ?_
        refine w_pure want_none (y_load1 Try.isAgg3 hs.drop.drop rfl rfl hy) rfl ?_
        refine w_pure want_none (y_add rfl rfl rfl rfl (by omega) (by omega)) rfl ?_
        refine w_pure want_none (y_assign (v := .int _ _) rfl rfl) rfl ?_
        refine w_nil ?_
        refine q_then (hC42 _ _ (Md.intro (by repeat (first | exact agree_refl | exact agree_mix | refine agree_upd rfl ?_ | refine agree_updL rfl ?_ _ | refine agree_mixin rfl ?_)) ?_))
        first
          | exact ⟨by rw [leastN_at hxl (by omega)]; rfl, hs⟩
          | exact ⟨by have hi0 : i = 0 := (by omega); have : leastN ((choices below i)[k]'hk2) = 0 := (by unfold leastN; rw [List.getLast?_eq_none_iff.2 (List.eq_nil_of_length_eq_zero (by omega))]); rw [this]; rfl, hs⟩
       ·
        try simp only [Bool.not_eq_true', Bool.not_eq_false', decide_eq_true_eq, decide_eq_false_iff_not, Int.not_lt, Int.not_le] at h46
        refine w_skip ?_
        refine q_then (hC42 _ _ (Md.intro (by repeat (first | exact agree_refl | exact agree_mix | refine agree_upd rfl ?_ | refine agree_updL rfl ?_ _ | refine agree_mixin rfl ?_)) ?_))
        first
          | exact ⟨by rw [leastN_at hxl (by omega)]; rfl, hs⟩
          | exact ⟨by have hi0 : i = 0 := (by omega); have : leastN ((choices below i)[k]'hk2) = 0 := (by unfold leastN; rw [List.getLast?_eq_none_iff.2 (List.eq_nil_of_length_eq_zero (by omega))]); rw [this]; rfl, hs⟩
      ·
       intro vs μ w47 hM
       obtain ⟨rfl, hs⟩ := hM
       refine q_then (hK40 _ _ ?_)
       refine w_seq (fun K49 hK48 => ?_)
       refine w_region ?_
       refine w_pure want_none (y_move (v := .int _ _) rfl rfl) rfl ?_
       refine w_pure want_none (y_assign (v := .int _ _) rfl rfl) rfl ?_
       refine w_nil ?_
       refine q_then (hK48 _ _ ?_)
       refine w_block ?_
       refine w_loop [7, 10, 35, 36, 37, 38, 39, 40, 41, 42, 43, 44, 45, 46, 47, 48, 49, 50, 51] [7, 10] (fun kk vs0 w => ∃ (n : Nat) (vN : Value) (NB E1 : List (Nat × Obj)) (ws : List Value), vs0 = [vN, .int .i64 n] ∧ n ≤ below ∧ leastN ((choices below i)[k]'hk2) ≤ n ∧ kk = below - n ∧ Rt.Own vN 37 1 (chTo below i k ++ nextTo ((choices below i)[k]'hk2) n).length ws NB ∧ EL w0 E1 ws (chTo below i k ++ nextTo ((choices below i)[k]'hk2) n) ∧ St w0 w (NB ++ (E1 ++ (OB ++ (E ++ F))))) (below - (leastN ((choices below i)[k]'hk2)).toNat) ?_ ?_
       ·
        have hn0 : nextTo ((choices below i)[k]'hk2) (leastN ((choices below i)[k]'hk2)).toNat = [] := nextTo_none (by omega)
        exact ⟨(leastN ((choices below i)[k]'hk2)).toNat, vN, NB, E1, ws, by rw [Int.toNat_of_nonneg hln.1]; rfl, by omega, by omega, by omega, by rw [hn0, List.append_nil]; exact hown1, by rw [hn0, List.append_nil]; exact hel1, hs⟩
       ·
        intro k vs μ w52 hI K51 hN50
        obtain ⟨n, vN, NB, E1, ws, rfl, hqa, hqb, rfl, hown2, hel2, hs⟩ := hI
        refine w_seq (fun K54 hK53 => ?_)
        refine w_seq (fun K56 hK55 => ?_)
        refine w_region ?_
        refine w_pure want_none (y_move (v := .int _ _) rfl rfl) rfl ?_
        refine w_pure want_none (y_move (v := .int _ _) rfl rfl) rfl ?_
        refine w_pure want_none (y_lss rfl rfl rfl rfl) rfl ?_
        refine w_nil ?_
        refine q_then (hK55 _ _ ?_)
        refine w_cond rfl rfl (fun h57 => ?_) (fun h57 => ?_)
        ·
         try simp only [Bool.not_eq_true', Bool.not_eq_false', decide_eq_true_eq, decide_eq_false_iff_not, Int.not_lt, Int.not_le] at h57
         refine w_skip ?_
         refine q_then (hK53 _ _ ?_)
         refine w_seq (fun K59 hK58 => ?_)
         refine w_block ?_
         have hq2 : n < below := by omega
         have hnl := nextTo_len ((choices below i)[k]'hk2) n
         have hgl : (chTo below i k).length ≤ 285311670611 := by
           have h1 := flat_le (m := below) ((choices below i).take k) (f := fun x => nextTo x below) fun x _ => nextTo_len x below
           have h2 := choices_max (below := below) (i := i + 1) hb12 (by omega)
           have h3 := List.take_append_drop k (choices below i)
           have h4 : (choices below (i + 1)).length = (chTo below i k).length + (((choices below i).drop k).flatMap fun x => nextTo x below).length := by
             rw [← List.length_append]; unfold chTo; rw [← List.flatMap_append, h3]; rfl
           omega
         refine w_region ?_
         refine w_pure want_none (y_move (v := vN) rfl rfl) rfl ?_
         refine w_bslice (ps := []) (pv := []) (cs := []) want_none rfl rfl (fun w => Try_Yd_fb7  w) hs (fun b60 w61 hs62 => ?_)
         refine w_pure want_none (y_move (v := .slice _ _ _) rfl rfl) rfl ?_
         refine w_pure want_none (y_move (v := .int _ _) rfl rfl) rfl ?_
         refine w_pure want_none (y_indexS Try.underlying64 Try.sizeOf37 rfl rfl rfl rfl (i := _) rfl (by omega)) rfl ?_
         refine w_pure want_none (y_load1 Try.isAgg37 hs62.tail.drop.drop rfl rfl hx) rfl ?_
         refine w_append (X := ([])) (B := [_]) (rows := (((choices below i)[k]'hk2).map fun x => [Value.int .i64 x])) (sz := 1) (bytes := 8) want_none Try.underlying37 Try_info3 rfl rfl rfl rfl rfl rfl rfl rfl rfl hs62 own_made hsx0.app.app.cons (by simp) hnx (ints_one _) (by simp only [maxLen]; omega) (by omega) (fun v63 w64 B65 ho66 hs67 => ?_)
         replace hs67 := (show St _ _ (B65 ++ (NB ++ (E1 ++ (OB ++ (E ++ (F)))))) from hs67)
         refine w_pure want_none (y_move (v := .int _ _) rfl rfl) rfl ?_
         refine w_bslice (ps := [(0, _)]) (pv := [(0, .int _ _)]) (cs := [_]) want_none rfl rfl (fun w => Try_Yd_fb8 _ w) hs67 (fun b68 w69 hs70 => ?_)
         refine w_append (X := (_ :: [])) (B := B65) (rows := [[_]]) (sz := 1) (bytes := 8) want_none Try.underlying37 Try_info3 rfl rfl rfl rfl rfl rfl rfl rfl rfl hs70 ho66 (sl_own (i := 0) rfl (by simp) rfl) rfl (by simp) (by simp [Value.oneCell']) (by simp only [maxLen]; omega) (by omega) (fun v71 w72 B73 ho74 hs75 => ?_)
         replace hs75 := (show St _ _ (_ :: B73 ++ (NB ++ (E1 ++ (OB ++ (E ++ (F)))))) from hs75)
         obtain ⟨a3, c3, rfl, hsl3, hn3, _⟩ := own_ints (w0 := w0) (own_ints1 ho74)
         refine w_bslice (ps := [(0, _)]) (pv := [(0, .slice _ _ _)]) (cs := [_]) want_none rfl rfl (fun w => Try_Yd_fb6 _ _ _ w) hs75 (fun b76 w77 hs78 => ?_)
         refine w_append (X := (_ :: _ :: B73)) (B := NB) (rows := [[_]]) (sz := 1) (bytes := 24) want_none Try.underlying64 Try_info37 rfl rfl rfl rfl rfl rfl rfl rfl rfl hs78 hown2 (sl_own (i := 0) rfl (by simp) rfl) rfl (by simp) (by simp [Value.oneCell']) (by simp only [maxLen, List.length_append]; omega) (by simp only [List.length_append]; omega) (fun v79 w80 B81 ho82 hs83 => ?_)
         replace hs83 := (show St _ _ (_ :: _ :: B73 ++ (B81 ++ (E1 ++ (OB ++ (E ++ (F)))))) from hs83)
         refine w_pure want_none (y_assign (v := v79) rfl rfl) rfl ?_
         refine w_nil ?_
         refine q_blk_normal ?_
         refine q_then (hK58 _ _ ?_)
         refine w_region ?_
         refine w_pure want_none (y_move (v := .int _ _) rfl rfl) rfl ?_
         refine w_pure want_none (y_add rfl rfl rfl rfl (by omega) (by omega)) rfl ?_
         refine w_pure want_none (y_assign (v := .int _ _) rfl rfl) rfl ?_
         refine w_nil ?_
         refine q_then (hN50 _ _ (Nx.intro (below - (n + 1)) (by omega) (by repeat (first | exact agree_mix | refine agree_upd rfl ?_ | refine agree_updL rfl ?_ _ | refine agree_mixin rfl ?_)) ?_))
         exact ⟨n + 1, _, _, B73 ++ E1, _, rfl, by omega, by omega, rfl, by rw [nextTo_succ hqb, ← List.append_assoc]; exact own_el ho82, by rw [nextTo_succ hqb, ← List.append_assoc]; exact el_more hel2 hsl3 hn3, el_perm hs83⟩
        ·
         try simp only [Bool.not_eq_true', Bool.not_eq_false', decide_eq_true_eq, decide_eq_false_iff_not, Int.not_lt, Int.not_le] at h57
         refine w_exit ?_
         refine q_then_exit ?_
         refine q_then_exit ?_
         refine q_blk_this ?_
         refine q_blk_normal ?_
         refine q_then (hK36 _ _ ?_)
         refine w_region ?_
         refine w_pure want_none (y_move (v := .int _ _) rfl rfl) rfl ?_
         refine w_pure want_none (y_add rfl rfl rfl rfl (by omega) (by omega)) rfl ?_
         refine w_pure want_none (y_assign (v := .int _ _) rfl rfl) rfl ?_
         refine w_nil ?_
         refine q_then (hN28 _ _ (Nx.intro ((choices below i).length - (k + 1)) (by omega) (by repeat (first | exact agree_mix | refine agree_upd rfl ?_ | refine agree_updL rfl ?_ _ | refine agree_mixin rfl ?_)) ?_))
         have hqb : n = below := by omega
         subst hqb
         exact ⟨k + 1, vN, NB, E1, ws, rfl, by omega, by omega, by rw [chTo_succ hk2]; exact hown2, by rw [chTo_succ hk2]; exact hel2, hs⟩
     ·
      try simp only [Bool.not_eq_true', Bool.not_eq_false', decide_eq_true_eq, decide_eq_false_iff_not, Int.not_lt, Int.not_le] at h35
      refine w_exit ?_
      refine q_then_exit ?_
      refine q_then_exit ?_
      refine q_blk_this ?_
      refine q_then (hK24 _ _ ?_)
      refine w_region ?_
      refine w_pure want_none (y_move (v := vN) rfl rfl) rfl ?_
      refine w_pure want_none (y_assign (v := vN) rfl rfl) rfl ?_
      refine w_nil ?_
      refine q_blk_normal ?_
      refine q_then (hK20 _ _ ?_)
      refine w_region ?_
      refine w_pure want_none (y_move (v := .int _ _) rfl rfl) rfl ?_
      refine w_pure want_none (y_add rfl rfl rfl rfl (by omega) (by omega)) rfl ?_
      refine w_pure want_none (y_assign (v := .int _ _) rfl rfl) rfl ?_
      refine w_nil ?_
      refine q_then (hN12 _ _ (Nx.intro (many - (i + 1)) (by omega) (by repeat (first | exact agree_mix | refine agree_upd rfl ?_ | refine agree_updL rfl ?_ _ | refine agree_mixin rfl ?_)) ?_))
      rw [chTo_all (by omega)] at hown1 hel1
      exact ⟨i + 1, vN, NB, E1, ws, rfl, by omega, rfl, hown1, hel1, (hs.perm (el_drop2 NB E1 OB E F)).drop⟩
   ·
    try simp only [Bool.not_eq_true', Bool.not_eq_false', decide_eq_true_eq, decide_eq_false_iff_not, Int.not_lt, Int.not_le] at h19
    refine w_exit ?_
    refine q_then_exit ?_
    refine q_then_exit ?_
    refine q_blk_this ?_
    refine q_then (hK8 _ _ ?_)
    refine w_seq (fun K85 hK84 => ?_)
    refine w_region ?_
    refine w_pure want_none (y_move (v := vO) rfl rfl) rfl ?_
    refine w_pure want_none (y_assign (v := vO) rfl rfl) rfl ?_
    refine w_nil ?_
    refine q_then (hK84 _ _ ?_)
    refine w_ret ?_
    refine q_ret (l := [.tmp 4]) (vs := [_]) rfl ⟨⟨rfl, show _ = (vO : Value) from rfl⟩, trivial⟩ ?_
    have hin : i = many := by omega
    subst hin
    obtain ⟨aO, cO, rfl, hslO⟩ := own_sl_id (w0 := w0) hown0 hel.1 E
    exact ⟨OB ++ E, vs, aO, cO, rfl, hslO, hel.app, by rw [List.append_assoc]; exact hs⟩

theorem c46 {w0 w : World} {F : List (Nat × Obj)} (l : Lot) (p : At3) (hm : LIn w0 F l p) (hok : l.Ok) (a : Option Addr) (c : Nat) (ws : List (List Int)) (vs : List Value) (hsl : Sl w0 F a 1 (vs.map fun v => [v])) (hel : EL w0 F vs ws) (hwl : ws.length ≤ 4096) (hlen0 : ∀ h ∈ ws, h.length = l.bunches.length) (g : Nat) (hg : g < l.grades.length) (hs : St w0 w F) :
  Con Try.prog 46 [.agg (l.cells p).toArray, .slice a ws.length c, .int .i64 (g : Int)] w fun v w' => ∃ B, Rt.Own v 3 1 (fitR l ws g l.bunches.length).length (iv (fitR l ws g l.bunches.length)) B ∧ St w0 w' (B ++ F) := by
  refine con_of_wc (n := 47) Try.func46 rfl rfl (Nat.le_of_ble_eq_true rfl) ?_
  have hlg := hok.lg
  have hlb := hok.lb
  refine w_seq (fun K2 hK1 => ?_)
  refine w_region ?_
  refine w_box (v := .agg #[.slice _ _ _, .slice _ _ _, .slice _ _ _]) (cs := [_, _, _]) want_none rfl rfl rfl hs (fun b3 w4 hs5 => ?_)
  refine w_pure want_none (y_assign (v := _) rfl rfl) rfl ?_
  refine w_nil ?_
  refine q_then (hK1 _ _ ?_)
  refine w_seq (fun K7 hK6 => ?_)
  have hbx := ats_ofR (i := 0) (vs := l.cells p) hs5 rfl rfl
  refine w_region ?_
  refine w_pure want_none (y_assign (v := _) rfl rfl) rfl ?_
  refine w_nil ?_
  refine q_then (hK6 _ _ ?_)
  refine w_seq (fun K9 hK8 => ?_)
  refine w_seq (fun K11 hK10 => ?_)
  refine w_region ?_
  refine w_pure want_none (y_assign (v := _) rfl rfl) rfl ?_
  refine w_nil ?_
  refine q_then (hK10 _ _ ?_)
  refine w_block ?_
  refine w_loop [7, 8, 9, 10, 11, 12, 13, 14, 15, 16, 17, 18, 19, 20, 21, 22, 23, 24, 25, 26, 27, 28, 29, 30, 31, 32, 33, 34, 35, 36, 37, 38, 39, 40, 41, 42, 43, 44, 45] [7, 8] (fun kk vs0 w => ∃ (i : Nat) (v : Value) (OB : List (Nat × Obj)), vs0 = [v, .int .i64 i] ∧ i ≤ l.bunches.length ∧ kk = l.bunches.length - i ∧ Rt.Own v 3 1 (fitR l ws g i).length (iv (fitR l ws g i)) OB ∧ St w0 w (OB ++ ((b3, blk 26 (l.cells p)) :: F))) (l.bunches.length) ?_ ?_
  ·
   exact ⟨0, _, [], rfl, by omega, by omega, own_nil 3 1, hs5⟩
  ·
   intro k vs μ w14 hI K13 hN12
   obtain ⟨i, v, OB, rfl, hia, rfl, hown, hs⟩ := hI
   refine w_seq (fun K16 hK15 => ?_)
   refine w_seq (fun K18 hK17 => ?_)
   refine w_region ?_
   refine w_pure want_none (y_move (v := .int _ _) rfl rfl) rfl ?_
   refine w_pure want_none (y_fieldAddr (o := 1) (i := 1) Try.underlying26 rfl Try.sizeOf23 rfl rfl rfl) rfl ?_
   refine w_pure want_none (y_load1 Try.isAgg23 hs.drop rfl rfl (show Ats _ _ _ _ [_] from Ats.part hbx 1 1)) rfl ?_
   refine w_pure want_none (y_lenS Try.underlying23 rfl rfl) rfl ?_
   refine w_pure want_none (y_lss rfl rfl rfl rfl) rfl ?_
   refine w_nil ?_
   refine q_then (hK17 _ _ ?_)
   refine w_cond rfl rfl (fun h19 => ?_) (fun h19 => ?_)
   ·
    try simp only [Bool.not_eq_true', Bool.not_eq_false', decide_eq_true_eq, decide_eq_false_iff_not, Int.not_lt, Int.not_le] at h19
    refine w_skip ?_
    refine q_then (hK15 _ _ ?_)
    refine w_seq (fun K21 hK20 => ?_)
    refine w_block ?_
    refine w_seq (fun K23 hK22 => ?_)
    have hi2 : i < l.bunches.length := by omega
    have hfl := (fitR_in l ws g i).1
    refine w_region ?_
    refine w_pure want_none (y_loadN (vs := [_, _, _]) Try.isAgg26 Try.sizeOf26 hs.drop rfl rfl hbx) rfl ?_
    refine w_pure want_none (y_move (v := .slice _ _ _) rfl rfl) rfl ?_
    refine w_pure want_none (y_move (v := .int _ _) rfl rfl) rfl ?_
    refine w_call want_none Try.call76 rfl rfl rfl rfl (c76 l p hm.cons.app hok _ _ ws vs hsl.cons.app hel.cons.app hwl i hi2 (fun h hh => by rw [hlen0 h hh]; omega) (-1) hs) ?_
    rintro _ w25 ⟨rfl, hs26⟩
    refine w_pure want_none (y_not rfl rfl) rfl ?_
    refine w_pure want_none (y_assign (v := .bool _) rfl rfl) rfl ?_
    refine w_nil ?_
    refine q_then (hK22 _ _ ?_)
    refine w_seq (fun K28 hK27 => ?_)
    refine w_seq (fun K30 hK29 => ?_)
    refine w_region ?_
    refine w_pure want_none (y_move (v := .int _ _) rfl rfl) rfl ?_
    refine w_pure want_none (y_add rfl rfl rfl rfl (by omega) (by omega)) rfl ?_
    refine w_pure want_none (y_assign (v := .int _ _) rfl rfl) rfl ?_
    refine w_nil ?_
    refine q_then (hK29 _ _ ?_)
    refine w_block ?_
    refine w_loop [9, 10, 25, 26, 27, 28, 29, 30, 31, 32, 33, 34, 35, 36, 37, 38, 39, 40] [9, 10] (fun kk vs0 w => ∃ (q : Nat), vs0 = [.bool (noneTo l ws i g q), .int .i64 ((g : Int) + 1 + q)] ∧ q ≤ (l.grades.length - (g + 1)) ∧ kk = (l.grades.length - (g + 1)) - q ∧ St w0 w (OB ++ ((b3, blk 26 (l.cells p)) :: F))) ((l.grades.length - (g + 1))) ?_ ?_
    ·
     exact ⟨0, bi2 rfl (by omega), by omega, by omega, hs26⟩
    ·
     intro k vs μ w33 hI K32 hN31
     obtain ⟨q, rfl, hqa, rfl, hs⟩ := hI
     generalize hnt : (noneTo l ws i g q) = nt
     refine w_seq (fun K35 hK34 => ?_)
     refine w_seq (fun K37 hK36 => ?_)
     refine w_region ?_
     refine w_pure want_none (y_move (v := .int _ _) rfl rfl) rfl ?_
     refine w_pure want_none (y_fieldAddr (o := 0) (i := 0) Try.underlying26 rfl Try.sizeOf22 rfl rfl rfl) rfl ?_
     refine w_pure want_none (y_load1 Try.isAgg22 hs.drop rfl rfl (show Ats _ _ _ _ [_] from Ats.part hbx 0 1)) rfl ?_
     refine w_pure want_none (y_lenS Try.underlying22 rfl rfl) rfl ?_
     refine w_pure want_none (y_lss rfl rfl rfl rfl) rfl ?_
     refine w_nil ?_
     refine q_then (hK36 _ _ ?_)
     refine w_cond rfl rfl (fun h38 => ?_) (fun h38 => ?_)
     ·
      try simp only [Bool.not_eq_true', Bool.not_eq_false', decide_eq_true_eq, decide_eq_false_iff_not, Int.not_lt, Int.not_le] at h38
      refine w_skip ?_
      refine q_then (hK34 _ _ ?_)
      refine w_seq (fun K40 hK39 => ?_)
      refine w_block ?_
      refine w_region ?_
      refine w_pure want_none (y_move (v := .bool _) rfl rfl) rfl ?_
      refine w_pure want_none (y_move (v := .bool _) rfl rfl) rfl ?_
      refine w_split (fun h41 => ?_) (fun h41 => ?_)
      ·
       subst h41
       refine w_pure (want_yes rfl rfl rfl) (y_loadN (vs := [_, _, _]) Try.isAgg26 Try.sizeOf26 hs.drop rfl rfl hbx) rfl ?_
       refine w_pure (want_yes rfl rfl rfl) (y_move (v := .slice _ _ _) rfl rfl) rfl ?_
       refine w_pure (want_yes rfl rfl rfl) (y_move (v := .int _ _) rfl rfl) rfl ?_
       refine w_pure (want_yes rfl rfl rfl) (y_move (v := .int _ _) rfl rfl) rfl ?_
       refine w_call (want_yes rfl rfl rfl) Try.call76 rfl rfl rfl rfl (c76 l p hm.cons.app hok _ _ ws vs hsl.cons.app hel.cons.app hwl i hi2 (fun h hh => by rw [hlen0 h hh]; omega) ((g : Int) + 1 + q) hs) ?_
       rintro _ w43 ⟨rfl, hs44⟩
       refine w_pure (want_yes rfl rfl rfl) (y_not rfl rfl) rfl ?_
       refine w_pure want_none (y_pickT (v := .bool _) rfl rfl rfl rfl) rfl ?_
       refine w_pure want_none (y_assign (v := .bool _) rfl rfl) rfl ?_
       refine w_nil ?_
       refine q_blk_normal ?_
       refine q_then (hK39 _ _ ?_)
       refine w_region ?_
       refine w_pure want_none (y_move (v := .int _ _) rfl rfl) rfl ?_
       refine w_pure want_none (y_add rfl rfl rfl rfl (by omega) (by omega)) rfl ?_
       refine w_pure want_none (y_assign (v := .int _ _) rfl rfl) rfl ?_
       refine w_nil ?_
       refine q_then (hN31 _ _ (Nx.intro ((l.grades.length - (g + 1)) - (q + 1)) (by omega) (by repeat (first | exact agree_mix | refine agree_upd rfl ?_ | refine agree_updL rfl ?_ _ | refine agree_mixin rfl ?_)) ?_))
       exact ⟨q + 1, bi2 (by simp only [noneTo]; rw [hnt]; rfl) (by omega), by omega, rfl, hs44⟩
      ·
       subst h41
       refine w_skipop rfl rfl rfl ?_
       refine w_skipop rfl rfl rfl ?_
       refine w_skipop rfl rfl rfl ?_
       refine w_skipop rfl rfl rfl ?_
       refine w_skipop rfl rfl rfl ?_
       refine w_skipop rfl rfl rfl ?_
       refine w_pure want_none (y_pickF (v := _) rfl rfl rfl rfl) rfl ?_
       refine w_pure want_none (y_assign (v := .bool _) rfl rfl) rfl ?_
       refine w_nil ?_
       refine q_blk_normal ?_
       refine q_then (hK39 _ _ ?_)
       refine w_region ?_
       refine w_pure want_none (y_move (v := .int _ _) rfl rfl) rfl ?_
       refine w_pure want_none (y_add rfl rfl rfl rfl (by omega) (by omega)) rfl ?_
       refine w_pure want_none (y_assign (v := .int _ _) rfl rfl) rfl ?_
       refine w_nil ?_
       refine q_then (hN31 _ _ (Nx.intro ((l.grades.length - (g + 1)) - (q + 1)) (by omega) (by repeat (first | exact agree_mix | refine agree_upd rfl ?_ | refine agree_updL rfl ?_ _ | refine agree_mixin rfl ?_)) ?_))
       exact ⟨q + 1, bi2 (by simp only [noneTo]; rw [hnt]; rfl) (by omega), by omega, rfl, hs⟩
     ·
      try simp only [Bool.not_eq_true', Bool.not_eq_false', decide_eq_true_eq, decide_eq_false_iff_not, Int.not_lt, Int.not_le] at h38
      refine w_exit ?_
      refine q_then_exit ?_
      refine q_then_exit ?_
      refine q_blk_this ?_
      refine q_then (hK27 _ _ ?_)
      refine w_seq (fun K46 hK45 => ?_)
      refine w_region ?_
      refine w_pure want_none (y_move (v := .bool _) rfl rfl) rfl ?_
      refine w_nil ?_
      refine q_then (hK45 _ _ ?_)
      refine w_cond rfl rfl (fun h47 => ?_) (fun h47 => ?_)
      ·
       subst h47
       refine w_region ?_
       refine w_pure want_none (y_move (v := v) rfl rfl) rfl ?_
       refine w_pure want_none (y_move (v := .int _ _) rfl rfl) rfl ?_
       refine w_bslice (ps := [(0, _)]) (pv := [(0, .int _ _)]) (cs := [_]) want_none rfl rfl (fun w => Try_Yd_fb8 _ w) hs (fun b48 w49 hs50 => ?_)
       refine w_append (X := (_ :: [])) (B := OB) (rows := [[_]]) (sz := 1) (bytes := 8) want_none Try.underlying37 Try_info3 rfl rfl rfl rfl rfl rfl rfl rfl rfl hs50 hown (sl_own (i := 0) rfl (by simp) rfl) rfl (by simp) (by simp [Value.oneCell']) (by simp only [maxLen]; omega) (by omega) (fun v51 w52 B53 ho54 hs55 => ?_)
       replace hs55 := (show St _ _ (_ :: B53 ++ (_ :: F)) from hs55)
       refine w_pure want_none (y_assign (v := v51) rfl rfl) rfl ?_
       refine w_nil ?_
       refine q_blk_normal ?_
       refine q_then (hK20 _ _ ?_)
       refine w_region ?_
       refine w_pure want_none (y_move (v := .int _ _) rfl rfl) rfl ?_
       refine w_pure want_none (y_add rfl rfl rfl rfl (by omega) (by omega)) rfl ?_
       refine w_pure want_none (y_assign (v := .int _ _) rfl rfl) rfl ?_
       refine w_nil ?_
       refine q_then (hN12 _ _ (Nx.intro (l.bunches.length - (i + 1)) (by omega) (by repeat (first | exact agree_mix | refine agree_upd rfl ?_ | refine agree_updL rfl ?_ _ | refine agree_mixin rfl ?_)) ?_))
       have hqn : q = (l.grades.length - (g + 1)) := by omega
       subst hqn
       exact ⟨i + 1, _, _, rfl, by omega, rfl, by rw [fitR_yes hnt]; exact own_snoc ho54, hs55.tail⟩
      ·
       subst h47
       refine w_skip ?_
       refine q_blk_normal ?_
       refine q_then (hK20 _ _ ?_)
       refine w_region ?_
       refine w_pure want_none (y_move (v := .int _ _) rfl rfl) rfl ?_
       refine w_pure want_none (y_add rfl rfl rfl rfl (by omega) (by omega)) rfl ?_
       refine w_pure want_none (y_assign (v := .int _ _) rfl rfl) rfl ?_
       refine w_nil ?_
       refine q_then (hN12 _ _ (Nx.intro (l.bunches.length - (i + 1)) (by omega) (by repeat (first | exact agree_mix | refine agree_upd rfl ?_ | refine agree_updL rfl ?_ _ | refine agree_mixin rfl ?_)) ?_))
       have hqn : q = (l.grades.length - (g + 1)) := by omega
       subst hqn
       exact ⟨i + 1, v, OB, rfl, by omega, rfl, by rw [fitR_no hnt]; exact hown, hs⟩
   ·
    try simp only [Bool.not_eq_true', Bool.not_eq_false', decide_eq_true_eq, decide_eq_false_iff_not, Int.not_lt, Int.not_le] at h19
    refine w_exit ?_
    refine q_then_exit ?_
    refine q_then_exit ?_
    refine q_blk_this ?_
    refine q_then (hK8 _ _ ?_)
    refine w_seq (fun K57 hK56 => ?_)
    refine w_region ?_
    refine w_pure want_none (y_move (v := v) rfl rfl) rfl ?_
    refine w_pure want_none (y_assign (v := v) rfl rfl) rfl ?_
    refine w_nil ?_
    refine q_then (hK56 _ _ ?_)
    refine w_ret ?_
    refine q_ret (l := [.tmp 6]) (vs := [_]) rfl ⟨⟨rfl, show _ = (v : Value) from rfl⟩, trivial⟩ ?_
    have hin : i = l.bunches.length := by omega
    subst hin
    exact ⟨OB, hown, kq_own hs⟩

theorem c48 {w0 w : World} {F : List (Nat × Obj)} (a : Option Addr) (c : Nat) (ws : List (List Int)) (vs : List Value) (hsl : Sl w0 F a 1 (vs.map fun v => [v])) (hel : EL w0 F vs ws) (hwl : ws.length ≤ 4096) (n : Nat) (hlen0 : ∀ h ∈ ws, h.length = n) (h12 : ∀ h ∈ ws, ∀ b, 0 ≤ at_ h b ∧ at_ h b ≤ 12) (ao : Option Addr) (co : Nat) (own : List Int) (hol : own.length ≤ 6) (hoi : ∀ z ∈ own, 0 ≤ z ∧ z < n) (hos : Sl w0 F ao 1 (own.map fun x => [Value.int .i64 x])) (hs : St w0 w F) :
  Con Try.prog 48 [.slice a ws.length c, .slice ao own.length co] w fun v w' => v = .int .i64 (leastR ws own) ∧ St w0 w' F := by
  refine con_of_wc (n := 37) Try.func48 rfl rfl (Nat.le_of_ble_eq_true rfl) ?_
  refine w_seq (fun K2 hK1 => ?_)
  refine w_region ?_
  refine w_pure want_none (y_assign (v := _) rfl rfl) rfl ?_
  refine w_nil ?_
  refine q_then (hK1 _ _ ?_)
  refine w_seq (fun K4 hK3 => ?_)
  refine w_region ?_
  refine w_pure want_none (y_assign (v := _) rfl rfl) rfl ?_
  refine w_nil ?_
  refine q_then (hK3 _ _ ?_)
  refine w_seq (fun K6 hK5 => ?_)
  refine w_seq (fun K8 hK7 => ?_)
  refine w_region ?_
  refine w_pure want_none (y_assign (v := _) rfl rfl) rfl ?_
  refine w_nil ?_
  refine q_then (hK7 _ _ ?_)
  refine w_block ?_
  refine w_loop [5, 6, 7, 8, 9, 10, 11, 12, 13, 14, 15, 16, 17, 18, 19, 20, 21, 22, 23, 24, 25, 26, 27, 28, 29, 30, 31, 32, 33, 34, 35] [5, 6] (fun k vs0 w => ∃ (i : Nat), vs0 = [.int .i64 (leastR (ws.take i) own), .int .i64 i] ∧ i ≤ ws.length ∧ k = ws.length - i ∧ St w0 w F) (ws.length) ?_ ?_
  ·
   exact ⟨0, rfl, by omega, by omega, hs⟩
  ·
   intro k vs μ w11 hI K10 hN9
   obtain ⟨i, rfl, hia, rfl, hs⟩ := hI
   refine w_seq (fun K13 hK12 => ?_)
   refine w_seq (fun K15 hK14 => ?_)
   refine w_region ?_
   refine w_pure want_none (y_move (v := .int _ _) rfl rfl) rfl ?_
   refine w_pure want_none (y_move (v := .slice _ _ _) rfl rfl) rfl ?_
   refine w_pure want_none (y_lenS Try.underlying64 rfl rfl) rfl ?_
   refine w_pure want_none (y_lss rfl rfl rfl rfl) rfl ?_
   refine w_nil ?_
   refine q_then (hK14 _ _ ?_)
   refine w_cond rfl rfl (fun h16 => ?_) (fun h16 => ?_)
   ·
    try simp only [Bool.not_eq_true', Bool.not_eq_false', decide_eq_true_eq, decide_eq_false_iff_not, Int.not_lt, Int.not_le] at h16
    refine w_skip ?_
    refine q_then (hK12 _ _ ?_)
    refine w_seq (fun K18 hK17 => ?_)
    refine w_block ?_
    refine w_seq (fun K20 hK19 => ?_)
    have hi2 : i < ws.length := by omega
    obtain ⟨bx, ox, e2, q2, ha, hx, hsx, _⟩ := el_at hsl hel hi2
    subst ha
    have hlen := hlen0 _ (List.getElem_mem hi2)
    have hwi := h12 _ (List.getElem_mem hi2)
    refine w_region ?_
    refine w_pure want_none (y_assign (v := _) rfl rfl) rfl ?_
    refine w_nil ?_
    refine q_then (hK19 _ _ ?_)
    refine w_seq (fun K22 hK21 => ?_)
    refine w_seq (fun K24 hK23 => ?_)
    refine w_region ?_
    refine w_pure want_none (y_assign (v := _) rfl rfl) rfl ?_
    refine w_nil ?_
    refine q_then (hK23 _ _ ?_)
    refine w_block ?_
    refine w_loop [7, 8, 15, 16, 17, 18, 19, 20, 21, 22, 23, 24, 25, 26, 27, 28, 29, 30, 31, 32] [7, 8] (fun k vs0 w => ∃ (q : Nat), vs0 = [.int .i64 (someOf (ws[i]'hi2) (own.take q)), .int .i64 q] ∧ q ≤ own.length ∧ k = own.length - q ∧ St w0 w F) (own.length) ?_ ?_
    ·
     exact ⟨0, rfl, by omega, by omega, hs⟩
    ·
     intro k vs μ w27 hI K26 hN25
     obtain ⟨q, rfl, hqa, rfl, hs⟩ := hI
     refine w_seq (fun K29 hK28 => ?_)
     refine w_seq (fun K31 hK30 => ?_)
     refine w_region ?_
     refine w_pure want_none (y_move (v := .int _ _) rfl rfl) rfl ?_
     refine w_pure want_none (y_move (v := .slice _ _ _) rfl rfl) rfl ?_
     refine w_pure want_none (y_lenS Try.underlying37 rfl rfl) rfl ?_
     refine w_pure want_none (y_lss rfl rfl rfl rfl) rfl ?_
     refine w_nil ?_
     refine q_then (hK30 _ _ ?_)
     refine w_cond rfl rfl (fun h32 => ?_) (fun h32 => ?_)
     ·
      try simp only [Bool.not_eq_true', Bool.not_eq_false', decide_eq_true_eq, decide_eq_false_iff_not, Int.not_lt, Int.not_le] at h32
      refine w_skip ?_
      refine q_then (hK28 _ _ ?_)
      refine w_seq (fun K34 hK33 => ?_)
      refine w_block ?_
      have hq2 : q < own.length := by omega
      have hz := hoi _ (List.getElem_mem hq2)
      have hbi : (own[q]'hq2).toNat < (ws[i]'hi2).length := by omega
      obtain ⟨c1, p1, he1, hy⟩ := sl_ints hsx hbi
      subst he1
      obtain ⟨c2, p2, he2, hw⟩ := sl_ints hos hq2
      subst he2
      have hsi := someOf_in hwi (own.take q)
      have hsl2 : (own.take q).length = q := by rw [List.length_take]; omega
      have hgz := hwi (own[q]'hq2).toNat
      rw [at_get hbi] at hgz
      refine w_draw [] [(0, 0), (1, 0), (2, 0), (3, 0), (4, 1), (5, 0), (6, 0), (7, 0), (8, 1), (9, 0), (10, 1), (11, 0), (12, 0)] Try_mo (drawOK_of (by kernel_rfl)) hs (fun w35 hs36 => ?_)
      refine d_any rfl want_none rfl (fun _ => (y_move (v := .int _ _) rfl rfl)) ?_
      refine d_any rfl want_none rfl (fun _ => (y_move (v := .slice _ _ _) rfl rfl)) ?_
      refine d_any rfl want_none rfl (fun _ => (y_move (v := .int _ _) rfl rfl)) ?_
      refine d_any rfl want_none rfl (fun _ => (y_indexS Try.underlying64 Try.sizeOf37 rfl rfl rfl rfl (i := _) rfl (by omega))) ?_
      refine d_take rfl want_none rfl hs36 (fun _ hq => (y_load1 Try.isAgg37 hq rfl rfl hx)) ?_
      refine d_any rfl want_none rfl (fun _ => (y_move (v := .slice _ _ _) rfl rfl)) ?_
      refine d_any rfl want_none rfl (fun _ => (y_move (v := .int _ _) rfl rfl)) ?_
      refine d_any rfl want_none rfl (fun _ => (y_indexS Try.underlying37 Try.sizeOf3 rfl rfl rfl rfl (i := _) rfl (by omega))) ?_
      refine d_take rfl want_none rfl hs36 (fun _ hq => (y_load1 Try.isAgg3 hq rfl rfl hw)) ?_
      refine d_any rfl want_none rfl (fun _ => (y_indexS Try.underlying37 Try.sizeOf3 rfl rfl rfl rfl (i := (own[q]'hq2).toNat) (by omega) (by omega))) ?_
      refine d_take rfl want_none rfl hs36 (fun _ hq => (y_load1 Try.isAgg3 hq rfl rfl hy)) ?_
      refine d_any rfl want_none rfl (fun _ => (y_add rfl rfl rfl rfl (by omega) (by omega))) ?_
      refine d_any rfl want_none rfl (fun _ => (y_assign (v := .int _ _) rfl rfl)) ?_
      refine d_nil ?_
      refine q_blk_normal ?_
      refine q_then (hK33 _ _ ?_)
      refine w_region ?_
      refine w_pure want_none (y_move (v := .int _ _) rfl rfl) rfl ?_
      refine w_pure want_none (y_add rfl rfl rfl rfl (by omega) (by omega)) rfl ?_
      refine w_pure want_none (y_assign (v := .int _ _) rfl rfl) rfl ?_
      refine w_nil ?_
      refine q_then (hN25 _ _ (Nx.intro (own.length - (q + 1)) (by omega) (by repeat (first | exact agree_mix | refine agree_upd rfl ?_ | refine agree_updL rfl ?_ _ | refine agree_mixin rfl ?_)) ?_))
      exact ⟨q + 1, iv2 (by rw [some_take hq2, at_get hbi]) rfl, by omega, rfl, hs36⟩
     ·
      try simp only [Bool.not_eq_true', Bool.not_eq_false', decide_eq_true_eq, decide_eq_false_iff_not, Int.not_lt, Int.not_le] at h32
      refine w_exit ?_
      refine q_then_exit ?_
      refine q_then_exit ?_
      refine q_blk_this ?_
      refine q_then (hK21 _ _ ?_)
      refine w_region ?_
      refine w_pure want_none (y_move (v := .int _ _) rfl rfl) rfl ?_
      refine w_pure want_none (y_move (v := .int _ _) rfl rfl) rfl ?_
      refine w_pure want_none (y_min2 rfl rfl rfl rfl) rfl ?_
      refine w_pure want_none (y_assign (v := .int _ _) rfl rfl) rfl ?_
      refine w_nil ?_
      refine q_blk_normal ?_
      refine q_then (hK17 _ _ ?_)
      refine w_region ?_
      refine w_pure want_none (y_move (v := .int _ _) rfl rfl) rfl ?_
      refine w_pure want_none (y_add rfl rfl rfl rfl (by omega) (by omega)) rfl ?_
      refine w_pure want_none (y_assign (v := .int _ _) rfl rfl) rfl ?_
      refine w_nil ?_
      refine q_then (hN9 _ _ (Nx.intro (ws.length - (i + 1)) (by omega) (by repeat (first | exact agree_mix | refine agree_upd rfl ?_ | refine agree_updL rfl ?_ _ | refine agree_mixin rfl ?_)) ?_))
      have hqn : q = own.length := by omega
      subst hqn
      exact ⟨i + 1, iv2 (by rw [least_take hi2, List.take_length]) rfl, by omega, rfl, hs⟩
   ·
    try simp only [Bool.not_eq_true', Bool.not_eq_false', decide_eq_true_eq, decide_eq_false_iff_not, Int.not_lt, Int.not_le] at h16
    refine w_exit ?_
    refine q_then_exit ?_
    refine q_then_exit ?_
    refine q_blk_this ?_
    refine q_then (hK5 _ _ ?_)
    refine w_seq (fun K38 hK37 => ?_)
    refine w_region ?_
    refine w_pure want_none (y_move (v := .int _ _) rfl rfl) rfl ?_
    refine w_pure want_none (y_assign (v := .int _ _) rfl rfl) rfl ?_
    refine w_nil ?_
    refine q_then (hK37 _ _ ?_)
    refine w_ret ?_
    refine q_ret (l := [.tmp 4]) (vs := [_]) rfl ⟨⟨rfl, show _ = (.int _ _ : Value) from rfl⟩, trivial⟩ ?_
    have hil : i = ws.length := by omega
    subst hil
    exact ⟨by rw [List.take_length]; rfl, hs⟩

theorem c55 {w0 w : World} {F : List (Nat × Obj)} (a : Option Addr) (c : Nat) (ws : List (List Int)) (vs : List Value) (hsl : Sl w0 F a 1 (vs.map fun v => [v])) (hel : EL w0 F vs ws) (hwl : ws.length ≤ 4096) (b : Nat) (hb : ∀ h ∈ ws, b < h.length) (hs : St w0 w F) :
  Con Try.prog 55 [.slice a ws.length c, .int .i64 (b : Int)] w fun v w' => v = .int .i64 (leftW b ws) ∧ St w0 w' F := by
  refine con_of_wc (n := 34) Try.func55 rfl rfl (Nat.le_of_ble_eq_true rfl) ?_
  refine w_seq (fun K2 hK1 => ?_)
  refine w_region ?_
  refine w_pure want_none (y_assign (v := _) rfl rfl) rfl ?_
  refine w_nil ?_
  refine q_then (hK1 _ _ ?_)
  refine w_seq (fun K4 hK3 => ?_)
  refine w_region ?_
  refine w_pure want_none (y_assign (v := _) rfl rfl) rfl ?_
  refine w_nil ?_
  refine q_then (hK3 _ _ ?_)
  refine w_seq (fun K6 hK5 => ?_)
  refine w_seq (fun K8 hK7 => ?_)
  refine w_region ?_
  refine w_pure want_none (y_assign (v := _) rfl rfl) rfl ?_
  refine w_nil ?_
  refine q_then (hK7 _ _ ?_)
  refine w_block ?_
  refine w_loop [5, 6, 7, 8, 9, 10, 11, 12, 13, 14, 15, 16, 17, 18, 19, 20, 21, 22, 23, 24, 25, 26, 27, 28, 29, 30, 31, 32] [5, 6] (fun k vs0 w => ∃ (n : Nat), vs0 = [.int .i64 (mostTo b ws n), .int .i64 n] ∧ n ≤ 13 ∧ k = 13 - n ∧ St w0 w F) (13) ?_ ?_
  ·
   exact ⟨0, rfl, by omega, by omega, hs⟩
  ·
   intro k vs μ w11 hI K10 hN9
   obtain ⟨n, rfl, hna, rfl, hs⟩ := hI
   refine w_seq (fun K13 hK12 => ?_)
   refine w_seq (fun K15 hK14 => ?_)
   refine w_region ?_
   refine w_pure want_none (y_move (v := .int _ _) rfl rfl) rfl ?_
   refine w_pure want_none (y_leq rfl rfl rfl rfl) rfl ?_
   refine w_nil ?_
   refine q_then (hK14 _ _ ?_)
   refine w_cond rfl rfl (fun h16 => ?_) (fun h16 => ?_)
   ·
    try simp only [Bool.not_eq_true', Bool.not_eq_false', decide_eq_true_eq, decide_eq_false_iff_not, Int.not_lt, Int.not_le] at h16
    refine w_skip ?_
    refine q_then (hK12 _ _ ?_)
    refine w_seq (fun K18 hK17 => ?_)
    refine w_block ?_
    refine w_seq (fun K20 hK19 => ?_)
    refine w_region ?_
    refine w_pure want_none (y_assign (v := _) rfl rfl) rfl ?_
    refine w_nil ?_
    refine q_then (hK19 _ _ ?_)
    refine w_seq (fun K22 hK21 => ?_)
    refine w_seq (fun K24 hK23 => ?_)
    refine w_region ?_
    refine w_pure want_none (y_assign (v := _) rfl rfl) rfl ?_
    refine w_nil ?_
    refine q_then (hK23 _ _ ?_)
    refine w_block ?_
    refine w_loop [7, 8, 13, 14, 15, 16, 17, 18, 19, 20, 21, 22, 23, 24, 25, 26, 27, 28, 29] [7, 8] (fun k vs0 w => ∃ (i : Nat), vs0 = [.int .i64 (often b (n : Int) (ws.take i)), .int .i64 i] ∧ i ≤ ws.length ∧ k = ws.length - i ∧ St w0 w F) (ws.length) ?_ ?_
    ·
     exact ⟨0, rfl, by omega, by omega, hs⟩
    ·
     intro k vs μ w27 hI K26 hN25
     obtain ⟨i, rfl, hia, rfl, hs⟩ := hI
     refine w_seq (fun K29 hK28 => ?_)
     refine w_seq (fun K31 hK30 => ?_)
     refine w_region ?_
     refine w_pure want_none (y_move (v := .int _ _) rfl rfl) rfl ?_
     refine w_pure want_none (y_move (v := .slice _ _ _) rfl rfl) rfl ?_
     refine w_pure want_none (y_lenS Try.underlying64 rfl rfl) rfl ?_
     refine w_pure want_none (y_lss rfl rfl rfl rfl) rfl ?_
     refine w_nil ?_
     refine q_then (hK30 _ _ ?_)
     refine w_cond rfl rfl (fun h32 => ?_) (fun h32 => ?_)
     ·
      try simp only [Bool.not_eq_true', Bool.not_eq_false', decide_eq_true_eq, decide_eq_false_iff_not, Int.not_lt, Int.not_le] at h32
      refine w_skip ?_
      refine q_then (hK28 _ _ ?_)
      refine w_seq (fun K34 hK33 => ?_)
      refine w_block ?_
      refine w_seq (fun K36 hK35 => ?_)
      have hi2 : i < ws.length := by omega
      obtain ⟨bx, ox, e2, q2, ha, hx, hsx, _⟩ := el_at hsl hel hi2
      subst ha
      have hbi := hb _ (List.getElem_mem hi2)
      obtain ⟨c1, p1, he1, hy⟩ := sl_ints hsx hbi
      subst he1
      have hoi := often_in b (n : Int) (ws.take i)
      have hli : (ws.take i).length = i := by rw [List.length_take]; omega
      refine w_region ?_
      refine w_pure want_none (y_move (v := .slice _ _ _) rfl rfl) rfl ?_
      refine w_pure want_none (y_move (v := .int _ _) rfl rfl) rfl ?_
      refine w_pure want_none (y_indexS Try.underlying64 Try.sizeOf37 rfl rfl rfl rfl (i := _) rfl (by omega)) rfl ?_
      refine w_pure want_none (y_load1 Try.isAgg37 hs rfl rfl hx) rfl ?_
      refine w_pure want_none (y_move (v := .int _ _) rfl rfl) rfl ?_
      refine w_pure want_none (y_indexS Try.underlying37 Try.sizeOf3 rfl rfl rfl rfl (i := b) rfl hbi) rfl ?_
      refine w_pure want_none (y_load1 Try.isAgg3 hs rfl rfl hy) rfl ?_
      refine w_pure want_none (y_move (v := .int _ _) rfl rfl) rfl ?_
      refine w_pure want_none (y_eql rfl rfl rfl rfl) rfl ?_
      refine w_nil ?_
      refine q_then (hK35 _ _ ?_)
      refine w_cond rfl rfl (fun h37 => ?_) (fun h37 => ?_)
      ·
       try simp only [Bool.not_eq_true', Bool.not_eq_false', decide_eq_true_eq, decide_eq_false_iff_not, Int.not_lt, Int.not_le] at h37
       refine w_region ?_
       refine w_pure want_none (y_move (v := .int _ _) rfl rfl) rfl ?_
       refine w_pure want_none (y_add rfl rfl rfl rfl (by omega) (by omega)) rfl ?_
       refine w_pure want_none (y_assign (v := .int _ _) rfl rfl) rfl ?_
       refine w_nil ?_
       refine q_blk_normal ?_
       refine q_then (hK33 _ _ ?_)
       refine w_region ?_
       refine w_pure want_none (y_move (v := .int _ _) rfl rfl) rfl ?_
       refine w_pure want_none (y_add rfl rfl rfl rfl (by omega) (by omega)) rfl ?_
       refine w_pure want_none (y_assign (v := .int _ _) rfl rfl) rfl ?_
       refine w_nil ?_
       refine q_then (hN25 _ _ (Nx.intro (ws.length - (i + 1)) (by omega) (by repeat (first | exact agree_mix | refine agree_upd rfl ?_ | refine agree_updL rfl ?_ _ | refine agree_mixin rfl ?_)) ?_))
       first
         | exact ⟨i + 1, iv2 (often_yes hi2 (by rw [at_get hbi]; assumption)).symm rfl, by omega, rfl, hs⟩
         | exact ⟨i + 1, iv2 (often_no hi2 (by rw [at_get hbi]; assumption)).symm rfl, by omega, rfl, hs⟩
      ·
       try simp only [Bool.not_eq_true', Bool.not_eq_false', decide_eq_true_eq, decide_eq_false_iff_not, Int.not_lt, Int.not_le] at h37
       refine w_skip ?_
       refine q_blk_normal ?_
       refine q_then (hK33 _ _ ?_)
       refine w_region ?_
       refine w_pure want_none (y_move (v := .int _ _) rfl rfl) rfl ?_
       refine w_pure want_none (y_add rfl rfl rfl rfl (by omega) (by omega)) rfl ?_
       refine w_pure want_none (y_assign (v := .int _ _) rfl rfl) rfl ?_
       refine w_nil ?_
       refine q_then (hN25 _ _ (Nx.intro (ws.length - (i + 1)) (by omega) (by repeat (first | exact agree_mix | refine agree_upd rfl ?_ | refine agree_updL rfl ?_ _ | refine agree_mixin rfl ?_)) ?_))
       first
         | exact ⟨i + 1, iv2 (often_yes hi2 (by rw [at_get hbi]; assumption)).symm rfl, by omega, rfl, hs⟩
         | exact ⟨i + 1, iv2 (often_no hi2 (by rw [at_get hbi]; assumption)).symm rfl, by omega, rfl, hs⟩
     ·
      try simp only [Bool.not_eq_true', Bool.not_eq_false', decide_eq_true_eq, decide_eq_false_iff_not, Int.not_lt, Int.not_le] at h32
      refine w_exit ?_
      refine q_then_exit ?_
      refine q_then_exit ?_
      refine q_blk_this ?_
      refine q_then (hK21 _ _ ?_)
      refine w_region ?_
      refine w_pure want_none (y_move (v := .int _ _) rfl rfl) rfl ?_
      refine w_pure want_none (y_move (v := .int _ _) rfl rfl) rfl ?_
      refine w_pure want_none (y_max2 rfl rfl rfl rfl) rfl ?_
      refine w_pure want_none (y_assign (v := .int _ _) rfl rfl) rfl ?_
      refine w_nil ?_
      refine q_blk_normal ?_
      refine q_then (hK17 _ _ ?_)
      refine w_region ?_
      refine w_pure want_none (y_move (v := .int _ _) rfl rfl) rfl ?_
      refine w_pure want_none (y_add rfl rfl rfl rfl (by omega) (by omega)) rfl ?_
      refine w_pure want_none (y_assign (v := .int _ _) rfl rfl) rfl ?_
      refine w_nil ?_
      refine q_then (hN9 _ _ (Nx.intro (13 - (n + 1)) (by omega) (by repeat (first | exact agree_mix | refine agree_upd rfl ?_ | refine agree_updL rfl ?_ _ | refine agree_mixin rfl ?_)) ?_))
      have hil : i = ws.length := by omega
      subst hil
      exact ⟨n + 1, iv2 (by rw [most_succ, List.take_length]) rfl, by omega, rfl, hs⟩
   ·
    try simp only [Bool.not_eq_true', Bool.not_eq_false', decide_eq_true_eq, decide_eq_false_iff_not, Int.not_lt, Int.not_le] at h16
    refine w_exit ?_
    refine q_then_exit ?_
    refine q_then_exit ?_
    refine q_blk_this ?_
    refine q_then (hK5 _ _ ?_)
    refine w_seq (fun K39 hK38 => ?_)
    refine w_region ?_
    refine w_pure want_none (y_move (v := .int _ _) rfl rfl) rfl ?_
    refine w_pure want_none (y_assign (v := .int _ _) rfl rfl) rfl ?_
    refine w_nil ?_
    refine q_then (hK38 _ _ ?_)
    refine w_ret ?_
    refine q_ret (l := [.tmp 4]) (vs := [_]) rfl ⟨⟨rfl, show _ = (.int _ _ : Value) from rfl⟩, trivial⟩ ?_
    have hin : n = 13 := by omega
    subst hin
    exact ⟨rfl, hs⟩

end Go.Proofs
/- Plain law of the hand layer: the bunch to count next. No conditions. -/
set_option linter.unusedSimpArgs false
set_option linter.unusedVariables false
namespace Go.Rt.Ha
def NextS (ws : List (List Int)) (k : Nat) (s : Int × Int) : Prop :=
  (s.1 = -1 ∧ ∀ b, b < k → ¬ leftW b ws < ws.length) ∨ (∃ o, o < k ∧ s.1 = (o : Int) ∧ s.2 = leftW o ws ∧ leftW o ws < ws.length ∧ ∀ b, b < k → leftW b ws < ws.length → leftW o ws < leftW b ws ∨ (leftW b ws = leftW o ws ∧ o ≤ b))
theorem next_s (ws : List (List Int)) : ∀ k, NextS ws k (nextTo ws k)
  | 0 => .inl ⟨rfl, fun b h => by omega⟩
  | k + 1 => by
    have ih := next_s ws k
    simp only [nextTo]
    generalize nextTo ws k = s at ih
    rcases ih with ⟨h1, h2⟩ | ⟨o, h1, h2, h3, h4, h5⟩
    · by_cases hl : leftW k ws < ws.length
      · rw [if_pos ⟨hl, .inl (by omega)⟩]
        refine .inr ⟨k, by omega, rfl, rfl, hl, fun b hb hbl => ?_⟩
        by_cases e : b = k
        · subst e; exact .inr ⟨rfl, Nat.le_refl _⟩
        · exact absurd hbl (h2 b (by omega))
      · rw [if_neg fun h => hl h.1]
        refine .inl ⟨h1, fun b hb => ?_⟩
        by_cases e : b = k
        · subst e; exact hl
        · exact h2 b (by omega)
    · by_cases hc : leftW k ws < ws.length ∧ (s.1 < 0 ∨ leftW k ws < s.2)
      · rw [if_pos hc]
        have hlt : leftW k ws < leftW o ws := by
          rcases hc.2 with h | h
          · omega
          · rw [h3] at h; exact h
        refine .inr ⟨k, by omega, rfl, rfl, hc.1, fun b hb hbl => ?_⟩
        by_cases e : b = k
        · subst e; exact .inr ⟨rfl, Nat.le_refl _⟩
        · rcases h5 b (by omega) hbl with h | h
          · left; exact Int.lt_trans hlt h
          · left; rw [h.1]; exact hlt
      · rw [if_neg hc]
        refine .inr ⟨o, by omega, h2, h3, h4, fun b hb hbl => ?_⟩
        by_cases e : b = k
        · subst e
          have : ¬ leftW b ws < s.2 := fun h => hc ⟨hbl, .inr h⟩
          rw [h3] at this
          rcases Int.lt_trichotomy (leftW o ws) (leftW b ws) with h | h | h
          · exact .inl h
          · exact .inr ⟨h.symm, by omega⟩
          · exact absurd h this
        · exact h5 b (by omega) hbl
theorem counted_one (o : Nat) : ∀ (h : List Int) (i : Nat), counted (2 ^ o) i h = if i ≤ o then at_ h (o - i) else 0
  | [], i => by simp [counted, at_]
  | z :: h, i => by
    have hb : bit (2 ^ o) i = 1 ↔ o = i := by rw [bit_iff, Nat.testBit_two_pow, decide_eq_true_eq]
    rw [counted, counted_one o h (i + 1)]
    by_cases e : o = i
    · subst e
      rw [if_pos (hb.2 rfl), if_neg (by omega), if_pos (Nat.le_refl _), Nat.sub_self]
      show z + 0 = z
      omega
    · rw [if_neg fun h => e (hb.1 h)]
      by_cases e2 : i ≤ o
      · rw [if_pos e2, if_pos (by omega)]
        obtain ⟨d, hd⟩ : ∃ d, o - i = d + 1 := ⟨o - i - 1, by omega⟩
        rw [hd, show o - (i + 1) = d by omega]
        show 0 + h.getD d 0 = (z :: h).getD (d + 1) 0
        simp
      · rw [if_neg e2, if_neg (by omega)]; rfl
theorem ways_one {l : Lot} {o : Nat} {t : Int} : ways (moreL l ⟨2 ^ o, t⟩) 0 = (ways l 0).filter fun h => decide (at_ h o = t) := by
  unfold ways
  rw [List.filter_filter]
  congr 1
  funext h
  show soFrom 0 h 0 (l.counts ++ [⟨2 ^ o, t⟩]) = _
  have e : ((2 : Int) ^ o).toNat = 2 ^ o := by
    rw [show ((2 : Int) ^ o) = ((2 ^ o : Nat) : Int) by simp]; rfl
  rw [so_append]
  simp only [soFrom, e, counted_one, Nat.zero_le, if_true, Nat.sub_zero, Bool.and_true]
  simp [bit, Bool.and_comm]
theorem one_left {l : Lot} {o : Nat} {t : Int} (ht : 0 ≤ t ∧ t ≤ 12) : ((ways (moreL l ⟨2 ^ o, t⟩) 0).length : Int) ≤ leftW o (ways l 0) := by
  have h1 := (most_iff (b := o) (ws := ways l 0) (x := leftW o (ways l 0)) 13).1 (Int.le_refl _)
  have h2 := h1.2 t.toNat (by omega)
  rw [show ((t.toNat : Nat) : Int) = t by omega] at h2
  rw [ways_one]
  exact h2
theorem one_span {l : Lot} {o : Nat} {t : Int} (hw : ways (moreL l ⟨2 ^ o, t⟩) 0 ≠ []) : spanR o (ways (moreL l ⟨2 ^ o, t⟩) 0) = (t, t) := by
  have hf := span_facts (b := o) hw
  have hall : ∀ h ∈ ways (moreL l ⟨2 ^ o, t⟩) 0, at_ h o = t := by
    intro h hh
    rw [ways_one] at hh
    simpa using (List.mem_filter.1 hh).2
  obtain ⟨x, hx, ex⟩ := hf.lo
  obtain ⟨y, hy, ey⟩ := hf.hi
  have e1 := hall x hx
  have e2 := hall y hy
  exact Prod.ext (by rw [← ex, e1]) (by rw [← ey, e2])
end Go.Rt.Ha
/- Plain law of the hand layer: ways are told once each. No conditions. -/
set_option linter.unusedSimpArgs false
set_option linter.unusedVariables false
namespace Go.Rt.Ha
theorem at_ext {a b : List Int} (hl : a.length = b.length) (h : ∀ i, i < a.length → at_ a i = at_ b i) : a = b := by
  refine List.ext_getElem hl fun i h1 h2 => ?_
  have := h i h1
  unfold at_ at this
  simpa [List.getD, h1, h2] using this
/-- If no bunch tells ways apart there is one way. -/
theorem one_way {l : Lot} (hok : l.Ok) (hw : ways l 0 ≠ []) (h : ∀ b, b < l.bunches.length → ¬ leftW b (ways l 0) < (ways l 0).length) : (ways l 0).length = 1 := by
  have hsame : ∀ x ∈ ways l 0, ∀ y ∈ ways l 0, x = y := by
    intro x hx y hy
    have h1 := (felt_in _ _).1 (way_felt hx)
    have h2 := (felt_in _ _).1 (way_felt hy)
    refine at_ext (by omega) fun b hb => ?_
    have hbl : b < l.bunches.length := by omega
    have h3 := h b hbl
    rw [left_span hw fun z hz => by have := way_at hok hz hbl; omega] at h3
    have hf := span_facts (b := b) hw
    have a1 := hf.all x hx
    have a2 := hf.all y hy
    clear hf
    omega
  have hn := ways_nodup l 0
  match hq : ways l 0, hw, hsame, hn with
  | [], hw, _, _ => exact absurd rfl hw
  | [a], _, _, _ => rfl
  | a :: b :: r, _, hsame, hn =>
    have e := hsame a (.head _) b (.tail _ (.head _))
    rw [List.nodup_cons] at hn
    exact absurd (e ▸ .head _) hn.1
end Go.Rt.Ha
/- Plain law of the hand layer: an easier last grade, a wider bunch. No conditions. -/
set_option linter.unusedSimpArgs false
set_option linter.unusedVariables false
namespace Go.Rt.Ha
theorem ofG_weak {g g' : Grade} (h1 : g'.hands ≤ g.hands) (h2 : g.scars ≤ g'.scars) {h s : Int} : ∀ (gs : List Grade) (i : Int), 0 ≤ i → ofG (gs ++ [g']) i h s = -1 → ofG (gs ++ [g]) i h s = -1
  | [], i, hi, e => by
    simp only [List.nil_append, ofG] at e ⊢
    by_cases hc : g.hands ≤ h ∧ s ≤ g.scars
    · rw [if_pos (by omega)] at e; omega
    · rw [if_neg hc]
  | a :: gs, i, hi, e => by
    simp only [List.cons_append, ofG] at e ⊢
    split
    · rename_i hc; rw [if_pos hc] at e; exact e
    · rename_i hc; rw [if_neg hc] at e; exact ofG_weak h1 h2 gs (i + 1) (by omega) e
theorem could_weak {l l' : Lot} (hb : l'.bunches = l.bunches) (hof : ∀ h s, ofG l'.grades 0 h s = -1 → ofG l.grades 0 h s = -1) {ws : List (List Int)} {b : Nat} (h : couldR l' ws b (-1) = true) : couldR l ws b (-1) = true := by
  unfold couldR scarsOf bunchOf at *
  rw [hb] at h
  obtain ⟨x, hx, e⟩ := List.any_eq_true.1 h
  obtain ⟨s, hs, e⟩ := gradesL_mem.1 (hasI_mem.1 e)
  exact List.any_eq_true.2 ⟨x, hx, hasI_mem.2 (gradesL_mem.2 ⟨s, hs, hof _ _ e⟩)⟩
theorem must_weak {l l' : Lot} (hb : l'.bunches = l.bunches) (hof : ∀ h s, ofG l'.grades 0 h s = -1 → ofG l.grades 0 h s = -1) {ws : List (List Int)} {b : Nat} (hne : scarsOf l b ≠ []) (h : mustR l' ws b (-1) = true) : mustR l ws b (-1) = true := by
  unfold mustR at *
  rw [List.all_eq_true] at *
  intro x hx
  have h1 := h x hx
  have e : scarsOf l' b = scarsOf l b := by unfold scarsOf bunchOf; rw [hb]
  rw [e] at h1
  have h2 := (only_iff hne).1 h1
  exact (only_iff hne).2 fun s hs => hof _ _ (h2 s hs)
/-- Ways of a lot whose bunches are wider. -/
theorem wide_ways {l l' : Lot} (hc : l'.counts = l.counts) (hl : l'.bunches.length = l.bunches.length) (hw : ∀ i (h : i < l.bunches.length) (h' : i < l'.bunches.length), l'.bunches[i].lo ≤ l.bunches[i].lo ∧ l.bunches[i].hi ≤ l'.bunches[i].hi) {h : List Int} (hh : h ∈ ways l 0) : h ∈ ways l' 0 := by
  obtain ⟨h1, h2⟩ := List.mem_filter.1 hh
  refine List.mem_filter.2 ⟨?_, by rw [hc]; exact h2⟩
  have h3 := (felt_in _ _).1 h1
  refine (felt_in _ _).2 ⟨by omega, fun i hi => ?_⟩
  have h4 := h3.2 i (by omega)
  have h5 := hw i (by omega) hi
  omega
theorem wide_hands {l l' : Lot} (hc : (check l).2.2 = 0) (hc' : (check l').2.2 = 0) (hw : ways l 0 ≠ []) (hl : l'.bunches.length = l.bunches.length) (hs : ∀ h ∈ ways l 0, h ∈ ways l' 0) {b : Nat} (hb : b < l.bunches.length) :
    (handsP l b).2 = 0 ∧ (handsP l' b).2 = 0 ∧ (handsP l' b).1.1 ≤ (handsP l b).1.1 ∧ (handsP l b).1.2 ≤ (handsP l' b).1.2 := by
  have hw' : ways l' 0 ≠ [] := by
    obtain ⟨x, hx⟩ := List.exists_mem_of_ne_nil _ hw
    exact List.ne_nil_of_mem (hs x hx)
  have E := enter_zero hc hw (idx_fine (n := b) (b := l.bunches.length) (by omega))
  have E' := enter_zero hc' hw' (idx_fine (n := b) (b := l.bunches.length) (by omega))
  have h1 : handsP l b = (spanR b (ways l 0), 0) := by rw [← hands_same]; unfold handsR; rw [if_neg (by simp [E])]; rfl
  have h2 : handsP l' b = (spanR b (ways l' 0), 0) := by rw [← hands_same]; unfold handsR; rw [hl, if_neg (by simp [E'])]; rfl
  rw [h1, h2]
  have := span_sub (b := b) hs hw
  exact ⟨rfl, rfl, this.1, this.2⟩
end Go.Rt.Ha
/- Plain law of the hand layer: what Pick picks. No conditions. -/
set_option linter.unusedSimpArgs false
set_option linter.unusedVariables false
namespace Go.Rt.Ha
theorem pick_fine {l : Lot} {g many : Int} (hg : 0 ≤ g ∧ g < l.grades.length) (hm : 0 ≤ many ∧ many ≤ 72) : pickE l g many = 0 := by
  unfold pickE
  rw [if_neg (by rw [idx_fine hg]; simp), if_neg (by unfold out; simp only [Bool.or_eq_true, decide_eq_true_eq, not_or]; omega)]
theorem pick_do {l : Lot} {g : Nat} {many : Int} (hm : many ≤ 72) (c : Nat) : pickDo l g many c = true ↔ bitDiff c (fitTo l g (ways l 0) l.bunches.length) = 0 ∧ many ≤ leastR (ways l 0) (listL c l.bunches.length) := by
  unfold pickDo
  rw [Bool.and_eq_true, decide_eq_true_eq, List.all_eq_true, least_iff hm]
  simp
theorem pick_law {l : Lot} (hc : (check l).2.2 = 0) (hw : ways l 0 ≠ []) {g many : Int} (hg : 0 ≤ g ∧ g < l.grades.length) (hm : 0 ≤ many ∧ many ≤ 72) :
    (pickP l g many = ([], 9) ∧ ∀ c, c < 2 ^ l.bunches.length → pickDo l g.toNat many c = false) ∨
    (∃ b, b < 2 ^ l.bunches.length ∧ pickP l g many = (listL b l.bunches.length, 0) ∧ pickDo l g.toNat many b = true ∧ ∀ c, c < 2 ^ l.bunches.length → pickDo l g.toNat many c = true → before (listL c l.bunches.length) (listL b l.bunches.length) = false) := by
  have E := enter_zero hc hw (pick_fine (l := l) hg hm)
  have e2 : 1 <<< l.bunches.length = 2 ^ l.bunches.length := one_shl _
  have hf := few_min (pickDo l g.toNat many) l.bunches.length (1 <<< l.bunches.length)
  unfold pickP fewest
  rw [if_neg (by simp [E])]
  rw [e2] at hf ⊢
  generalize fewTo (pickDo l g.toNat many) l.bunches.length (2 ^ l.bunches.length) = s at hf
  obtain ⟨r, f⟩ := s
  cases f with
  | false => exact .inl ⟨by simp, (hf.no rfl).2⟩
  | true =>
    obtain ⟨b, hb, hd, h1, h2⟩ := hf.yes rfl
    simp only at h1 h2
    subst h1
    refine .inr ⟨b, hb, by simp, hd, fun c hc hdc => ?_⟩
    rcases h2 c hc hdc with h | h
    · rw [h]; exact Ls.before_irrefl _
    · exact Ls.before_asymm h
/-- What is fit is of a grade or a better one, in any truth. -/
theorem fit_grade {l : Lot} {g b : Nat} {ws : List (List Int)} {n : Nat} (hb : b < n) (hf : (fitTo l g ws n).testBit b = true) {t : List Int} (ht : t ∈ ws) {s : Int} (hs : s ∈ scarsOf l b) : 0 ≤ ofG l.grades 0 (at_ t b) s ∧ ofG l.grades 0 (at_ t b) s ≤ g := by
  have h1 := (fit_bit l g ws n hb).1 hf
  have h2 : (setW l b ws).testBit (ofG l.grades 0 (at_ t b) s + 1).toNat = true := by
    rw [setW_test]
    refine List.any_eq_true.2 ⟨t, ht, ?_⟩
    unfold gradesB
    rw [orG_test]
    exact List.any_eq_true.2 ⟨s, hs, by simp⟩
  have h3 := ofG_ge l.grades (at_ t b) s
  have h0 : setW l b ws &&& 1 = 1 ↔ (setW l b ws).testBit 0 = true := by
    have := bit_iff (setW l b ws) 0
    unfold bit at this
    rwa [Nat.shiftRight_zero] at this
  simp only [not_or] at h1
  constructor
  · refine Decidable.byContradiction fun hn => h1.1 (h0.2 ?_)
    rw [show (ofG l.grades 0 (at_ t b) s + 1).toNat = 0 by omega] at h2
    exact h2
  · refine Decidable.byContradiction fun hn => h1.2 (Nat.pos_of_ne_zero fun hz => ?_)
    have h4 := Nat.testBit_shiftRight (i := g + 2) (j := (ofG l.grades 0 (at_ t b) s + 1).toNat - (g + 2)) (setW l b ws)
    rw [hz, Nat.zero_testBit, show g + 2 + ((ofG l.grades 0 (at_ t b) s + 1).toNat - (g + 2)) = (ofG l.grades 0 (at_ t b) s + 1).toNat by omega, h2] at h4
    cases h4
end Go.Rt.Ha
/- Plain law of the hand layer: what Pick picks, and any other ones. No conditions. -/
set_option linter.unusedSimpArgs false
set_option linter.unusedVariables false
namespace Go.Rt.Ha
/-- Those of a list whose place is in a set. -/
def pkTo (F : List Int) (o : Nat) : Nat → List Int
  | 0 => []
  | i + 1 => pkTo F o i ++ if bit o i = 1 then [F.getD i 0] else []
theorem pk_app (F G : List Int) (o : Nat) : ∀ i, i ≤ F.length → pkTo (F ++ G) o i = pkTo F o i
  | 0, _ => rfl
  | i + 1, h => by
    rw [pkTo, pkTo, pk_app F G o i (by omega)]
    have e : (F ++ G).getD i 0 = F.getD i 0 := by simp only [List.getD]; rw [List.getElem?_append_left (by omega)]
    rw [e]
theorem pk_y {F : List Int} {o i : Nat} (hi : i < F.length) (h : bit o i = 1) : pkTo F o (i + 1) = pkTo F o i ++ [F[i]] := by
  rw [pkTo, if_pos h]; simp [List.getD, hi]
theorem pk_n {F : List Int} {o i : Nat} (h : ¬ bit o i = 1) : pkTo F o (i + 1) = pkTo F o i := by rw [pkTo, if_neg h, List.append_nil]
theorem pk_len (F : List Int) (o : Nat) : ∀ i, (pkTo F o i).length ≤ i
  | 0 => by simp [pkTo]
  | i + 1 => by
    have ih := pk_len F o i
    rw [pkTo, List.length_append]
    split
    · simp; omega
    · simp; omega
theorem pk_in {F : List Int} {o : Nat} {z : Int} : ∀ i, i ≤ F.length → z ∈ pkTo F o i → z ∈ F
  | 0, _, h => by simp [pkTo] at h
  | i + 1, hi, h => by
    rw [pkTo, List.mem_append] at h
    rcases h with h | h
    · exact pk_in i (by omega) h
    · split at h
      · rw [List.mem_singleton] at h
        have hi2 : i < F.length := by omega
        have e : F.getD i 0 = F[i] := by simp [List.getD, hi2]
        rw [h, e]; exact List.getElem_mem _
      · cases h
theorem bit_lt {c n : Nat} (h : c < 2 ^ n) : ¬ bit c n = 1 := by
  rw [bit_iff, Nat.testBit_lt_two_pow h]; simp
/-- Those that are picked of a set are a set within it. -/
theorem pk_set (s o : Nat) : ∀ n, ∃ c, c < 2 ^ n ∧ (∀ i, i < n → c.testBit i = true → s.testBit i = true) ∧ listL c n = pkTo (listL s n) o (listL s n).length
  | 0 => ⟨0, by simp, fun i h => by omega, rfl⟩
  | n + 1 => by
    obtain ⟨c, hc, h1, h2⟩ := pk_set s o n
    have hp : (2 : Nat) ^ (n + 1) = 2 ^ n + 2 ^ n := by rw [Nat.pow_succ]; omega
    have hkeep : ∀ i, i < n + 1 → c.testBit i = true → s.testBit i = true := by
      intro i hi hb
      by_cases e : i = n
      · subst e; rw [Nat.testBit_lt_two_pow hc] at hb; cases hb
      · exact h1 i (by omega) hb
    by_cases hs : bit s n = 1
    · rw [listL_y hs, List.length_append, List.length_singleton]
      by_cases ho : bit o (listL s n).length = 1
      · refine ⟨c + 2 ^ n, by omega, ?_, ?_⟩
        · intro i hi hb
          by_cases e : i = n
          · subst e; exact (bit_iff _ _).1 hs
          · refine h1 i (by omega) ?_
            rw [Nat.add_comm, Nat.testBit_two_pow_add_gt (by omega)] at hb
            exact hb
        · have hm : (c + 2 ^ n) % 2 ^ n = c := by rw [Nat.add_mod_right, Nat.mod_eq_of_lt hc]
          have hb : bit (c + 2 ^ n) n = 1 := by
            rw [bit_iff, Nat.add_comm, Nat.testBit_two_pow_add_eq, Nat.testBit_lt_two_pow hc]; rfl
          rw [listL_y hb, ← listL_mod (c + 2 ^ n) n n (Nat.le_refl _), hm, h2, pk_y (by simp) ho, pk_app _ _ _ _ (Nat.le_refl _)]
          simp
      · refine ⟨c, by omega, hkeep, ?_⟩
        rw [listL_n (bit_lt hc), h2, pk_n ho, pk_app _ _ _ _ (Nat.le_refl _)]
    · refine ⟨c, by omega, hkeep, ?_⟩
      rw [listL_n (bit_lt hc), listL_n hs, h2]
theorem diff_zero {c s n : Nat} (hc : c < 2 ^ n) (h : ∀ i, i < n → c.testBit i = true → s.testBit i = true) : bitDiff c s = 0 := by
  unfold bitDiff
  refine Nat.eq_of_testBit_eq fun i => ?_
  rw [Nat.testBit_and, Nat.testBit_xor, Nat.zero_testBit]
  by_cases hi : i < n
  · cases hb : c.testBit i with
    | false => rfl
    | true => rw [h i hi hb]; rfl
  · rw [Nat.testBit_lt_two_pow (Nat.lt_of_lt_of_le hc (Nat.pow_le_pow_right (by omega) (by omega)))]; rfl
theorem diff_bit {c s i : Nat} (h : bitDiff c s = 0) (hb : c.testBit i = true) : s.testBit i = true := by
  have h2 : (bitDiff c s).testBit i = false := by rw [h]; exact Nat.zero_testBit i
  unfold bitDiff at h2
  rw [Nat.testBit_and, Nat.testBit_xor, hb] at h2
  cases hs : s.testBit i with
  | true => rfl
  | false => rw [hs] at h2; cases h2
theorem listL_bit {b : Nat} {z : Int} : ∀ n, z ∈ listL b n → ∃ i : Nat, z = i ∧ i < n ∧ b.testBit i = true
  | 0, h => by simp [listL] at h
  | n + 1, h => by
    rw [listL, List.mem_append] at h
    rcases h with h | h
    · obtain ⟨i, h1, h2, h3⟩ := listL_bit n h
      exact ⟨i, h1, by omega, h3⟩
    · split at h
      · rename_i hb
        exact ⟨n, by simpa using h, by omega, (bit_iff _ _).1 hb⟩
      · cases h
theorem pick_bad {l : Lot} {g m : Int} (h : ¬ ((check l).2.2 = 0 ∧ ways l 0 ≠ [])) : (pickP l g m).2 ≠ 0 := by
  have he : enterE l (pickE l g m) ≠ 0 := by
    unfold enterE
    by_cases hc : (check l).2.2 = 0
    · rw [if_neg (by simp [hc])]
      by_cases hp : pickE l g m = 0
      · rw [if_neg (by simp [hp])]
        by_cases hw : ways l 0 = []
        · rw [if_pos hw]; decide
        · exact absurd ⟨hc, hw⟩ h
      · rw [if_pos hp]; exact hp
    · rw [if_pos hc]; exact hc
  unfold pickP
  rw [if_pos he]; exact he
structure PickF (l : Lot) (g : Nat) (m : Int) (oth own : List Int) : Prop where
  ri : rising l.bunches.length (-1) own = true
  len : own.length ≤ l.bunches.length
  few : m ≤ leastR (ways l 0) oth → before oth own = false
  of : ∀ z ∈ own, 0 ≤ z ∧ z < l.bunches.length ∧ ∀ t ∈ ways l 0, ∀ s, (bunchOf l z.toNat).slo ≤ s ∧ s ≤ (bunchOf l z.toNat).shi → 0 ≤ ofG l.grades 0 (at_ t z.toNat) s ∧ ofG l.grades 0 (at_ t z.toNat) s ≤ g
  sum : ∀ t ∈ ways l 0, m ≤ someOf t own
theorem listL_le' (b : Nat) : ∀ n, (listL b n).length ≤ n
  | 0 => by simp [listL]
  | n + 1 => by have := listL_le' b n; simp only [listL, List.length_append]; split <;> simp <;> omega
theorem picked_law {l : Lot} (hc : (check l).2.2 = 0) (hw : ways l 0 ≠ []) {g : Nat} {m : Int} (hg : g < l.grades.length) (hm : 0 ≤ m ∧ m ≤ 72) (o : Nat) :
    (pickP l g m = ([], 9) ∧ ¬ m ≤ leastR (ways l 0) (pkTo (fitR l (ways l 0) g l.bunches.length) o (fitR l (ways l 0) g l.bunches.length).length)) ∨
    (∃ own, pickP l g m = (own, 0) ∧ PickF l g m (pkTo (fitR l (ways l 0) g l.bunches.length) o (fitR l (ways l 0) g l.bunches.length).length) own) := by
  have hfit := fit_list hg (ways l 0) l.bunches.length l.bunches.length (Nat.le_refl _)
  obtain ⟨c, hc1, hc2, hc3⟩ := pk_set (fitTo l g (ways l 0) l.bunches.length) o l.bunches.length
  rw [← hfit] at hc3
  rw [← hc3]
  have hd := diff_zero hc1 hc2
  have hdo : m ≤ leastR (ways l 0) (listL c l.bunches.length) → pickDo l g m c = true := fun h => (pick_do hm.2 c).2 ⟨hd, h⟩
  rcases pick_law hc hw (g := (g : Int)) (many := m) (by omega) hm with ⟨h1, h2⟩ | ⟨b, hb1, hb2, hb3, hb4⟩
  · left
    refine ⟨h1, fun h => ?_⟩
    have := h2 c hc1
    rw [show ((g : Int)).toNat = g from rfl, hdo h] at this
    cases this
  · right
    rw [show ((g : Int)).toNat = g from rfl] at hb3 hb4
    obtain ⟨hb5, hb6⟩ := (pick_do hm.2 b).1 hb3
    refine ⟨_, hb2, ⟨list_rising b _ (Int.le_refl _), listL_le' b _, fun h => hb4 c hc1 (hdo h), fun z hz => ?_, fun t ht => (least_iff hm.2 _ _).1 hb6 t ht⟩⟩
    obtain ⟨i, rfl, hi, hbi⟩ := listL_bit _ hz
    refine ⟨by omega, by omega, fun t ht s hs => ?_⟩
    exact fit_grade hi (diff_bit hb5 hbi) ht (span_mem.2 hs)
end Go.Rt.Ha
/- Walks of this seat, printed by gen.py over the engine: what each function returns, in whatever world. No conditions but those of each contract. -/
set_option linter.unusedVariables false
set_option linter.unusedSimpArgs false
set_option maxRecDepth 20000
namespace Go.Proofs
open Go.Rt Go.Rt.Ha
attribute [local irreducible] WL WC Con Yd At Ats Sl Agree DW
theorem Try_Zc_fb6 (x0 : Int) (w : World) : (Instr.buildSlice 37 1 [(0, .int .i64 x0)].toArray).run Try.prog w = .ok (.slice (some ⟨w.heap.size, 0, none⟩) 1 1) (w.alloc (Go.Rt.blk 3 [.int .i64 x0])) := by kernel_rfl
theorem c10 {w0 w : World} {F : List (Nat × Obj)} (l : Lot) (p : At3) (hm : LIn w0 F l p) (pg pn po pw : Int) (hpg : 0 ≤ pg ∧ pg ≤ 255) (hpn : 0 ≤ pn ∧ pn ≤ 255) (hpo : 0 ≤ po ∧ po ≤ 255) (hpw : 0 ≤ pw ∧ pw ≤ 65535) (ay : Option Addr) (cy : Nat) (y : List Int) (hyl : y.length ≤ 9223372036854775807) (hys : Sl w0 F ay 1 (y.map fun n => [Value.int .u8 n])) (hyr : ∀ z ∈ y, 0 ≤ z ∧ z ≤ 255) (hs : St w0 w F) :
  Con Try.prog 10 [.agg (l.cells p).toArray, .agg #[.int .u8 pg, .int .u8 pn, .int .u8 po, .int .u16 pw, .slice ay y.length cy]] w fun v w' => v = .bool true ∧ St w0 w' F := by
  refine con_of_wc (n := 165) Try.func10 rfl rfl (Nat.le_of_ble_eq_true rfl) ?_
  obtain ⟨o, ho⟩ : ∃ o : Nat, po = (o : Int) := ⟨po.toNat, by omega⟩
  subst ho
  have hlb0 := hm.lb
  refine w_seq (fun K2 hK1 => ?_)
  refine w_region ?_
  refine w_box (v := .agg #[.slice _ _ _, .slice _ _ _, .slice _ _ _]) (cs := [_, _, _]) want_none rfl rfl rfl hs (fun b3 w4 hs5 => ?_)
  refine w_box (v := .agg #[.int _ _, .int _ _, .int _ _, .int _ _, .slice _ _ _]) (cs := [_, _, _, _, _]) want_none rfl rfl rfl hs5 (fun b6 w7 hs8 => ?_)
  refine w_pure want_none (y_assign (v := _) rfl rfl) rfl ?_
  refine w_nil ?_
  refine q_then (hK1 _ _ ?_)
  refine w_seq (fun K10 hK9 => ?_)
  refine w_seq (fun K12 hK11 => ?_)
  have hbx := ats_of (i := 1) (vs := l.cells p) hs8 rfl rfl
  have hb3 := ats_of (i := 0) (vs := [_, _, _, _, _]) hs8 rfl rfl
  refine w_region ?_
  refine w_pure want_none (y_loadN (vs := [_, _, _]) Try.isAgg26 Try.sizeOf26 hs8 rfl rfl hbx) rfl ?_
  refine w_call want_none Try.call44 rfl rfl rfl rfl (c44 l _ hm.cons.cons hs8) ?_
  rintro _ w14 ⟨rfl, hs15⟩
  refine w_pure want_none (y_not rfl rfl) rfl ?_
  refine w_nil ?_
  refine q_then (hK11 _ _ ?_)
  refine w_cond rfl rfl (fun h16 => ?_) (fun h16 => ?_)
  ·
   try simp only [Bool.not_eq_true', Bool.not_eq_false', decide_eq_true_eq, decide_eq_false_iff_not, Int.not_lt, Int.not_le] at h16
   refine w_seq (fun K18 hK17 => ?_)
   have hnb : ¬ ((check l).2.2 = 0 ∧ Ha.ways l 0 ≠ []) := by assumption
   refine w_region ?_
   refine w_pure want_none (y_loadN (vs := [_, _, _]) Try.isAgg26 Try.sizeOf26 hs15 rfl rfl hbx) rfl ?_
   refine w_call want_none Try.call30 rfl rfl rfl rfl (c30 l _ hm.cons.cons 0 0 hs15) ?_
   rintro _ w20 ⟨B1, a1, c1, rfl, hq1, hs21⟩
   replace hs21 := (show St _ _ (B1 ++ (_ :: _ :: F)) from hs21)
   refine w_pure want_none (y_move (v := .tuple _) rfl rfl) rfl ?_
   refine w_pure want_none (y_extract (v := .slice _ _ _) rfl rfl rfl) rfl ?_
   refine w_pure want_none (y_extract (v := .int _ _) rfl rfl rfl) rfl ?_
   refine w_pure want_none (y_assign (v := .slice _ _ _) rfl rfl) rfl ?_
   refine w_pure want_none (y_assign (v := .int _ _) rfl rfl) rfl ?_
   refine w_nil ?_
   refine q_then (hK17 _ _ ?_)
   refine w_seq (fun K23 hK22 => ?_)
   refine w_region ?_
   refine w_pure want_none (y_move (v := .int _ _) rfl rfl) rfl ?_
   refine w_pure want_none (y_neq rfl rfl rfl rfl) rfl ?_
   refine w_pure want_none (y_move (v := .bool _) rfl rfl) rfl ?_
   refine w_split (fun h24 => ?_) (fun h24 => ?_)
   ·
    try simp only [Bool.not_eq_true', Bool.not_eq_false', decide_eq_true_eq, decide_eq_false_iff_not, Int.not_lt, Int.not_le] at h24
    refine w_call (want_yes rfl rfl rfl) Try.call20 rfl rfl rfl rfl (c20 hs21) ?_
    rintro _ w26 ⟨rfl, hs27⟩
    refine w_pure want_none (y_pickT (v := .bool _) rfl rfl rfl rfl) rfl ?_
    refine w_pure want_none (y_assign (v := .bool _) rfl rfl) rfl ?_
    refine w_nil ?_
    refine q_then (hK22 _ _ ?_)
    refine w_ret ?_
    refine q_then_ret ?_
    refine q_ret (l := [.tmp 4]) (vs := [_]) rfl ⟨⟨rfl, show _ = (.bool _ : Value) from rfl⟩, trivial⟩ ?_
    exact ⟨rfl, hs27.drop.tail.tail⟩
   ·
    exfalso
    try simp only [Bool.not_eq_true', Bool.not_eq_false', decide_eq_true_eq, decide_eq_false_iff_not, Int.not_lt, Int.not_le] at h24
    exact pick_bad hnb (by simpa using h24)
  ·
   try simp only [Bool.not_eq_true', Bool.not_eq_false', decide_eq_true_eq, decide_eq_false_iff_not, Int.not_lt, Int.not_le] at h16
   refine w_skip ?_
   refine q_then (hK9 _ _ ?_)
   refine w_seq (fun K29 hK28 => ?_)
   have h1 : (check l).2.2 = 0 ∧ Ha.ways l 0 ≠ [] := by assumption
   have hok := check_ok h1.1
   have hlg := hok.lg
   have hlb := hok.lb
   have hwl := ways_len hok 0
   have hwp : 0 < (Ha.ways l 0).length := List.length_pos_iff.2 h1.2
   refine w_draw [] [(0, 0), (1, 1), (2, 0), (3, 0), (4, 1), (5, 0), (6, 0), (7, 0), (8, 1), (9, 0), (10, 0), (11, 0), (12, 0)] Try_mo (drawOK_of (by kernel_rfl)) hs15 (fun w30 hs31 => ?_)
   refine d_any rfl want_none rfl (fun _ => (y_fieldAddr (o := 0) (i := 0) Try.underlying63 rfl Try.sizeOf5 rfl rfl rfl)) ?_
   refine d_take rfl want_none rfl hs31 (fun _ hq => (y_load1 Try.isAgg5 hq rfl rfl (show Ats _ _ _ _ [_] from Ats.part hb3 0 1))) ?_
   refine d_any rfl want_none rfl (fun _ => (y_u8int (by rw [Try.underlying5]; rfl) Try.underlying3 rfl rfl (by omega) (by omega))) ?_
   refine d_any rfl want_none rfl (fun _ => (y_fieldAddr (o := 0) (i := 0) Try.underlying26 rfl Try.sizeOf22 rfl rfl rfl)) ?_
   refine d_take rfl want_none rfl hs31 (fun _ hq => (y_load1 Try.isAgg22 hq rfl rfl (show Ats _ _ _ _ [_] from Ats.part hbx 0 1))) ?_
   refine d_any rfl want_none rfl (fun _ => (y_lenS Try.underlying22 rfl rfl)) ?_
   refine d_any rfl want_none rfl (fun _ => (y_rem rfl rfl rfl rfl (by omega) (by omega))) ?_
   refine d_any rfl want_none rfl (fun _ => (y_fieldAddr (o := 1) (i := 1) Try.underlying63 rfl Try.sizeOf5 rfl rfl rfl)) ?_
   refine d_take rfl want_none rfl hs31 (fun _ hq => (y_load1 Try.isAgg5 hq rfl rfl (show Ats _ _ _ _ [_] from Ats.part hb3 1 1))) ?_
   refine d_any rfl want_none rfl (fun _ => (y_u8int (by rw [Try.underlying5]; rfl) Try.underlying3 rfl rfl (by omega) (by omega))) ?_
   refine d_any rfl want_none rfl (fun _ => (y_rem rfl rfl rfl rfl (by omega) (by omega))) ?_
   refine d_any rfl want_none rfl (fun _ => (y_assign (v := .int _ _) rfl rfl)) ?_
   refine d_any rfl want_none rfl (fun _ => (y_assign (v := .int _ _) rfl rfl)) ?_
   refine d_nil ?_
   refine q_then (hK28 _ _ ?_)
   refine w_seq (fun K33 hK32 => ?_)
   have hg0 := Int.emod_nonneg pg (show (l.grades.length : Int) ≠ 0 by omega)
   have hg1 := Int.emod_lt_of_pos pg (show 0 < (l.grades.length : Int) by omega)
   obtain ⟨g, hg⟩ : ∃ g : Nat, pg % (l.grades.length : Int) = (g : Int) := ⟨(pg % (l.grades.length : Int)).toNat, by omega⟩
   rw [hg]
   have hg2 : g < l.grades.length := by omega
   have hm0 : 0 ≤ pn % 73 ∧ pn % 73 ≤ 72 := by omega
   obtain ⟨m, hmq⟩ : ∃ m, m = pn % 73 := ⟨_, rfl⟩
   rw [← hmq] at hm0 ⊢
   have hlaw := picked_law h1.1 h1.2 hg2 hm0 o
   refine w_region ?_
   refine w_pure want_none (y_loadN (vs := [_, _, _]) Try.isAgg26 Try.sizeOf26 hs31 rfl rfl hbx) rfl ?_
   refine w_pure want_none (y_move (v := .int _ _) rfl rfl) rfl ?_
   refine w_pure want_none (y_move (v := .int _ _) rfl rfl) rfl ?_
   refine w_call want_none Try.call30 rfl rfl rfl rfl (c30 l _ hm.cons.cons (g : Int) m hs31) ?_
   rintro _ w35 ⟨B1, a1, c1, rfl, hq1, hs36⟩
   replace hs36 := (show St _ _ (B1 ++ (_ :: _ :: F)) from hs36)
   refine w_pure want_none (y_move (v := .tuple _) rfl rfl) rfl ?_
   refine w_pure want_none (y_extract (v := .slice _ _ _) rfl rfl rfl) rfl ?_
   refine w_pure want_none (y_extract (v := .int _ _) rfl rfl rfl) rfl ?_
   refine w_pure want_none (y_assign (v := .slice _ _ _) rfl rfl) rfl ?_
   refine w_pure want_none (y_assign (v := .int _ _) rfl rfl) rfl ?_
   refine w_nil ?_
   refine q_then (hK32 _ _ ?_)
   refine w_seq (fun K38 hK37 => ?_)
   refine w_region ?_
   refine w_pure want_none (y_loadN (vs := [_, _, _]) Try.isAgg26 Try.sizeOf26 hs36.drop rfl rfl hbx) rfl ?_
   refine w_call want_none Try.call45 rfl rfl rfl rfl ((by have h := c45 l p hm.cons.cons.app hok none 0 [] (by simp) (Sl.nil _ _) hs36; rw [waysR_nil] at h; exact h)) ?_
   rintro _ w40 ⟨B, vs, a, c, rfl, hslB, helB, hs41⟩
   replace hs41 := (show St _ _ (B ++ (B1 ++ (_ :: _ :: F))) from hs41)
   refine w_pure want_none (y_assign (v := .slice _ _ _) rfl rfl) rfl ?_
   refine w_nil ?_
   refine q_then (hK37 _ _ ?_)
   refine w_seq (fun K43 hK42 => ?_)
   refine w_region ?_
   refine w_pure want_none (y_loadN (vs := [_, _, _]) Try.isAgg26 Try.sizeOf26 hs41.drop.drop rfl rfl hbx) rfl ?_
   refine w_pure want_none (y_move (v := .slice _ _ _) rfl rfl) rfl ?_
   refine w_pure want_none (y_move (v := .int _ _) rfl rfl) rfl ?_
   refine w_call want_none Try.call46 rfl rfl rfl rfl (c46 l p hm.cons.cons.app.app hok a c (Ha.ways l 0) vs hslB.top helB.top hwl (fun h hh => way_len hh) g hg2 hs41) ?_
   rintro _ w45 ⟨FB, hownF, hs46⟩
   replace hs46 := (show St _ _ (FB ++ (B ++ (B1 ++ (_ :: _ :: F)))) from hs46)
   obtain ⟨aF, cF, rfl, hslF, _, _⟩ := own_ints (w0 := w0) hownF
   refine w_pure want_none (y_assign (v := .slice _ _ _) rfl rfl) rfl ?_
   refine w_nil ?_
   refine q_then (hK42 _ _ ?_)
   refine w_seq (fun K48 hK47 => ?_)
   obtain ⟨Z, hZ, hsZ⟩ := gen_Z hs46
   have hb2 : Ats w0 Z b3 0 (l.cells p) := by rw [hZ]; exact hbx.app.app.app
   have hb3 : Ats w0 Z b6 0 [.int .u8 pg, .int .u8 pn, .int .u8 (o : Int), .int .u16 pw, .slice ay y.length cy] := by rw [hZ]; exact hb3.app.app.app
   have hmZ : LIn w0 Z l p := by rw [hZ]; exact hm.cons.cons.app.app.app
   have hslZ : Sl w0 Z a 1 (vs.map fun v => [v]) := by rw [hZ]; exact hslB.top.app
   have helZ : EL w0 Z vs (Ha.ways l 0) := by rw [hZ]; exact helB.top.app
   have hqZ : Sl w0 Z a1 1 ((pickP l (g : Int) m).1.map fun x => [Value.int .i64 x]) := by rw [hZ]; exact hq1.top.app.app
   have hFZ : Sl w0 Z aF 1 ((fitR l (Ha.ways l 0) g l.bunches.length).map fun x => [Value.int .i64 x]) := by rw [hZ]; exact hslF.top
   have hysZ : Sl w0 Z ay 1 (y.map fun x => [Value.int .u8 x]) := by rw [hZ]; exact hys.cons.cons.app.app.app
   have hfi := fitR_in l (Ha.ways l 0) g l.bunches.length
   refine w_region ?_
   refine w_pure want_none (y_assign (v := _) rfl rfl) rfl ?_
   refine w_nil ?_
   refine q_then (hK47 _ _ ?_)
   refine w_seq (fun K50 hK49 => ?_)
   refine w_seq (fun K52 hK51 => ?_)
   refine w_region ?_
   refine w_pure want_none (y_assign (v := _) rfl rfl) rfl ?_
   refine w_nil ?_
   refine q_then (hK51 _ _ ?_)
   refine w_block ?_
   refine w_loop [13, 14, 58, 59, 60, 61, 62, 63, 64, 65, 66, 67, 68, 69, 70, 71, 72, 73, 74, 75] [13, 14] (fun kk vs0 w => ∃ (i : Nat) (v : Value) (OB : List (Nat × Obj)), vs0 = [v, .int .i64 i] ∧ i ≤ (fitR l (Ha.ways l 0) g l.bunches.length).length ∧ kk = (fitR l (Ha.ways l 0) g l.bunches.length).length - i ∧ Rt.Own v 3 1 (pkTo (fitR l (Ha.ways l 0) g l.bunches.length) o i).length (iv (pkTo (fitR l (Ha.ways l 0) g l.bunches.length) o i)) OB ∧ St w0 w (OB ++ Z)) ((fitR l (Ha.ways l 0) g l.bunches.length).length) ?_ ?_
   ·
    exact ⟨0, _, [], rfl, by omega, by omega, own_nil 3 1, hsZ⟩
   ·
    intro k vs μ w55 hI K54 hN53
    obtain ⟨i, v, OB, rfl, hia, rfl, hown, hs⟩ := hI
    refine w_seq (fun K57 hK56 => ?_)
    refine w_seq (fun K59 hK58 => ?_)
    refine w_region ?_
    refine w_pure want_none (y_move (v := .int _ _) rfl rfl) rfl ?_
    refine w_pure want_none (y_move (v := .slice _ _ _) rfl rfl) rfl ?_
    refine w_pure want_none (y_lenS Try.underlying37 rfl rfl) rfl ?_
    refine w_pure want_none (y_lss rfl rfl rfl rfl) rfl ?_
    refine w_nil ?_
    refine q_then (hK58 _ _ ?_)
    refine w_cond rfl rfl (fun h60 => ?_) (fun h60 => ?_)
    ·
     try simp only [Bool.not_eq_true', Bool.not_eq_false', decide_eq_true_eq, decide_eq_false_iff_not, Int.not_lt, Int.not_le] at h60
     refine w_skip ?_
     refine q_then (hK56 _ _ ?_)
     refine w_seq (fun K62 hK61 => ?_)
     refine w_block ?_
     refine w_seq (fun K64 hK63 => ?_)
     have hi2 : i < (fitR l (Ha.ways l 0) g l.bunches.length).length := by omega
     obtain ⟨c3, o3, he3, hf3⟩ := sl_ints hFZ hi2
     subst he3
     have hpl := pk_len (fitR l (Ha.ways l 0) g l.bunches.length) o i
     refine w_region ?_
     refine w_pure want_none (y_fieldAddr (o := 2) (i := 2) Try.underlying63 rfl Try.sizeOf5 rfl rfl rfl) rfl ?_
     refine w_pure want_none (y_load1 Try.isAgg5 hs.drop rfl rfl (show Ats _ _ _ _ [_] from Ats.part hb3 2 1)) rfl ?_
     refine w_pure want_none (y_u8int (by rw [Try.underlying5]; rfl) Try.underlying3 rfl rfl (by omega) (by omega)) rfl ?_
     refine w_pure want_none (y_move (v := .int _ _) rfl rfl) rfl ?_
     refine w_call want_none Try.call47 rfl rfl rfl rfl (bit_con o i (by omega) (by omega) (by omega) hs) ?_
     rintro _ w66 ⟨rfl, hs67⟩
     refine w_nil ?_
     refine q_then (hK63 _ _ ?_)
     refine w_cond rfl rfl (fun h68 => ?_) (fun h68 => ?_)
     ·
      try simp only [Bool.not_eq_true', Bool.not_eq_false', decide_eq_true_eq, decide_eq_false_iff_not, Int.not_lt, Int.not_le] at h68
      refine w_region ?_
      refine w_pure want_none (y_move (v := v) rfl rfl) rfl ?_
      refine w_pure want_none (y_move (v := .slice _ _ _) rfl rfl) rfl ?_
      refine w_pure want_none (y_move (v := .int _ _) rfl rfl) rfl ?_
      refine w_pure want_none (y_indexS Try.underlying37 Try.sizeOf3 rfl rfl rfl rfl (i := i) rfl hi2) rfl ?_
      refine w_pure want_none (y_load1 Try.isAgg3 hs67.drop rfl rfl hf3) rfl ?_
      refine w_bslice (ps := [(0, _)]) (pv := [(0, .int _ _)]) (cs := [_]) want_none rfl rfl (fun w => Try_Zc_fb6 _ w) hs67 (fun b69 w70 hs71 => ?_)
      refine w_append (X := (_ :: [])) (B := OB) (rows := [[_]]) (sz := 1) (bytes := 8) want_none Try.underlying37 Try_info3 rfl rfl rfl rfl rfl rfl rfl rfl rfl hs71 hown (sl_own (i := 0) rfl (by simp) rfl) rfl (by simp) (by simp [Value.oneCell']) (by simp only [maxLen]; omega) (by omega) (fun v72 w73 B74 ho75 hs76 => ?_)
      replace hs76 := (show St _ _ (_ :: B74 ++ (Z)) from hs76)
      refine w_pure want_none (y_assign (v := v72) rfl rfl) rfl ?_
      refine w_nil ?_
      refine q_blk_normal ?_
      refine q_then (hK61 _ _ ?_)
      refine w_region ?_
      refine w_pure want_none (y_move (v := .int _ _) rfl rfl) rfl ?_
      refine w_pure want_none (y_add rfl rfl rfl rfl (by omega) (by omega)) rfl ?_
      refine w_pure want_none (y_assign (v := .int _ _) rfl rfl) rfl ?_
      refine w_nil ?_
      refine q_then (hN53 _ _ (Nx.intro ((fitR l (Ha.ways l 0) g l.bunches.length).length - (i + 1)) (by omega) (by repeat (first | exact agree_mix | refine agree_upd rfl ?_ | refine agree_updL rfl ?_ _ | refine agree_mixin rfl ?_)) ?_))
      exact ⟨i + 1, _, _, rfl, by omega, rfl, by rw [pk_y hi2 (by assumption)]; exact own_snoc ho75, hs76.tail⟩
     ·
      try simp only [Bool.not_eq_true', Bool.not_eq_false', decide_eq_true_eq, decide_eq_false_iff_not, Int.not_lt, Int.not_le] at h68
      refine w_skip ?_
      refine q_blk_normal ?_
      refine q_then (hK61 _ _ ?_)
      refine w_region ?_
      refine w_pure want_none (y_move (v := .int _ _) rfl rfl) rfl ?_
      refine w_pure want_none (y_add rfl rfl rfl rfl (by omega) (by omega)) rfl ?_
      refine w_pure want_none (y_assign (v := .int _ _) rfl rfl) rfl ?_
      refine w_nil ?_
      refine q_then (hN53 _ _ (Nx.intro ((fitR l (Ha.ways l 0) g l.bunches.length).length - (i + 1)) (by omega) (by repeat (first | exact agree_mix | refine agree_upd rfl ?_ | refine agree_updL rfl ?_ _ | refine agree_mixin rfl ?_)) ?_))
      exact ⟨i + 1, v, OB, rfl, by omega, rfl, by rw [pk_n (by assumption)]; exact hown, hs67⟩
    ·
     try simp only [Bool.not_eq_true', Bool.not_eq_false', decide_eq_true_eq, decide_eq_false_iff_not, Int.not_lt, Int.not_le] at h60
     refine w_exit ?_
     refine q_then_exit ?_
     refine q_then_exit ?_
     refine q_blk_this ?_
     refine q_then (hK49 _ _ ?_)
     refine w_seq (fun K78 hK77 => ?_)
     have hin : i = (fitR l (Ha.ways l 0) g l.bunches.length).length := by omega
     subst hin
     obtain ⟨aO, cO, rfl, hslO, _, _⟩ := own_ints (w0 := w0) hown
     have hpl := pk_len (fitR l (Ha.ways l 0) g l.bunches.length) o (fitR l (Ha.ways l 0) g l.bunches.length).length
     refine w_region ?_
     refine w_pure want_none (y_move (v := .slice _ _ _) rfl rfl) rfl ?_
     refine w_pure want_none (y_move (v := .slice _ _ _) rfl rfl) rfl ?_
     refine w_call want_none Try.call48 rfl rfl rfl rfl (c48 a c (Ha.ways l 0) vs hslZ.app helZ.app hwl l.bunches.length (fun h hh => way_len hh) (fun h hh => way_in hok hh) _ _ (pkTo (fitR l (Ha.ways l 0) g l.bunches.length) o (fitR l (Ha.ways l 0) g l.bunches.length).length) (by omega) (fun z hz => hfi.2 z (pk_in _ (Nat.le_refl _) hz)) hslO.top hs) ?_
     rintro _ w80 ⟨rfl, hs81⟩
     refine w_pure want_none (y_move (v := .int _ _) rfl rfl) rfl ?_
     refine w_pure want_none (y_geq rfl rfl rfl rfl) rfl ?_
     refine w_pure want_none (y_assign (v := .bool _) rfl rfl) rfl ?_
     refine w_nil ?_
     refine q_then (hK77 _ _ ?_)
     refine w_seq (fun K83 hK82 => ?_)
     refine w_seq (fun K85 hK84 => ?_)
     refine w_region ?_
     refine w_pure want_none (y_move (v := .int _ _) rfl rfl) rfl ?_
     refine w_pure want_none (y_neq rfl rfl rfl rfl) rfl ?_
     refine w_nil ?_
     refine q_then (hK84 _ _ ?_)
     refine w_cond rfl rfl (fun h86 => ?_) (fun h86 => ?_)
     ·
      try simp only [Bool.not_eq_true', Bool.not_eq_false', decide_eq_true_eq, decide_eq_false_iff_not, Int.not_lt, Int.not_le] at h86
      refine w_seq (fun K88 hK87 => ?_)
      have h9 : pickP l (g : Int) m = ([], 9) ∧ ¬ m ≤ leastR (Ha.ways l 0) (pkTo (fitR l (Ha.ways l 0) g l.bunches.length) o (fitR l (Ha.ways l 0) g l.bunches.length).length) := by
        rcases hlaw with h | ⟨own, h, _⟩
        · exact h
        · exfalso
          have h0 : (pickP l (g : Int) m).2 = 0 := by rw [h]
          first | omega | simp_all
      refine w_region ?_
      refine w_pure want_none (y_move (v := .int _ _) rfl rfl) rfl ?_
      refine w_pure want_none (y_eql rfl rfl rfl rfl) rfl ?_
      refine w_pure want_none (y_move (v := .bool _) rfl rfl) rfl ?_
      refine w_split (fun h89 => ?_) (fun h89 => ?_)
      ·
       try simp only [Bool.not_eq_true', Bool.not_eq_false', decide_eq_true_eq, decide_eq_false_iff_not, Int.not_lt, Int.not_le] at h89
       refine w_pure (want_yes rfl rfl rfl) (y_move (v := .slice _ _ _) rfl rfl) rfl ?_
       refine w_pure (want_yes rfl rfl rfl) (y_lenS Try.underlying37 rfl rfl) rfl ?_
       refine w_pure (want_yes rfl rfl rfl) (y_eql rfl rfl rfl rfl) rfl ?_
       refine w_pure want_none (y_pickT (v := .bool _) rfl rfl rfl rfl) rfl ?_
       refine w_pure want_none (y_move (v := .bool _) rfl rfl) rfl ?_
       refine w_split (fun h90 => ?_) (fun h90 => ?_)
       ·
        try simp only [Bool.not_eq_true', Bool.not_eq_false', decide_eq_true_eq, decide_eq_false_iff_not, Int.not_lt, Int.not_le] at h90
        refine w_pure (want_yes rfl rfl rfl) (y_move (v := .bool _) rfl rfl) rfl ?_
        refine w_pure (want_yes rfl rfl rfl) (y_not rfl rfl) rfl ?_
        refine w_pure want_none (y_pickT (v := .bool _) rfl rfl rfl rfl) rfl ?_
        refine w_pure want_none (y_move (v := .bool _) rfl rfl) rfl ?_
        refine w_split (fun h91 => ?_) (fun h91 => ?_)
        ·
         try simp only [Bool.not_eq_true', Bool.not_eq_false', decide_eq_true_eq, decide_eq_false_iff_not, Int.not_lt, Int.not_le] at h91
         refine w_call (want_yes rfl rfl rfl) Try.call20 rfl rfl rfl rfl (c20 hs81) ?_
         rintro _ w93 ⟨rfl, hs94⟩
         refine w_pure want_none (y_pickT (v := .bool _) rfl rfl rfl rfl) rfl ?_
         refine w_pure want_none (y_assign (v := .bool _) rfl rfl) rfl ?_
         refine w_nil ?_
         refine q_then (hK87 _ _ ?_)
         refine w_ret ?_
         refine q_then_ret ?_
         refine q_ret (l := [.tmp 4]) (vs := [_]) rfl ⟨⟨rfl, show _ = (.bool _ : Value) from rfl⟩, trivial⟩ ?_
         exact ⟨rfl, (St.cast hZ hs94.drop).drop.drop.drop.tail.tail⟩
        ·
         exfalso
         try simp only [Bool.not_eq_true', Bool.not_eq_false', decide_eq_true_eq, decide_eq_false_iff_not, Int.not_lt, Int.not_le] at h91
         exact h9.2 h91
       ·
        exfalso
        try simp only [Bool.not_eq_true', Bool.not_eq_false', decide_eq_true_eq, decide_eq_false_iff_not, Int.not_lt, Int.not_le] at h90
        rw [h9.1] at h90; simp at h90
      ·
       exfalso
       try simp only [Bool.not_eq_true', Bool.not_eq_false', decide_eq_true_eq, decide_eq_false_iff_not, Int.not_lt, Int.not_le] at h89
       rw [h9.1] at h89; simp at h89
     ·
      try simp only [Bool.not_eq_true', Bool.not_eq_false', decide_eq_true_eq, decide_eq_false_iff_not, Int.not_lt, Int.not_le] at h86
      refine w_skip ?_
      refine q_then (hK82 _ _ ?_)
      refine w_seq (fun K96 hK95 => ?_)
      refine w_seq (fun K98 hK97 => ?_)
      have hPE : PickF l g m (pkTo (fitR l (Ha.ways l 0) g l.bunches.length) o (fitR l (Ha.ways l 0) g l.bunches.length).length) (pickP l (g : Int) m).1 ∧ (pickP l (g : Int) m).2 = 0 := by
        rcases hlaw with h | ⟨own, h, hf⟩
        · exfalso
          have h0 : (pickP l (g : Int) m).2 = 9 := by rw [h.1]
          first | omega | simp_all
        · rw [h]; exact ⟨hf, rfl⟩
      have hPF := hPE.1
      have hol := hPF.len
      refine w_region ?_
      refine w_pure want_none (y_move (v := .slice _ _ _) rfl rfl) rfl ?_
      refine w_pure want_none (y_fieldAddr (o := 1) (i := 1) Try.underlying26 rfl Try.sizeOf23 rfl rfl rfl) rfl ?_
      refine w_pure want_none (y_load1 Try.isAgg23 hs81.drop rfl rfl (show Ats _ _ _ _ [_] from Ats.part hb2 1 1)) rfl ?_
      refine w_pure want_none (y_lenS Try.underlying23 rfl rfl) rfl ?_
      refine w_call want_none Try.call49 rfl rfl rfl rfl (c49 _ _ (pickP l (g : Int) m).1 (by omega) hqZ.app _ hs81) ?_
      rintro _ w100 ⟨rfl, hs101⟩
      refine w_pure want_none (y_not rfl rfl) rfl ?_
      refine w_pure want_none (y_move (v := .bool _) rfl rfl) rfl ?_
      refine w_split (fun h102 => ?_) (fun h102 => ?_)
      ·
       exfalso
       try simp only [Bool.not_eq_true', Bool.not_eq_false', decide_eq_true_eq, decide_eq_false_iff_not, Int.not_lt, Int.not_le] at h102
       rw [hPF.ri] at h102; simp at h102
      ·
       try simp only [Bool.not_eq_true', Bool.not_eq_false', decide_eq_true_eq, decide_eq_false_iff_not, Int.not_lt, Int.not_le] at h102
       refine w_pure (want_yes rfl rfl rfl) (y_move (v := .bool _) rfl rfl) rfl ?_
       refine w_pure (want_yes rfl rfl rfl) (y_move (v := .bool _) rfl rfl) rfl ?_
       refine w_split (fun h103 => ?_) (fun h103 => ?_)
       ·
        try simp only [Bool.not_eq_true', Bool.not_eq_false', decide_eq_true_eq, decide_eq_false_iff_not, Int.not_lt, Int.not_le] at h103
        refine w_pure (want_yes rfl rfl rfl) (y_move (v := .slice _ _ _) rfl rfl) rfl ?_
        refine w_pure (want_yes rfl rfl rfl) (y_move (v := .slice _ _ _) rfl rfl) rfl ?_
        refine w_call (want_yes rfl rfl rfl) Try.call50 rfl rfl rfl rfl (c50 _ _ (pkTo (fitR l (Ha.ways l 0) g l.bunches.length) o (fitR l (Ha.ways l 0) g l.bunches.length).length) (pickP l (g : Int) m).1 _ _ (by omega) hslO.top hqZ.app hs101) ?_
        rintro _ w105 ⟨rfl, hs106⟩
        refine w_pure (want_yes rfl rfl rfl) (y_pickT (v := .bool _) rfl rfl rfl rfl) rfl ?_
        refine w_pure want_none (y_pickF (v := .bool _) rfl rfl rfl rfl) rfl ?_
        refine w_nil ?_
        refine q_then (hK97 _ _ ?_)
        refine w_cond rfl rfl (fun h107 => ?_) (fun h107 => ?_)
        ·
         exfalso
         try simp only [Bool.not_eq_true', Bool.not_eq_false', decide_eq_true_eq, decide_eq_false_iff_not, Int.not_lt, Int.not_le] at h107
         rw [before_fewer, hPF.few (by assumption)] at h107; simp at h107
        ·
         try simp only [Bool.not_eq_true', Bool.not_eq_false', decide_eq_true_eq, decide_eq_false_iff_not, Int.not_lt, Int.not_le] at h107
         refine w_skip ?_
         refine q_then (hK95 _ _ ?_)
         refine w_seq (fun K109 hK108 => ?_)
         have hzm := Int.emod_nonneg pw (show ((Ha.ways l 0).length : Int) ≠ 0 by omega)
         have hzl := Int.emod_lt_of_pos pw (show 0 < ((Ha.ways l 0).length : Int) by omega)
         obtain ⟨u, hu⟩ : ∃ u : Nat, pw % ((Ha.ways l 0).length : Int) = (u : Int) := ⟨(pw % ((Ha.ways l 0).length : Int)).toNat, by omega⟩
         have hu2 : u < (Ha.ways l 0).length := by omega
         obtain ⟨bx, ox, e2, q2, ha, hx, hsx0, _⟩ := el_at hslZ helZ hu2
         subst ha
         have hmem : ((Ha.ways l 0)[u]'hu2) ∈ Ha.ways l 0 := List.getElem_mem hu2
         have hwln := way_len hmem
         have hwin := way_in hok hmem
         refine w_draw [] [(0, 0), (1, 0), (2, 1), (3, 0), (4, 0), (5, 0), (6, 0), (7, 0), (8, 1), (9, 1), (10, 0), (11, 1), (12, 2), (13, 0), (14, 0)] Try_mo (drawOK_of (by kernel_rfl)) hs106 (fun w110 hs111 => ?_)
         refine d_any rfl want_none rfl (fun _ => (y_move (v := .slice _ _ _) rfl rfl)) ?_
         refine d_any rfl want_none rfl (fun _ => (y_fieldAddr (o := 3) (i := 3) Try.underlying63 rfl Try.sizeOf53 rfl rfl rfl)) ?_
         refine d_take rfl want_none rfl hs111 (fun _ hq => (y_load1 Try.isAgg53 hq.drop rfl rfl (show Ats _ _ _ _ [_] from Ats.part hb3 3 1))) ?_
         refine d_any rfl want_none rfl (fun _ => (y_u16int (by rw [Try.underlying53]; rfl) Try.underlying3 rfl rfl (by omega) (by omega))) ?_
         refine d_any rfl want_none rfl (fun _ => (y_move (v := .slice _ _ _) rfl rfl)) ?_
         refine d_any rfl want_none rfl (fun _ => (y_lenS Try.underlying64 rfl rfl)) ?_
         refine d_any rfl want_none rfl (fun _ => (y_rem rfl rfl rfl rfl (by omega) (by omega))) ?_
         refine d_any rfl want_none rfl (fun _ => (y_indexS Try.underlying64 Try.sizeOf37 rfl rfl rfl rfl (i := u) (by omega) hu2)) ?_
         refine d_take rfl want_none rfl hs111 (fun _ hq => (y_load1 Try.isAgg37 hq.drop rfl rfl hx)) ?_
         refine d_take rfl want_none rfl hs111 (fun _ hq => (y_loadN (vs := [_, _, _]) Try.isAgg26 Try.sizeOf26 hq.drop rfl rfl hb2)) ?_
         refine d_any rfl want_none rfl (fun _ => (y_fieldAddr (o := 4) (i := 4) Try.underlying63 rfl Try.sizeOf54 rfl rfl rfl)) ?_
         refine d_take rfl want_none rfl hs111 (fun _ hq => (y_load1 Try.isAgg54 hq.drop rfl rfl (show Ats _ _ _ _ [_] from Ats.part hb3 4 1))) ?_
         refine d_eff rfl ?_
         refine w_call want_none Try.call40 rfl rfl rfl rfl (c40 l p hmZ.app hok _ _ y hyl hysZ.app hyr hs111) ?_
         rintro _ w113 ⟨SB, aS, cS, rfl, hslS, hs114⟩
         replace hs114 := (show St _ _ (SB ++ (OB ++ (Z))) from hs114)
         refine w_nil ?_
         refine qn ⟨hs114.drop, ?_⟩
         refine d_any rfl want_none rfl (fun _ => (y_assign (v := .slice _ _ _) rfl rfl)) ?_
         refine d_any rfl want_none rfl (fun _ => (y_assign (v := .slice _ _ _) rfl rfl)) ?_
         refine d_nil ?_
         refine q_then (hK108 _ _ ?_)
         refine w_seq (fun K116 hK115 => ?_)
         refine w_region ?_
         refine w_pure want_none (y_assign (v := _) rfl rfl) rfl ?_
         refine w_nil ?_
         refine q_then (hK115 _ _ ?_)
         refine w_seq (fun K118 hK117 => ?_)
         refine w_seq (fun K120 hK119 => ?_)
         refine w_region ?_
         refine w_pure want_none (y_assign (v := _) rfl rfl) rfl ?_
         refine w_nil ?_
         refine q_then (hK119 _ _ ?_)
         refine w_block ?_
         refine w_loop [4, 18, 19, 20, 124, 125, 126, 127, 128, 129, 130, 131, 132, 133, 134, 135, 136, 137, 138, 139, 140, 141, 142, 143, 144, 145, 146, 147, 148, 149, 150, 151, 152, 153, 154, 155, 156, 157, 158] [18, 19] (fun kk vs0 w => ∃ (i : Nat), vs0 = [.int .i64 (someOf ((Ha.ways l 0)[u]'hu2) ((pickP l (g : Int) m).1.take i)), .int .i64 i] ∧ i ≤ (pickP l (g : Int) m).1.length ∧ kk = (pickP l (g : Int) m).1.length - i ∧ St w0 w (SB ++ (OB ++ Z))) ((pickP l (g : Int) m).1.length) ?_ ?_
         ·
          exact ⟨0, rfl, by omega, by omega, hs114⟩
         ·
          intro k vs μ w123 hI K122 hN121
          obtain ⟨i, rfl, hia, rfl, hs⟩ := hI
          refine w_seq (fun K125 hK124 => ?_)
          refine w_seq (fun K127 hK126 => ?_)
          refine w_region ?_
          refine w_pure want_none (y_move (v := .int _ _) rfl rfl) rfl ?_
          refine w_pure want_none (y_move (v := .slice _ _ _) rfl rfl) rfl ?_
          refine w_pure want_none (y_lenS Try.underlying37 rfl rfl) rfl ?_
          refine w_pure want_none (y_lss rfl rfl rfl rfl) rfl ?_
          refine w_nil ?_
          refine q_then (hK126 _ _ ?_)
          refine w_cond rfl rfl (fun h128 => ?_) (fun h128 => ?_)
          ·
           try simp only [Bool.not_eq_true', Bool.not_eq_false', decide_eq_true_eq, decide_eq_false_iff_not, Int.not_lt, Int.not_le] at h128
           refine w_skip ?_
           refine q_then (hK124 _ _ ?_)
           refine w_seq (fun K130 hK129 => ?_)
           refine w_block ?_
           refine w_seq (fun K132 hK131 => ?_)
           have hi2 : i < (pickP l (g : Int) m).1.length := by omega
           have hz := hPF.of _ (List.getElem_mem hi2)
           obtain ⟨q, hq⟩ : ∃ q : Nat, (pickP l (g : Int) m).1[i] = (q : Int) := ⟨(pickP l (g : Int) m).1[i].toNat, by omega⟩
           rw [hq, Int.toNat_natCast] at hz
           have hqn : q < l.bunches.length := by omega
           have hqh : q < ((Ha.ways l 0)[u]'hu2).length := by omega
           have hqs : q < (scTo l y l.bunches.length).length := by rw [sc_len]; exact hqn
           have hag := at_g hqh
           have hsc : (scTo l y l.bunches.length)[q] = scOf l y q := sc_at hqs
           have hz2 := hz.2.2 _ hmem (scOf l y q) (sc_in hok hqn)
           obtain ⟨c4, o4, he4, hy1⟩ := sl_ints hqZ hi2
           subst he4
           obtain ⟨c5, o5, he5, hh1⟩ := sl_ints hsx0 hqh
           subst he5
           obtain ⟨c6, o6, he6, hsk0⟩ := sl_ints hslS hqs
           subst he6
           have hsk1 := hsk0.top (F := OB ++ Z)
           have hsi := someOf_in hwin ((pickP l (g : Int) m).1.take i)
           have htl : ((pickP l (g : Int) m).1.take i).length ≤ 6 := by rw [List.length_take]; omega
           have hwq := hwin q
           refine w_draw [] [(0, 1), (1, 0), (2, 0), (3, 0), (4, 0), (5, 1), (6, 0), (7, 1), (8, 0), (9, 0), (10, 0), (11, 0), (12, 1), (13, 0), (14, 1), (15, 2), (16, 0)] Try_mo (drawOK_of (by kernel_rfl)) hs (fun w133 hs134 => ?_)
           refine d_take rfl want_none rfl hs134 (fun _ hq => (y_loadN (vs := [_, _, _]) Try.isAgg26 Try.sizeOf26 hq.drop.drop rfl rfl hb2)) ?_
           refine d_any rfl want_none rfl (fun _ => (y_move (v := .slice _ _ _) rfl rfl)) ?_
           refine d_any rfl want_none rfl (fun _ => (y_move (v := .slice _ _ _) rfl rfl)) ?_
           refine d_any rfl want_none rfl (fun _ => (y_move (v := .int _ _) rfl rfl)) ?_
           refine d_any rfl want_none rfl (fun _ => (y_indexS Try.underlying37 Try.sizeOf3 rfl rfl rfl rfl (i := i) rfl hi2)) ?_
           refine d_take rfl want_none rfl hs134 (fun _ hq => (y_load1 Try.isAgg3 hq.drop.drop rfl rfl hy1)) ?_
           refine d_any rfl want_none rfl (fun _ => (y_indexS Try.underlying37 Try.sizeOf3 rfl rfl rfl rfl (i := q) hq hqh)) ?_
           refine d_take rfl want_none rfl hs134 (fun _ hq => (y_load1 Try.isAgg3 hq.drop.drop rfl rfl hh1)) ?_
           refine d_any rfl want_none rfl (fun _ => (y_move (v := .slice _ _ _) rfl rfl)) ?_
           refine d_any rfl want_none rfl (fun _ => (y_move (v := .slice _ _ _) rfl rfl)) ?_
           refine d_any rfl want_none rfl (fun _ => (y_move (v := .int _ _) rfl rfl)) ?_
           refine d_any rfl want_none rfl (fun _ => (y_indexS Try.underlying37 Try.sizeOf3 rfl rfl rfl rfl (i := i) rfl hi2)) ?_
           refine d_take rfl want_none rfl hs134 (fun _ hq => (y_load1 Try.isAgg3 hq.drop.drop rfl rfl hy1)) ?_
           refine d_any rfl want_none rfl (fun _ => (y_indexS Try.underlying37 Try.sizeOf3 rfl rfl rfl rfl (i := q) hq hqs)) ?_
           refine d_take rfl want_none rfl hs134 (fun _ hq => (y_load1 Try.isAgg3 hq rfl rfl hsk1)) ?_
           refine d_eff rfl ?_
           refine w_call want_none Try.call41 rfl rfl rfl rfl ((c41 l p hmZ.app.app _ _ hs134).mono (fun v w2 h => by rw [← hag, hsc] at h; exact (show v = .int .i64 (ofG l.grades 0 (at_ ((Ha.ways l 0)[u]'hu2) q) (scOf l y q)) ∧ _ from h))) ?_
           rintro _ w136 ⟨rfl, hs137⟩
           refine w_nil ?_
           refine qn ⟨hs137, ?_⟩
           refine d_any rfl want_none rfl (fun _ => (y_assign (v := .int _ _) rfl rfl)) ?_
           refine d_nil ?_
           refine q_then (hK131 _ _ ?_)
           refine w_seq (fun K139 hK138 => ?_)
           refine w_seq (fun K141 hK140 => ?_)
           refine w_region ?_
           refine w_pure want_none (y_move (v := .int _ _) rfl rfl) rfl ?_
           refine w_pure want_none (y_move (v := .int _ _) rfl rfl) rfl ?_
           refine w_call want_none Try.call51 rfl rfl rfl rfl (c51 _ _ _ hs137) ?_
           rintro _ w143 ⟨rfl, hs144⟩
           refine w_pure want_none (y_not rfl rfl) rfl ?_
           refine w_nil ?_
           refine q_then (hK140 _ _ ?_)
           refine w_cond rfl rfl (fun h145 => ?_) (fun h145 => ?_)
           ·
            exfalso
            try simp only [Bool.not_eq_true', Bool.not_eq_false', decide_eq_true_eq, decide_eq_false_iff_not, Int.not_lt, Int.not_le] at h145
            omega
           ·
            try simp only [Bool.not_eq_true', Bool.not_eq_false', decide_eq_true_eq, decide_eq_false_iff_not, Int.not_lt, Int.not_le] at h145
            refine w_skip ?_
            refine q_then (hK138 _ _ ?_)
            refine w_region ?_
            refine w_pure want_none (y_move (v := .int _ _) rfl rfl) rfl ?_
            refine w_pure want_none (y_move (v := .slice _ _ _) rfl rfl) rfl ?_
            refine w_pure want_none (y_move (v := .slice _ _ _) rfl rfl) rfl ?_
            refine w_pure want_none (y_move (v := .int _ _) rfl rfl) rfl ?_
            refine w_pure want_none (y_indexS Try.underlying37 Try.sizeOf3 rfl rfl rfl rfl (i := i) rfl hi2) rfl ?_
            refine w_pure want_none (y_load1 Try.isAgg3 hs144.drop.drop rfl rfl hy1) rfl ?_
            refine w_pure want_none (y_indexS Try.underlying37 Try.sizeOf3 rfl rfl rfl rfl (i := q) hq hqh) rfl ?_
            refine w_pure want_none (y_load1 Try.isAgg3 hs144.drop.drop rfl rfl hh1) rfl ?_
            refine w_pure want_none (y_add rfl rfl rfl rfl (by omega) (by omega)) rfl ?_
            refine w_pure want_none (y_assign (v := .int _ _) rfl rfl) rfl ?_
            refine w_nil ?_
            refine q_blk_normal ?_
            refine q_then (hK129 _ _ ?_)
            refine w_region ?_
            refine w_pure want_none (y_move (v := .int _ _) rfl rfl) rfl ?_
            refine w_pure want_none (y_add rfl rfl rfl rfl (by omega) (by omega)) rfl ?_
            refine w_pure want_none (y_assign (v := .int _ _) rfl rfl) rfl ?_
            refine w_nil ?_
            refine q_then (hN121 _ _ (Nx.intro ((pickP l (g : Int) m).1.length - (i + 1)) (by omega) (by repeat (first | exact agree_mix | refine agree_upd rfl ?_ | refine agree_updL rfl ?_ _ | refine agree_mixin rfl ?_)) ?_))
            exact ⟨i + 1, iv2 (by rw [some_take hi2, hq, Int.toNat_natCast, hag]) rfl, by omega, rfl, hs144⟩
          ·
           try simp only [Bool.not_eq_true', Bool.not_eq_false', decide_eq_true_eq, decide_eq_false_iff_not, Int.not_lt, Int.not_le] at h128
           refine w_exit ?_
           refine q_then_exit ?_
           refine q_then_exit ?_
           refine q_blk_this ?_
           refine q_then (hK117 _ _ ?_)
           refine w_seq (fun K147 hK146 => ?_)
           have hin2 : i = (pickP l (g : Int) m).1.length := by omega
           subst hin2
           have hsm : m ≤ someOf ((Ha.ways l 0)[u]'hu2) ((pickP l (g : Int) m).1.take (pickP l (g : Int) m).1.length) := by rw [List.take_length]; exact hPF.sum _ hmem
           refine w_region ?_
           refine w_pure want_none (y_move (v := .int _ _) rfl rfl) rfl ?_
           refine w_pure want_none (y_move (v := .int _ _) rfl rfl) rfl ?_
           refine w_pure want_none (y_geq rfl rfl rfl rfl) rfl ?_
           refine w_pure want_none (y_move (v := .bool _) rfl rfl) rfl ?_
           refine w_split (fun h148 => ?_) (fun h148 => ?_)
           ·
            try simp only [Bool.not_eq_true', Bool.not_eq_false', decide_eq_true_eq, decide_eq_false_iff_not, Int.not_lt, Int.not_le] at h148
            refine w_call (want_yes rfl rfl rfl) Try.call20 rfl rfl rfl rfl (c20 hs) ?_
            rintro _ w150 ⟨rfl, hs151⟩
            refine w_pure want_none (y_pickT (v := .bool _) rfl rfl rfl rfl) rfl ?_
            refine w_pure want_none (y_assign (v := .bool _) rfl rfl) rfl ?_
            refine w_nil ?_
            refine q_then (hK146 _ _ ?_)
            refine w_ret ?_
            refine q_ret (l := [.tmp 4]) (vs := [_]) rfl ⟨⟨rfl, show _ = (.bool _ : Value) from rfl⟩, trivial⟩ ?_
            exact ⟨rfl, (St.cast hZ hs151.drop.drop).drop.drop.drop.tail.tail⟩
           ·
            exfalso
            try simp only [Bool.not_eq_true', Bool.not_eq_false', decide_eq_true_eq, decide_eq_false_iff_not, Int.not_lt, Int.not_le] at h148
            omega
       ·
        try simp only [Bool.not_eq_true', Bool.not_eq_false', decide_eq_true_eq, decide_eq_false_iff_not, Int.not_lt, Int.not_le] at h103
        refine w_skipop rfl rfl rfl ?_
        refine w_skipop rfl rfl rfl ?_
        refine w_skipop rfl rfl rfl ?_
        refine w_pure (want_yes rfl rfl rfl) (y_pickF (v := _) rfl rfl rfl rfl) rfl ?_
        refine w_pure want_none (y_pickF (v := .bool _) rfl rfl rfl rfl) rfl ?_
        refine w_nil ?_
        refine q_then (hK97 _ _ ?_)
        refine w_condF rfl rfl ?_
        refine w_skip ?_
        refine q_then (hK95 _ _ ?_)
        refine w_seq (fun K153 hK152 => ?_)
        have hzm := Int.emod_nonneg pw (show ((Ha.ways l 0).length : Int) ≠ 0 by omega)
        have hzl := Int.emod_lt_of_pos pw (show 0 < ((Ha.ways l 0).length : Int) by omega)
        obtain ⟨u, hu⟩ : ∃ u : Nat, pw % ((Ha.ways l 0).length : Int) = (u : Int) := ⟨(pw % ((Ha.ways l 0).length : Int)).toNat, by omega⟩
        have hu2 : u < (Ha.ways l 0).length := by omega
        obtain ⟨bx, ox, e2, q2, ha, hx, hsx0, _⟩ := el_at hslZ helZ hu2
        subst ha
        have hmem : ((Ha.ways l 0)[u]'hu2) ∈ Ha.ways l 0 := List.getElem_mem hu2
        have hwln := way_len hmem
        have hwin := way_in hok hmem
        refine w_draw [] [(0, 0), (1, 0), (2, 1), (3, 0), (4, 0), (5, 0), (6, 0), (7, 0), (8, 1), (9, 1), (10, 0), (11, 1), (12, 2), (13, 0), (14, 0)] Try_mo (drawOK_of (by kernel_rfl)) hs101 (fun w154 hs155 => ?_)
        refine d_any rfl want_none rfl (fun _ => (y_move (v := .slice _ _ _) rfl rfl)) ?_
        refine d_any rfl want_none rfl (fun _ => (y_fieldAddr (o := 3) (i := 3) Try.underlying63 rfl Try.sizeOf53 rfl rfl rfl)) ?_
        refine d_take rfl want_none rfl hs155 (fun _ hq => (y_load1 Try.isAgg53 hq.drop rfl rfl (show Ats _ _ _ _ [_] from Ats.part hb3 3 1))) ?_
        refine d_any rfl want_none rfl (fun _ => (y_u16int (by rw [Try.underlying53]; rfl) Try.underlying3 rfl rfl (by omega) (by omega))) ?_
        refine d_any rfl want_none rfl (fun _ => (y_move (v := .slice _ _ _) rfl rfl)) ?_
        refine d_any rfl want_none rfl (fun _ => (y_lenS Try.underlying64 rfl rfl)) ?_
        refine d_any rfl want_none rfl (fun _ => (y_rem rfl rfl rfl rfl (by omega) (by omega))) ?_
        refine d_any rfl want_none rfl (fun _ => (y_indexS Try.underlying64 Try.sizeOf37 rfl rfl rfl rfl (i := u) (by omega) hu2)) ?_
        refine d_take rfl want_none rfl hs155 (fun _ hq => (y_load1 Try.isAgg37 hq.drop rfl rfl hx)) ?_
        refine d_take rfl want_none rfl hs155 (fun _ hq => (y_loadN (vs := [_, _, _]) Try.isAgg26 Try.sizeOf26 hq.drop rfl rfl hb2)) ?_
        refine d_any rfl want_none rfl (fun _ => (y_fieldAddr (o := 4) (i := 4) Try.underlying63 rfl Try.sizeOf54 rfl rfl rfl)) ?_
        refine d_take rfl want_none rfl hs155 (fun _ hq => (y_load1 Try.isAgg54 hq.drop rfl rfl (show Ats _ _ _ _ [_] from Ats.part hb3 4 1))) ?_
        refine d_eff rfl ?_
        refine w_call want_none Try.call40 rfl rfl rfl rfl (c40 l p hmZ.app hok _ _ y hyl hysZ.app hyr hs155) ?_
        rintro _ w157 ⟨SB, aS, cS, rfl, hslS, hs158⟩
        replace hs158 := (show St _ _ (SB ++ (OB ++ (Z))) from hs158)
        refine w_nil ?_
        refine qn ⟨hs158.drop, ?_⟩
        refine d_any rfl want_none rfl (fun _ => (y_assign (v := .slice _ _ _) rfl rfl)) ?_
        refine d_any rfl want_none rfl (fun _ => (y_assign (v := .slice _ _ _) rfl rfl)) ?_
        refine d_nil ?_
        refine q_then (hK152 _ _ ?_)
        refine w_seq (fun K160 hK159 => ?_)
        refine w_region ?_
        refine w_pure want_none (y_assign (v := _) rfl rfl) rfl ?_
        refine w_nil ?_
        refine q_then (hK159 _ _ ?_)
        refine w_seq (fun K162 hK161 => ?_)
        refine w_seq (fun K164 hK163 => ?_)
        refine w_region ?_
        refine w_pure want_none (y_assign (v := _) rfl rfl) rfl ?_
        refine w_nil ?_
        refine q_then (hK163 _ _ ?_)
        refine w_block ?_
        refine w_loop [4, 18, 19, 20, 124, 125, 126, 127, 128, 129, 130, 131, 132, 133, 134, 135, 136, 137, 138, 139, 140, 141, 142, 143, 144, 145, 146, 147, 148, 149, 150, 151, 152, 153, 154, 155, 156, 157, 158] [18, 19] (fun kk vs0 w => ∃ (i : Nat), vs0 = [.int .i64 (someOf ((Ha.ways l 0)[u]'hu2) ((pickP l (g : Int) m).1.take i)), .int .i64 i] ∧ i ≤ (pickP l (g : Int) m).1.length ∧ kk = (pickP l (g : Int) m).1.length - i ∧ St w0 w (SB ++ (OB ++ Z))) ((pickP l (g : Int) m).1.length) ?_ ?_
        ·
         exact ⟨0, rfl, by omega, by omega, hs158⟩
        ·
         intro k vs μ w167 hI K166 hN165
         obtain ⟨i, rfl, hia, rfl, hs⟩ := hI
         refine w_seq (fun K169 hK168 => ?_)
         refine w_seq (fun K171 hK170 => ?_)
         refine w_region ?_
         refine w_pure want_none (y_move (v := .int _ _) rfl rfl) rfl ?_
         refine w_pure want_none (y_move (v := .slice _ _ _) rfl rfl) rfl ?_
         refine w_pure want_none (y_lenS Try.underlying37 rfl rfl) rfl ?_
         refine w_pure want_none (y_lss rfl rfl rfl rfl) rfl ?_
         refine w_nil ?_
         refine q_then (hK170 _ _ ?_)
         refine w_cond rfl rfl (fun h172 => ?_) (fun h172 => ?_)
         ·
          try simp only [Bool.not_eq_true', Bool.not_eq_false', decide_eq_true_eq, decide_eq_false_iff_not, Int.not_lt, Int.not_le] at h172
          refine w_skip ?_
          refine q_then (hK168 _ _ ?_)
          refine w_seq (fun K174 hK173 => ?_)
          refine w_block ?_
          refine w_seq (fun K176 hK175 => ?_)
          have hi2 : i < (pickP l (g : Int) m).1.length := by omega
          have hz := hPF.of _ (List.getElem_mem hi2)
          obtain ⟨q, hq⟩ : ∃ q : Nat, (pickP l (g : Int) m).1[i] = (q : Int) := ⟨(pickP l (g : Int) m).1[i].toNat, by omega⟩
          rw [hq, Int.toNat_natCast] at hz
          have hqn : q < l.bunches.length := by omega
          have hqh : q < ((Ha.ways l 0)[u]'hu2).length := by omega
          have hqs : q < (scTo l y l.bunches.length).length := by rw [sc_len]; exact hqn
          have hag := at_g hqh
          have hsc : (scTo l y l.bunches.length)[q] = scOf l y q := sc_at hqs
          have hz2 := hz.2.2 _ hmem (scOf l y q) (sc_in hok hqn)
          obtain ⟨c4, o4, he4, hy1⟩ := sl_ints hqZ hi2
          subst he4
          obtain ⟨c5, o5, he5, hh1⟩ := sl_ints hsx0 hqh
          subst he5
          obtain ⟨c6, o6, he6, hsk0⟩ := sl_ints hslS hqs
          subst he6
          have hsk1 := hsk0.top (F := OB ++ Z)
          have hsi := someOf_in hwin ((pickP l (g : Int) m).1.take i)
          have htl : ((pickP l (g : Int) m).1.take i).length ≤ 6 := by rw [List.length_take]; omega
          have hwq := hwin q
          refine w_draw [] [(0, 1), (1, 0), (2, 0), (3, 0), (4, 0), (5, 1), (6, 0), (7, 1), (8, 0), (9, 0), (10, 0), (11, 0), (12, 1), (13, 0), (14, 1), (15, 2), (16, 0)] Try_mo (drawOK_of (by kernel_rfl)) hs (fun w177 hs178 => ?_)
          refine d_take rfl want_none rfl hs178 (fun _ hq => (y_loadN (vs := [_, _, _]) Try.isAgg26 Try.sizeOf26 hq.drop.drop rfl rfl hb2)) ?_
          refine d_any rfl want_none rfl (fun _ => (y_move (v := .slice _ _ _) rfl rfl)) ?_
          refine d_any rfl want_none rfl (fun _ => (y_move (v := .slice _ _ _) rfl rfl)) ?_
          refine d_any rfl want_none rfl (fun _ => (y_move (v := .int _ _) rfl rfl)) ?_
          refine d_any rfl want_none rfl (fun _ => (y_indexS Try.underlying37 Try.sizeOf3 rfl rfl rfl rfl (i := i) rfl hi2)) ?_
          refine d_take rfl want_none rfl hs178 (fun _ hq => (y_load1 Try.isAgg3 hq.drop.drop rfl rfl hy1)) ?_
          refine d_any rfl want_none rfl (fun _ => (y_indexS Try.underlying37 Try.sizeOf3 rfl rfl rfl rfl (i := q) hq hqh)) ?_
          refine d_take rfl want_none rfl hs178 (fun _ hq => (y_load1 Try.isAgg3 hq.drop.drop rfl rfl hh1)) ?_
          refine d_any rfl want_none rfl (fun _ => (y_move (v := .slice _ _ _) rfl rfl)) ?_
          refine d_any rfl want_none rfl (fun _ => (y_move (v := .slice _ _ _) rfl rfl)) ?_
          refine d_any rfl want_none rfl (fun _ => (y_move (v := .int _ _) rfl rfl)) ?_
          refine d_any rfl want_none rfl (fun _ => (y_indexS Try.underlying37 Try.sizeOf3 rfl rfl rfl rfl (i := i) rfl hi2)) ?_
          refine d_take rfl want_none rfl hs178 (fun _ hq => (y_load1 Try.isAgg3 hq.drop.drop rfl rfl hy1)) ?_
          refine d_any rfl want_none rfl (fun _ => (y_indexS Try.underlying37 Try.sizeOf3 rfl rfl rfl rfl (i := q) hq hqs)) ?_
          refine d_take rfl want_none rfl hs178 (fun _ hq => (y_load1 Try.isAgg3 hq rfl rfl hsk1)) ?_
          refine d_eff rfl ?_
          refine w_call want_none Try.call41 rfl rfl rfl rfl ((c41 l p hmZ.app.app _ _ hs178).mono (fun v w2 h => by rw [← hag, hsc] at h; exact (show v = .int .i64 (ofG l.grades 0 (at_ ((Ha.ways l 0)[u]'hu2) q) (scOf l y q)) ∧ _ from h))) ?_
          rintro _ w180 ⟨rfl, hs181⟩
          refine w_nil ?_
          refine qn ⟨hs181, ?_⟩
          refine d_any rfl want_none rfl (fun _ => (y_assign (v := .int _ _) rfl rfl)) ?_
          refine d_nil ?_
          refine q_then (hK175 _ _ ?_)
          refine w_seq (fun K183 hK182 => ?_)
          refine w_seq (fun K185 hK184 => ?_)
          refine w_region ?_
          refine w_pure want_none (y_move (v := .int _ _) rfl rfl) rfl ?_
          refine w_pure want_none (y_move (v := .int _ _) rfl rfl) rfl ?_
          refine w_call want_none Try.call51 rfl rfl rfl rfl (c51 _ _ _ hs181) ?_
          rintro _ w187 ⟨rfl, hs188⟩
          refine w_pure want_none (y_not rfl rfl) rfl ?_
          refine w_nil ?_
          refine q_then (hK184 _ _ ?_)
          refine w_cond rfl rfl (fun h189 => ?_) (fun h189 => ?_)
          ·
           exfalso
           try simp only [Bool.not_eq_true', Bool.not_eq_false', decide_eq_true_eq, decide_eq_false_iff_not, Int.not_lt, Int.not_le] at h189
           omega
          ·
           try simp only [Bool.not_eq_true', Bool.not_eq_false', decide_eq_true_eq, decide_eq_false_iff_not, Int.not_lt, Int.not_le] at h189
           refine w_skip ?_
           refine q_then (hK182 _ _ ?_)
           refine w_region ?_
           refine w_pure want_none (y_move (v := .int _ _) rfl rfl) rfl ?_
           refine w_pure want_none (y_move (v := .slice _ _ _) rfl rfl) rfl ?_
           refine w_pure want_none (y_move (v := .slice _ _ _) rfl rfl) rfl ?_
           refine w_pure want_none (y_move (v := .int _ _) rfl rfl) rfl ?_
           refine w_pure want_none (y_indexS Try.underlying37 Try.sizeOf3 rfl rfl rfl rfl (i := i) rfl hi2) rfl ?_
           refine w_pure want_none (y_load1 Try.isAgg3 hs188.drop.drop rfl rfl hy1) rfl ?_
           refine w_pure want_none (y_indexS Try.underlying37 Try.sizeOf3 rfl rfl rfl rfl (i := q) hq hqh) rfl ?_
           refine w_pure want_none (y_load1 Try.isAgg3 hs188.drop.drop rfl rfl hh1) rfl ?_
           refine w_pure want_none (y_add rfl rfl rfl rfl (by omega) (by omega)) rfl ?_
           refine w_pure want_none (y_assign (v := .int _ _) rfl rfl) rfl ?_
           refine w_nil ?_
           refine q_blk_normal ?_
           refine q_then (hK173 _ _ ?_)
           refine w_region ?_
           refine w_pure want_none (y_move (v := .int _ _) rfl rfl) rfl ?_
           refine w_pure want_none (y_add rfl rfl rfl rfl (by omega) (by omega)) rfl ?_
           refine w_pure want_none (y_assign (v := .int _ _) rfl rfl) rfl ?_
           refine w_nil ?_
           refine q_then (hN165 _ _ (Nx.intro ((pickP l (g : Int) m).1.length - (i + 1)) (by omega) (by repeat (first | exact agree_mix | refine agree_upd rfl ?_ | refine agree_updL rfl ?_ _ | refine agree_mixin rfl ?_)) ?_))
           exact ⟨i + 1, iv2 (by rw [some_take hi2, hq, Int.toNat_natCast, hag]) rfl, by omega, rfl, hs188⟩
         ·
          try simp only [Bool.not_eq_true', Bool.not_eq_false', decide_eq_true_eq, decide_eq_false_iff_not, Int.not_lt, Int.not_le] at h172
          refine w_exit ?_
          refine q_then_exit ?_
          refine q_then_exit ?_
          refine q_blk_this ?_
          refine q_then (hK161 _ _ ?_)
          refine w_seq (fun K191 hK190 => ?_)
          have hin2 : i = (pickP l (g : Int) m).1.length := by omega
          subst hin2
          have hsm : m ≤ someOf ((Ha.ways l 0)[u]'hu2) ((pickP l (g : Int) m).1.take (pickP l (g : Int) m).1.length) := by rw [List.take_length]; exact hPF.sum _ hmem
          refine w_region ?_
          refine w_pure want_none (y_move (v := .int _ _) rfl rfl) rfl ?_
          refine w_pure want_none (y_move (v := .int _ _) rfl rfl) rfl ?_
          refine w_pure want_none (y_geq rfl rfl rfl rfl) rfl ?_
          refine w_pure want_none (y_move (v := .bool _) rfl rfl) rfl ?_
          refine w_split (fun h192 => ?_) (fun h192 => ?_)
          ·
           try simp only [Bool.not_eq_true', Bool.not_eq_false', decide_eq_true_eq, decide_eq_false_iff_not, Int.not_lt, Int.not_le] at h192
           refine w_call (want_yes rfl rfl rfl) Try.call20 rfl rfl rfl rfl (c20 hs) ?_
           rintro _ w194 ⟨rfl, hs195⟩
           refine w_pure want_none (y_pickT (v := .bool _) rfl rfl rfl rfl) rfl ?_
           refine w_pure want_none (y_assign (v := .bool _) rfl rfl) rfl ?_
           refine w_nil ?_
           refine q_then (hK190 _ _ ?_)
           refine w_ret ?_
           refine q_ret (l := [.tmp 4]) (vs := [_]) rfl ⟨⟨rfl, show _ = (.bool _ : Value) from rfl⟩, trivial⟩ ?_
           exact ⟨rfl, (St.cast hZ hs195.drop.drop).drop.drop.drop.tail.tail⟩
          ·
           exfalso
           try simp only [Bool.not_eq_true', Bool.not_eq_false', decide_eq_true_eq, decide_eq_false_iff_not, Int.not_lt, Int.not_le] at h192
           omega

end Go.Proofs
