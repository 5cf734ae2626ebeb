/- Own texts of this claim, joined. No conditions. -/
import Derived.Test.YtgndnnpadkoagaaHChainKnowna
import Derived.Test.YtgndnnpadkoagaaHChainKnownb
import Derived.Test.YtgndnnpadkoagaaHChainKnownc
import Derived.Test.YtgndnnpadkoagaaHChainKnownd
/- Walks of this seat, printed by gen.py over the engine: what each function returns, in whatever world. No conditions but those of each contract. -/
set_option linter.unusedVariables false
set_option linter.unusedSimpArgs false
set_option maxRecDepth 20000
namespace Go.Proofs
open Go.Rt Go.Rt.Ch
open Go.Rt.Ha (firstE firstE_step firstE_stop firstE_end failE nameE felt spanL upto span_mem listL fewest fewTo bit before fewStep drop_lt drop_get drop_next drop_done drop_notin set_take set_zero take_less)
attribute [local irreducible] WL WC Con Yd At Ats Sl Agree DW
theorem Try_M_fb3 (x0 : Int) (x1 : Int) (w : World) : (Instr.buildSlice 39 2 [(0, .int .i64 x0), (1, .int .i64 x1)].toArray).run Try.prog w = .ok (.slice (some ⟨w.heap.size, 0, none⟩) 2 2) (w.alloc (Go.Rt.blk 3 [.int .i64 x0, .int .i64 x1])) := by kernel_rfl
theorem Try_M_fb4 (x0 : Int) (x1 : Int) (x2 : Int) (x3 : Int) (w : World) : (Instr.buildSlice 39 4 [(0, .int .i64 x0), (1, .int .i64 x1), (2, .int .i64 x2), (3, .int .i64 x3)].toArray).run Try.prog w = .ok (.slice (some ⟨w.heap.size, 0, none⟩) 4 4) (w.alloc (Go.Rt.blk 3 [.int .i64 x0, .int .i64 x1, .int .i64 x2, .int .i64 x3])) := by kernel_rfl
theorem ask_perm (p a c e f g : Nat × Obj) (X M F : List (Nat × Obj)) : (p :: a :: c :: e :: f :: g :: (X ++ (M ++ F))).Perm (([a, c] ++ M) ++ (p :: e :: f :: g :: (X ++ F))) :=
  (perm_mid [p] [a, c] (e :: f :: g :: (X ++ (M ++ F)))).trans (List.Perm.append_left [a, c] (perm_mid (p :: e :: f :: g :: X) M F))
theorem mid_back4 {w0 w : World} {a c e f : Nat × Obj} {X M F : List (Nat × Obj)} (h : St w0 w (M ++ (a :: c :: e :: f :: (X ++ F)))) : St w0 w (X ++ (M ++ F)) := by
  have h1 := (h.perm (perm_mid M [a, c, e, f] (X ++ F))).tail.tail.tail.tail
  exact St.perm (L := M ++ (X ++ F)) h1 (perm_mid M X F)
theorem ask_cells {b7 b6 : Nat} {x x' y y' : Bool} (h1 : x = x') (h2 : y = y') : ([(b7, blk 4 [.bool x]), (b6, blk 4 [.bool y])] : List (Nat × Obj)) = [(b7, blk 4 [.bool x']), (b6, blk 4 [.bool y'])] := by subst h1 h2; rfl
theorem any_step {α : Type} {p : α → Bool} {l : List α} {i : Nat} (hi : i < l.length) : (l.take (i + 1)).any p = ((l.take i).any p || p l[i]) := by rw [List.take_succ_eq_append_getElem hi, List.any_append]; simp
theorem toldN_eq (n m : Bool) : toldN n m = if n = false then 1 else if m = false then 2 else 0 := by cases n <;> cases m <;> rfl
theorem rightP_e {b : Board} {a : Int} (h : ¬ enterE b (idxE a b.ctrs.length) = 0) : rightP b a = (0, enterE b (idxE a b.ctrs.length)) := by unfold rightP; rw [if_pos h]
theorem rightP_y {b : Board} {a : Int} (h : enterE b (idxE a b.ctrs.length) = 0) : rightP b a = (toldN (askM b a.toNat slips) (askN b a.toNat slips), 0) := by unfold rightP; rw [if_neg (by simp [h])]
theorem zeroP_e {b : Board} {a e : Int} (h : ¬ enterE b (idx2 a b.ctrs.length e b.hours.length) = 0) : zeroP b a e = (0, enterE b (idx2 a b.ctrs.length e b.hours.length)) := by unfold zeroP; rw [if_pos h]
theorem zeroP_y {b : Board} {a e : Int} (h : enterE b (idx2 a b.ctrs.length e b.hours.length) = 0) : zeroP b a e = (toldN (askN b a.toNat (zeroed e.toNat)) (askM b a.toNat (zeroed e.toNat)), 0) := by unfold zeroP; rw [if_neg (by simp [h])]
theorem idx2_ok {c n a m : Int} (h : idx2 c n a m = 0) : (0 ≤ c ∧ c < n) ∧ (0 ≤ a ∧ a < m) := by
  unfold idx2 at h
  by_cases h1 : idxE c n = 0
  · rw [if_neg (by simp [h1])] at h; exact ⟨idxE_ok h1, idxE_ok h⟩
  · rw [if_pos h1] at h; exact absurd h h1
theorem QIs.mid {w0 w : World} {P M Y Q X F : List (Nat × Obj)} {b : Board} {p : AtB} {bb mm : Nat} (hk : BK w0 F b p bb mm) {c : Nat} (hc : c < b.ctrs.length) {l : List Int} (hl : l ∈ truths b) {fk : FuncId} {f1 cp : Array Value} {q : Quest} (h : QIs w0 F (.func (.func fk) f1 cp) q) (hM : Memo w0 b mm M) (hs : St w0 w (P ++ (M ++ (Y ++ (Q ++ (X ++ F)))))) :
    Con Try.prog 99 [.pointer (some ⟨bb, 0, none⟩), .int .i64 (c : Int), ia (pad4 l), .agg #[.func (.func fk) f1 cp]] w fun v w' => ∃ M', v = .tuple #[.bool (notF (ctrOf b c) l q b.hours.length), .bool (metF (ctrOf b c) l q b.hours.length)] ∧ Memo w0 b mm M' ∧ St w0 w' (P ++ (M' ++ (Y ++ (Q ++ (X ++ F))))) := by
  have e : ∀ M : List (Nat × Obj), P ++ (M ++ (Y ++ (Q ++ (X ++ F)))) = P ++ (M ++ ((Y ++ (Q ++ X)) ++ F)) := fun M => by simp only [List.append_assoc]
  rw [e] at hs
  have h1 := c99 b p bb mm (hk.app (B := Y ++ (Q ++ X))) c hc (pad4 l) (pad_len hk.ok hl) (fun i hi => by rw [ld_pad]; exact (truth_in hl).2 i hi) fk f1 cp q h.app hM hs
  rw [not_pad, met_pad] at h1
  exact h1.mono fun _ _ ⟨M', h2, h3, h4⟩ => ⟨M', h2, h3, by rw [e]; exact h4⟩
theorem c72 {w0 w : World} {X M F : List (Nat × Obj)} (b : Board) (p : AtB) (bb mm : Nat) (hk : BK w0 F b p bb mm) (c : Nat) (hc : c < b.ctrs.length) (fk : FuncId) (f1 cp : Array Value) (q : Quest) (hq : QIs w0 F (.func (.func fk) f1 cp) q) (hM : Memo w0 b mm M) (hs : St w0 w (X ++ (M ++ F))) :
  Con Try.prog 72 [.pointer (some ⟨bb, 0, none⟩), .int .i64 (c : Int), .agg #[.func (.func fk) f1 cp]] w fun v w' => v = .tuple #[.bool (askN b c q), .bool (askM b c q)] ∧ ∃ M', Memo w0 b mm M' ∧ St w0 w' (X ++ (M' ++ F)) := by
  refine con_of_wcM (n := 32) Try.func72 rfl rfl (Nat.le_of_ble_eq_true rfl) ?_
  refine w_seq (fun K2 hK1 => ?_)
  refine w_region ?_
  refine w_box (v := .pointer _) (cs := [_]) want_none rfl rfl rfl hs (fun b3 w4 hs5 => ?_)
  refine w_box (v := .int _ _) (cs := [_]) want_none rfl rfl rfl hs5 (fun b6 w7 hs8 => ?_)
  refine w_box (v := .agg #[.func _ _ _]) (cs := [_]) want_none rfl rfl rfl hs8 (fun b9 w10 hs11 => ?_)
  refine w_alloc (cs := [_]) want_none Try.zeroValue4 rfl hs11 (fun b12 w13 hs14 => ?_)
  refine w_alloc (cs := [_]) want_none Try.zeroValue4 rfl hs14 (fun b15 w16 hs17 => ?_)
  refine w_nil ?_
  refine q_then (hK1 _ _ ?_)
  refine w_seq (fun K19 hK18 => ?_)
  refine w_seq (fun K21 hK20 => ?_)
  refine w_region ?_
  refine w_pure want_none (y_load1 Try.isAgg95 hs17 rfl rfl (ats_own (i := 4) (vs := [_]) rfl rfl)) rfl ?_
  refine w_call want_none Try.call80 rfl rfl rfl rfl (c80 _ hs17) ?_
  rintro _ w23 ⟨bp, rfl, hs24⟩
  refine w_nil ?_
  refine q_then (hK20 _ _ ?_)
  refine w_block ?_
  refine w_rangeC ([_, _] ++ M) (fun i Bx => ∃ B M, Bx = B ++ M ∧ Memo w0 b mm M ∧ B = [(b15, blk 4 [.bool (((truths b).take (i)).any fun l => metF (ctrOf b c) l q b.hours.length)]), (b12, blk 4 [.bool (((truths b).take (i)).any fun l => notF (ctrOf b c) l q b.hours.length)])]) (fun c Bx => ∃ B M, Bx = B ++ M ∧ Memo w0 b mm M ∧ False) rfl rfl rfl Try.call106 (truths_iter b p bb mm hk.app.cons.cons.cons.cons bp (ats_own (i := 0) (vs := [_]) rfl rfl)) (clsM_range (fun i B => B = [(b15, blk 4 [.bool (((truths b).take (i)).any fun l => metF (ctrOf b c) l q b.hours.length)]), (b12, blk 4 [.bool (((truths b).take (i)).any fun l => notF (ctrOf b c) l q b.hours.length)])]) (fun c B => False) (fun i Bx => Iff.rfl) (fun c Bx => Iff.rfl)) hs24 (ask_perm _ _ _ _ _ _ _ _ _) ⟨_, M, rfl, hM, rfl⟩ ?_ ?_ ?_
  ·
   intro lp i hi Bx Xr Xr2 w26 hJ hs K hK25
   obtain ⟨BB, M3, rfl, hM3, rfl⟩ := hJ
   have hi2 : i < (truths b).length := by simpa using hi
   rw [List.getElem_map, List.getElem_map]
   have htm := List.getElem_mem hi2
   have hpl := pad_len hk.ok htm
   obtain ⟨h, hh⟩ : ∃ h, h = pad4 (truths b)[i] := ⟨_, rfl⟩
   rw [← hh] at hpl ⊢
   have hx3 : Ats w0 ((bp, blk 95 [.pointer (some ⟨bb, 0, none⟩)]) :: (b9, blk 112 [.func (.func fk) f1 cp]) :: (b6, blk 3 [.int .i64 (c : Int)]) :: (b3, blk 95 [.pointer (some ⟨bb, 0, none⟩)]) :: (X ++ F)) b3 0 [.pointer (some ⟨bb, 0, none⟩)] := ats_own (i := 3) rfl rfl
   have hx4 : Ats w0 ((bp, blk 95 [.pointer (some ⟨bb, 0, none⟩)]) :: (b9, blk 112 [.func (.func fk) f1 cp]) :: (b6, blk 3 [.int .i64 (c : Int)]) :: (b3, blk 95 [.pointer (some ⟨bb, 0, none⟩)]) :: (X ++ F)) b6 0 [.int .i64 (c : Int)] := ats_own (i := 2) rfl rfl
   have hx5 : Ats w0 ((bp, blk 95 [.pointer (some ⟨bb, 0, none⟩)]) :: (b9, blk 112 [.func (.func fk) f1 cp]) :: (b6, blk 3 [.int .i64 (c : Int)]) :: (b3, blk 95 [.pointer (some ⟨bb, 0, none⟩)]) :: (X ++ F)) b9 0 [.func (.func fk) f1 cp] := ats_own (i := 1) rfl rfl
   replace hs := (show St _ _ (_ :: _ :: (M3 ++ (Xr ++ ((bp, blk 95 [.pointer (some ⟨bb, 0, none⟩)]) :: (b9, blk 112 [.func (.func fk) f1 cp]) :: (b6, blk 3 [.int .i64 (c : Int)]) :: (b3, blk 95 [.pointer (some ⟨bb, 0, none⟩)]) :: (X ++ F))))) from hs)
   refine w_region ?_
   refine w_alloc (cs := iv [0, 0, 0, 0]) want_none Try.zeroValue100 rfl hs (fun b27 w28 hs29 => ?_)
   refine w_storeI (i := 0) (l := _) want_none Try.sizeOf100 (by first | omega | rfl | (simp only [hpl, List.length_map, List.length_set, List.length_append, List.length_take, List.length_drop, List.length_replicate, List.length_cons, List.length_nil] <;> omega)) rfl rfl rfl rfl rfl hs29 rfl (by first | omega | rfl | (simp only [hpl, List.length_map, List.length_set, List.length_append, List.length_take, List.length_drop, List.length_replicate, List.length_cons, List.length_nil] <;> omega)) (fun w30 hs31 => ?_)
   refine w_nil ?_
   refine q_then (hK25 _ _ (_ :: _ :: _ :: M3) hs31 (fun w32 hs33 => ?_))
   replace hs33 := (show St _ _ (_ :: _ :: _ :: M3 ++ (Xr2 ++ (_ :: _ :: _ :: _ :: X ++ (F)))) from hs33)
   refine w_block ?_
   refine w_seq (fun K35 hK34 => ?_)
   refine w_region ?_
   refine w_pure want_none (y_load1 Try.isAgg95 hs33.tail.tail.tail.drop.drop rfl rfl hx3) rfl ?_
   refine w_pure want_none (y_load1 Try.isAgg3 hs33.tail.tail.tail.drop.drop rfl rfl hx4) rfl ?_
   refine w_pure want_none (y_loadI (i := 0) Try.isAgg100 Try.sizeOf100 (by first | omega | rfl | (simp only [hpl, List.length_map, List.length_set, List.length_append, List.length_take, List.length_drop, List.length_replicate, List.length_cons, List.length_nil] <;> omega)) hs33 rfl rfl rfl) rfl ?_
   refine w_pure want_none (y_loadN (vs := [_]) Try.isAgg112 Try.sizeOf112 hs33.tail.tail.tail.drop.drop rfl rfl hx5) rfl ?_
   refine w_call want_none Try.call99 rfl rfl rfl rfl ((show Con _ _ _ _ _ from by rw [hh]; exact QIs.mid (P := [_, _, _]) (M := M3) (Y := Xr2) (Q := [_, _, _, _]) (X := X) hk hc htm hq hM3 hs33)) ?_
   rintro _ w37 ⟨M4, rfl, hM4, hs38⟩
   replace hs38 := (show St _ _ (_ :: _ :: _ :: M4 ++ (Xr2 ++ (_ :: _ :: _ :: _ :: X ++ (F)))) from hs38)
   refine w_pure want_none (y_move (v := .tuple _) rfl rfl) rfl ?_
   refine w_pure want_none (y_extract (v := .bool _) rfl rfl rfl) rfl ?_
   refine w_pure want_none (y_extract (v := .bool _) rfl rfl rfl) rfl ?_
   refine w_pure want_none (y_assign (v := .bool _) rfl rfl) rfl ?_
   refine w_pure want_none (y_assign (v := .bool _) rfl rfl) rfl ?_
   refine w_nil ?_
   refine q_then (hK34 _ _ ?_)
   refine w_seq (fun K40 hK39 => ?_)
   refine w_region ?_
   refine w_pure want_none (y_load1 Try.isAgg4 hs38 rfl rfl (ats_own (i := 2) (vs := [_]) rfl rfl)) rfl ?_
   refine w_pure want_none (y_move (v := .bool _) rfl rfl) rfl ?_
   refine w_split (fun h41 => ?_) (fun h41 => ?_)
   ·
    try simp only [Bool.not_eq_true', Bool.not_eq_false', decide_eq_true_eq, decide_eq_false_iff_not, Int.not_lt, Int.not_le] at h41
    refine w_skipop rfl rfl rfl ?_
    refine w_pure want_none (y_pickT (v := _) rfl rfl rfl rfl) rfl ?_
    refine w_store (i := 2) (v := .bool _) (vs := [_]) want_none Try.sizeOf4 rfl rfl rfl rfl rfl (by simp [Value.oneCell']) hs38 rfl (Nat.le_of_ble_eq_true rfl) (fun w42 hs43 => ?_)
    refine w_nil ?_
    refine q_then (hK39 _ _ ?_)
    refine w_region ?_
    refine w_pure want_none (y_load1 Try.isAgg4 hs43 rfl rfl (ats_own (i := 1) (vs := [_]) rfl rfl)) rfl ?_
    refine w_pure want_none (y_move (v := .bool _) rfl rfl) rfl ?_
    refine w_split (fun h44 => ?_) (fun h44 => ?_)
    ·
     try simp only [Bool.not_eq_true', Bool.not_eq_false', decide_eq_true_eq, decide_eq_false_iff_not, Int.not_lt, Int.not_le] at h44
     refine w_skipop rfl rfl rfl ?_
     refine w_pure want_none (y_pickT (v := _) rfl rfl rfl rfl) rfl ?_
     refine w_store (i := 1) (v := .bool _) (vs := [_]) want_none Try.sizeOf4 rfl rfl rfl rfl rfl (by simp [Value.oneCell']) hs43 rfl (Nat.le_of_ble_eq_true rfl) (fun w45 hs46 => ?_)
     refine w_nil ?_
     refine q_blk_normal ?_
     refine rd_normal (_ :: _ :: M4) hs46.tail ?_
     exact ⟨_, M4, rfl, hM4, ask_cells (by rw [any_step hi2]; simp [*]) (by rw [any_step hi2]; simp [*])⟩
    ·
     try simp only [Bool.not_eq_true', Bool.not_eq_false', decide_eq_true_eq, decide_eq_false_iff_not, Int.not_lt, Int.not_le] at h44
     refine w_pure (want_yes rfl rfl rfl) (y_move (v := .bool _) rfl rfl) rfl ?_
     refine w_pure want_none (y_pickF (v := .bool _) rfl rfl rfl rfl) rfl ?_
     refine w_store (i := 1) (v := .bool _) (vs := [_]) want_none Try.sizeOf4 rfl rfl rfl rfl rfl (by simp [Value.oneCell']) hs43 rfl (Nat.le_of_ble_eq_true rfl) (fun w47 hs48 => ?_)
     refine w_nil ?_
     refine q_blk_normal ?_
     refine rd_normal (_ :: _ :: M4) hs48.tail ?_
     exact ⟨_, M4, rfl, hM4, ask_cells (by rw [any_step hi2]; simp [*]) (by rw [any_step hi2]; simp [*])⟩
   ·
    try simp only [Bool.not_eq_true', Bool.not_eq_false', decide_eq_true_eq, decide_eq_false_iff_not, Int.not_lt, Int.not_le] at h41
    refine w_pure (want_yes rfl rfl rfl) (y_move (v := .bool _) rfl rfl) rfl ?_
    refine w_pure want_none (y_pickF (v := .bool _) rfl rfl rfl rfl) rfl ?_
    refine w_store (i := 2) (v := .bool _) (vs := [_]) want_none Try.sizeOf4 rfl rfl rfl rfl rfl (by simp [Value.oneCell']) hs38 rfl (Nat.le_of_ble_eq_true rfl) (fun w49 hs50 => ?_)
    refine w_nil ?_
    refine q_then (hK39 _ _ ?_)
    refine w_region ?_
    refine w_pure want_none (y_load1 Try.isAgg4 hs50 rfl rfl (ats_own (i := 1) (vs := [_]) rfl rfl)) rfl ?_
    refine w_pure want_none (y_move (v := .bool _) rfl rfl) rfl ?_
    refine w_split (fun h51 => ?_) (fun h51 => ?_)
    ·
     try simp only [Bool.not_eq_true', Bool.not_eq_false', decide_eq_true_eq, decide_eq_false_iff_not, Int.not_lt, Int.not_le] at h51
     refine w_skipop rfl rfl rfl ?_
     refine w_pure want_none (y_pickT (v := _) rfl rfl rfl rfl) rfl ?_
     refine w_store (i := 1) (v := .bool _) (vs := [_]) want_none Try.sizeOf4 rfl rfl rfl rfl rfl (by simp [Value.oneCell']) hs50 rfl (Nat.le_of_ble_eq_true rfl) (fun w52 hs53 => ?_)
     refine w_nil ?_
     refine q_blk_normal ?_
     refine rd_normal (_ :: _ :: M4) hs53.tail ?_
     exact ⟨_, M4, rfl, hM4, ask_cells (by rw [any_step hi2]; simp [*]) (by rw [any_step hi2]; simp [*])⟩
    ·
     try simp only [Bool.not_eq_true', Bool.not_eq_false', decide_eq_true_eq, decide_eq_false_iff_not, Int.not_lt, Int.not_le] at h51
     refine w_pure (want_yes rfl rfl rfl) (y_move (v := .bool _) rfl rfl) rfl ?_
     refine w_pure want_none (y_pickF (v := .bool _) rfl rfl rfl rfl) rfl ?_
     refine w_store (i := 1) (v := .bool _) (vs := [_]) want_none Try.sizeOf4 rfl rfl rfl rfl rfl (by simp [Value.oneCell']) hs50 rfl (Nat.le_of_ble_eq_true rfl) (fun w54 hs55 => ?_)
     refine w_nil ?_
     refine q_blk_normal ?_
     refine rd_normal (_ :: _ :: M4) hs55.tail ?_
     exact ⟨_, M4, rfl, hM4, ask_cells (by rw [any_step hi2]; simp [*]) (by rw [any_step hi2]; simp [*])⟩
  ·
   intro bd Bx w56 hJ hs
   obtain ⟨BB, M3, rfl, hM3, rfl⟩ := hJ
   rw [List.length_map, List.length_map, List.take_length] at hs
   replace hs := (show St _ _ (_ :: _ :: _ :: (M3 ++ ((bp, blk 95 [.pointer (some ⟨bb, 0, none⟩)]) :: (b9, blk 112 [.func (.func fk) f1 cp]) :: (b6, blk 3 [.int .i64 (c : Int)]) :: (b3, blk 95 [.pointer (some ⟨bb, 0, none⟩)]) :: (X ++ F)))) from hs)
   refine q_blk_normal ?_
   refine q_then (hK18 _ _ ?_)
   refine w_seq (fun K58 hK57 => ?_)
   refine w_draw [3] [(0, 1), (1, 1), (2, 2), (3, 3)] Try_mo (drawOK_of (by kernel_rfl)) hs (fun w59 hs60 => ?_)
   refine d_take rfl want_none rfl hs60 (fun _ hq => (y_load1 Try.isAgg4 hq rfl rfl (ats_own (i := 2) (vs := [_]) rfl rfl))) ?_
   refine d_take rfl want_none rfl hs60 (fun _ hq => (y_load1 Try.isAgg4 hq rfl rfl (ats_own (i := 1) (vs := [_]) rfl rfl))) ?_
   refine d_eff rfl ?_
   refine w_store (i := 2) (v := .bool _) (vs := [_]) want_none Try.sizeOf4 rfl rfl rfl rfl rfl (by simp [Value.oneCell']) hs60 rfl (Nat.le_of_ble_eq_true rfl) (fun w61 hs62 => ?_)
   refine w_nil ?_
   refine qn ⟨hs62, ?_⟩
   refine d_late rfl ?_
   refine w_store (i := 1) (v := .bool _) (vs := [_]) want_none Try.sizeOf4 rfl rfl rfl rfl rfl (by simp [Value.oneCell']) hs62 rfl (Nat.le_of_ble_eq_true rfl) (fun w63 hs64 => ?_)
   refine w_nil ?_
   refine qn ?_
   refine d_nil ?_
   refine q_then (hK57 _ _ ?_)
   refine w_ret ?_
   refine q_retM (i := 0) (l := [.cell 6 4, .cell 7 4]) (vs := [_, _]) hs64 rfl rfl (fun w65 hs66 => ⟨⟨⟨rfl, _, rfl, run_loadVar1 Try.isAgg4 hs66 (ats_own (i := 2) (vs := [_]) rfl rfl)⟩, ⟨rfl, _, rfl, run_loadVar1 Try.isAgg4 hs66 (ats_own (i := 1) (vs := [_]) rfl rfl)⟩, trivial⟩, ?_⟩)
   exact ⟨rfl, M3, hM3, mid_back4 hs66.tail.tail.tail⟩
  ·
   intro _ _ _ _ hJ
   obtain ⟨_, _, _, _, h⟩ := hJ
   exact h.elim

theorem c74 {w0 w : World} {F : List (Nat × Obj)} (n m : Bool) (hs : St w0 w F) :
  Con Try.prog 74 [.bool n, .bool m] w fun v w' => v = .int .i64 (toldN n m) ∧ St w0 w' F := by
  refine con_of_wc (n := 11) Try.func74 rfl rfl (Nat.le_of_ble_eq_true rfl) ?_
  refine w_seq (fun K2 hK1 => ?_)
  refine w_region ?_
  refine w_pure want_none (y_assign (v := _) rfl rfl) rfl ?_
  refine w_nil ?_
  refine q_then (hK1 _ _ ?_)
  refine w_seq (fun K4 hK3 => ?_)
  refine w_block ?_
  refine w_seq (fun K6 hK5 => ?_)
  refine w_region ?_
  refine w_pure want_none (y_move (v := .bool _) rfl rfl) rfl ?_
  refine w_pure want_none (y_not rfl rfl) rfl ?_
  refine w_pure want_none (y_assign (v := .bool _) rfl rfl) rfl ?_
  refine w_nil ?_
  refine q_then (hK5 _ _ ?_)
  refine w_cond rfl rfl (fun h7 => ?_) (fun h7 => ?_)
  ·
   try simp only [Bool.not_eq_true', Bool.not_eq_false', decide_eq_true_eq, decide_eq_false_iff_not, Int.not_lt, Int.not_le] at h7
   refine w_seq (fun K9 hK8 => ?_)
   refine w_region ?_
   refine w_pure want_none (y_assign (v := _) rfl rfl) rfl ?_
   refine w_nil ?_
   refine q_then (hK8 _ _ ?_)
   refine w_ret ?_
   refine q_blk_ret ?_
   refine q_then_ret ?_
   refine q_ret (l := [.tmp 4]) (vs := [_]) rfl ⟨⟨rfl, show _ = (.int _ _ : Value) from rfl⟩, trivial⟩ ?_
   exact ⟨congrArg (Value.int .i64) (by rw [toldN_eq]; simp [*]), hs⟩
  ·
   try simp only [Bool.not_eq_true', Bool.not_eq_false', decide_eq_true_eq, decide_eq_false_iff_not, Int.not_lt, Int.not_le] at h7
   refine w_seq (fun K11 hK10 => ?_)
   refine w_region ?_
   refine w_pure want_none (y_move (v := .bool _) rfl rfl) rfl ?_
   refine w_pure want_none (y_not rfl rfl) rfl ?_
   refine w_pure want_none (y_assign (v := .bool _) rfl rfl) rfl ?_
   refine w_nil ?_
   refine q_then (hK10 _ _ ?_)
   refine w_cond rfl rfl (fun h12 => ?_) (fun h12 => ?_)
   ·
    try simp only [Bool.not_eq_true', Bool.not_eq_false', decide_eq_true_eq, decide_eq_false_iff_not, Int.not_lt, Int.not_le] at h12
    refine w_seq (fun K14 hK13 => ?_)
    refine w_region ?_
    refine w_pure want_none (y_assign (v := _) rfl rfl) rfl ?_
    refine w_nil ?_
    refine q_then (hK13 _ _ ?_)
    refine w_ret ?_
    refine q_blk_ret ?_
    refine q_then_ret ?_
    refine q_ret (l := [.tmp 4]) (vs := [_]) rfl ⟨⟨rfl, show _ = (.int _ _ : Value) from rfl⟩, trivial⟩ ?_
    exact ⟨congrArg (Value.int .i64) (by rw [toldN_eq]; simp [*]), hs⟩
   ·
    try simp only [Bool.not_eq_true', Bool.not_eq_false', decide_eq_true_eq, decide_eq_false_iff_not, Int.not_lt, Int.not_le] at h12
    refine w_skip ?_
    refine q_blk_normal ?_
    refine q_then (hK3 _ _ ?_)
    refine w_seq (fun K16 hK15 => ?_)
    refine w_region ?_
    refine w_pure want_none (y_assign (v := _) rfl rfl) rfl ?_
    refine w_nil ?_
    refine q_then (hK15 _ _ ?_)
    refine w_ret ?_
    refine q_ret (l := [.tmp 4]) (vs := [_]) rfl ⟨⟨rfl, show _ = (.int _ _ : Value) from rfl⟩, trivial⟩ ?_
    exact ⟨congrArg (Value.int .i64) (by rw [toldN_eq]; simp [*]), hs⟩

theorem c23 {w0 w : World} {F : List (Nat × Obj)} (b : Board) (p : AtB) (hm : BIn w0 F b p) (a : Int) (hs : St w0 w F) :
  Con Try.prog 23 [.agg (b.cells p).toArray, .int .i64 a] w fun v w' => v = .tuple #[.int .i64 (rightP b a).1, .int .i64 (rightP b a).2] ∧ St w0 w' F := by
  refine con_of_wc (n := 33) Try.func23 rfl rfl (Nat.le_of_ble_eq_true rfl) ?_
  have hlh0 := hm.lh
  have hlc0 := hm.lc
  refine w_seq (fun K2 hK1 => ?_)
  refine w_region ?_
  refine w_box (v := .agg #[.int _ _, .slice _ _ _, .slice _ _ _]) (cs := [_, _, _]) want_none rfl rfl rfl hs (fun b3 w4 hs5 => ?_)
  refine w_pure want_none (y_assign (v := _) rfl rfl) rfl ?_
  refine w_pure want_none (y_assign (v := _) rfl rfl) rfl ?_
  refine w_nil ?_
  refine q_then (hK1 _ _ ?_)
  refine w_seq (fun K7 hK6 => ?_)
  refine w_region ?_
  refine w_pure want_none (y_loadN (vs := [_, _, _]) Try.isAgg25 Try.sizeOf25 hs5 rfl rfl (ats_own (i := 0) (vs := [_, _, _]) rfl rfl)) rfl ?_
  refine w_pure want_none (y_move (v := .int _ _) rfl rfl) rfl ?_
  refine w_pure want_none (y_fieldAddr (o := 2) (i := 2) Try.underlying25 rfl Try.sizeOf23 rfl rfl rfl) rfl ?_
  refine w_pure want_none (y_load1 Try.isAgg23 hs5 rfl rfl (ats_own (i := 0) (vs := [_]) rfl rfl)) rfl ?_
  refine w_pure want_none (y_lenS Try.underlying23 rfl rfl) rfl ?_
  refine w_bslice (ps := [(0, _), (1, _)]) (pv := [(0, .int _ _), (1, .int _ _)]) (cs := [_, _]) want_none rfl rfl (fun w => Try_M_fb3 _ _ w) hs5 (fun b8 w9 hs10 => ?_)
  refine w_call want_none Try.call63 rfl rfl rfl rfl ((by have h := c63 b _ hm.cons.cons 0 (some ⟨b8, 0, none⟩) 2 [a, (b.ctrs.length : Int)] (by simp) (by simp) (hns_c a) (sl_own (i := 0) (rows := [[_], [_]]) rfl (by simp) rfl) hs10; rw [pairs_two] at h; exact h)) ?_
  rintro _ w12 (⟨hee, rfl, hs13⟩ | ⟨hee, bb, mm, M, rfl, hM, hs13⟩)
  ·
   refine w_pure want_none (y_move (v := .tuple _) rfl rfl) rfl ?_
   refine w_pure want_none (y_extract (v := .pointer _) rfl rfl rfl) rfl ?_
   refine w_pure want_none (y_extract (v := .int _ _) rfl rfl rfl) rfl ?_
   refine w_pure want_none (y_assign (v := .pointer _) rfl rfl) rfl ?_
   refine w_pure want_none (y_assign (v := .int _ _) rfl rfl) rfl ?_
   refine w_nil ?_
   refine q_then (hK6 _ _ ?_)
   refine w_seq (fun K15 hK14 => ?_)
   refine w_seq (fun K17 hK16 => ?_)
   refine w_region ?_
   refine w_pure want_none (y_move (v := .int _ _) rfl rfl) rfl ?_
   refine w_pure want_none (y_neq rfl rfl rfl rfl) rfl ?_
   refine w_nil ?_
   refine q_then (hK16 _ _ ?_)
   refine w_cond rfl rfl (fun h18 => ?_) (fun h18 => ?_)
   ·
    try simp only [Bool.not_eq_true', Bool.not_eq_false', decide_eq_true_eq, decide_eq_false_iff_not, Int.not_lt, Int.not_le] at h18
    refine w_seq (fun K20 hK19 => ?_)
    refine w_region ?_
    refine w_pure want_none (y_move (v := .int _ _) rfl rfl) rfl ?_
    refine w_pure want_none (y_assign (v := _) rfl rfl) rfl ?_
    refine w_pure want_none (y_assign (v := .int _ _) rfl rfl) rfl ?_
    refine w_nil ?_
    refine q_then (hK19 _ _ ?_)
    refine w_ret ?_
    refine q_then_ret ?_
    refine q_ret (l := [.tmp 4, .tmp 5]) (vs := [_, _]) rfl ⟨⟨rfl, show _ = (.int _ _ : Value) from rfl⟩, ⟨rfl, show _ = (.int _ _ : Value) from rfl⟩, trivial⟩ ?_
    exact ⟨by rw [rightP_e hee]; rfl, hs13.tail.tail⟩
   ·
    exfalso
    try simp only [Bool.not_eq_true', Bool.not_eq_false', decide_eq_true_eq, decide_eq_false_iff_not, Int.not_lt, Int.not_le] at h18
    first | exact hee h18 | exact h18 hee
  ·
   replace hs13 := (show St _ _ (_ :: M ++ (_ :: _ :: F)) from hs13)
   have hs21 := (show St _ _ ([_] ++ (M ++ _)) from hs13).perm (perm_mid [_] M _)
   replace hs21 := (show St _ _ (M ++ (_ :: _ :: _ :: F)) from hs21)
   have hew := enterE_ok hee
   have hok := check_ok hew.1
   refine w_pure want_none (y_move (v := .tuple _) rfl rfl) rfl ?_
   refine w_pure want_none (y_extract (v := .pointer _) rfl rfl rfl) rfl ?_
   refine w_pure want_none (y_extract (v := .int _ _) rfl rfl rfl) rfl ?_
   refine w_pure want_none (y_assign (v := .pointer _) rfl rfl) rfl ?_
   refine w_pure want_none (y_assign (v := .int _ _) rfl rfl) rfl ?_
   refine w_nil ?_
   refine q_then (hK6 _ _ ?_)
   refine w_seq (fun K23 hK22 => ?_)
   refine w_seq (fun K25 hK24 => ?_)
   refine w_region ?_
   refine w_pure want_none (y_move (v := .int _ _) rfl rfl) rfl ?_
   refine w_pure want_none (y_neq rfl rfl rfl rfl) rfl ?_
   refine w_nil ?_
   refine q_then (hK24 _ _ ?_)
   refine w_condF rfl rfl ?_
   refine w_skip ?_
   refine q_then (hK22 _ _ ?_)
   refine w_seq (fun K27 hK26 => ?_)
   have hia := idxE_ok hew.2.1
   have hlc := hok.lc
   refine w_region ?_
   refine w_pure want_none (y_move (v := .pointer _) rfl rfl) rfl ?_
   refine w_pure want_none (y_move (v := .int _ _) rfl rfl) rfl ?_
   refine w_call want_none Try.call73 rfl rfl rfl rfl (c73 hs21) ?_
   rintro _ w29 ⟨rfl, hs30⟩
   refine w_call want_none Try.call72 rfl rfl rfl rfl ((by have h := c72 (X := []) (M := M) (F := (bb, blk 129 [.int .i64 b.holds, .slice p.ah b.hours.length p.ch, .slice p.ac b.ctrs.length p.cc, .map (some mm)]) :: _ :: _ :: F) b p bb mm ⟨hm.cons.cons.cons, ats_own (i := 0) rfl rfl, hok⟩ a.toNat (by omega) 100 #[] #[] slips qis_slips hM hs30; rw [Int.toNat_of_nonneg (by omega)] at h; exact h)) ?_
   rintro _ w32 ⟨rfl, M2, hM2, hs33⟩
   replace hs33 := (show St _ _ (M2 ++ (_ :: _ :: _ :: F)) from hs33)
   have hs34 := hs33.drop
   refine w_pure want_none (y_move (v := .tuple _) rfl rfl) rfl ?_
   refine w_pure want_none (y_extract (v := .bool _) rfl rfl rfl) rfl ?_
   refine w_pure want_none (y_extract (v := .bool _) rfl rfl rfl) rfl ?_
   refine w_pure want_none (y_assign (v := .bool _) rfl rfl) rfl ?_
   refine w_pure want_none (y_assign (v := .bool _) rfl rfl) rfl ?_
   refine w_nil ?_
   refine q_then (hK26 _ _ ?_)
   refine w_seq (fun K36 hK35 => ?_)
   refine w_region ?_
   refine w_pure want_none (y_move (v := .bool _) rfl rfl) rfl ?_
   refine w_pure want_none (y_move (v := .bool _) rfl rfl) rfl ?_
   refine w_call want_none Try.call74 rfl rfl rfl rfl (c74 _ _ hs34) ?_
   rintro _ w38 ⟨rfl, hs39⟩
   refine w_pure want_none (y_assign (v := .int _ _) rfl rfl) rfl ?_
   refine w_pure want_none (y_assign (v := _) rfl rfl) rfl ?_
   refine w_nil ?_
   refine q_then (hK35 _ _ ?_)
   refine w_ret ?_
   refine q_ret (l := [.tmp 4, .tmp 5]) (vs := [_, _]) rfl ⟨⟨rfl, show _ = (.int _ _ : Value) from rfl⟩, ⟨rfl, show _ = (.int _ _ : Value) from rfl⟩, trivial⟩ ?_
   exact ⟨by rw [rightP_y hee]; rfl, hs39.tail.tail.tail⟩

theorem c25 {w0 w : World} {F : List (Nat × Obj)} (b : Board) (p : AtB) (hm : BIn w0 F b p) (a e : Int) (hs : St w0 w F) :
  Con Try.prog 25 [.agg (b.cells p).toArray, .int .i64 a, .int .i64 e] w fun v w' => v = .tuple #[.int .i64 (zeroP b a e).1, .int .i64 (zeroP b a e).2] ∧ St w0 w' F := by
  refine con_of_wc (n := 35) Try.func25 rfl rfl (Nat.le_of_ble_eq_true rfl) ?_
  have hlh0 := hm.lh
  have hlc0 := hm.lc
  refine w_seq (fun K2 hK1 => ?_)
  refine w_region ?_
  refine w_box (v := .agg #[.int _ _, .slice _ _ _, .slice _ _ _]) (cs := [_, _, _]) want_none rfl rfl rfl hs (fun b3 w4 hs5 => ?_)
  refine w_pure want_none (y_assign (v := _) rfl rfl) rfl ?_
  refine w_pure want_none (y_assign (v := _) rfl rfl) rfl ?_
  refine w_nil ?_
  refine q_then (hK1 _ _ ?_)
  refine w_seq (fun K7 hK6 => ?_)
  refine w_region ?_
  refine w_pure want_none (y_loadN (vs := [_, _, _]) Try.isAgg25 Try.sizeOf25 hs5 rfl rfl (ats_own (i := 0) (vs := [_, _, _]) rfl rfl)) rfl ?_
  refine w_pure want_none (y_move (v := .int _ _) rfl rfl) rfl ?_
  refine w_pure want_none (y_fieldAddr (o := 2) (i := 2) Try.underlying25 rfl Try.sizeOf23 rfl rfl rfl) rfl ?_
  refine w_pure want_none (y_load1 Try.isAgg23 hs5 rfl rfl (ats_own (i := 0) (vs := [_]) rfl rfl)) rfl ?_
  refine w_pure want_none (y_lenS Try.underlying23 rfl rfl) rfl ?_
  refine w_pure want_none (y_move (v := .int _ _) rfl rfl) rfl ?_
  refine w_pure want_none (y_fieldAddr (o := 1) (i := 1) Try.underlying25 rfl Try.sizeOf22 rfl rfl rfl) rfl ?_
  refine w_pure want_none (y_load1 Try.isAgg22 hs5 rfl rfl (ats_own (i := 0) (vs := [_]) rfl rfl)) rfl ?_
  refine w_pure want_none (y_lenS Try.underlying22 rfl rfl) rfl ?_
  refine w_bslice (ps := [(0, _), (1, _), (2, _), (3, _)]) (pv := [(0, .int _ _), (1, .int _ _), (2, .int _ _), (3, .int _ _)]) (cs := [_, _, _, _]) want_none rfl rfl (fun w => Try_M_fb4 _ _ _ _ w) hs5 (fun b8 w9 hs10 => ?_)
  refine w_call want_none Try.call63 rfl rfl rfl rfl ((by have h := c63 b _ hm.cons.cons 0 (some ⟨b8, 0, none⟩) 4 [a, (b.ctrs.length : Int), e, (b.hours.length : Int)] (by simp) (by simp) (hns_4 a e) (sl_own (i := 0) (rows := [[_], [_], [_], [_]]) rfl (by simp) rfl) hs10; rw [pairs_four] at h; exact h)) ?_
  rintro _ w12 (⟨hee, rfl, hs13⟩ | ⟨hee, bb, mm, M, rfl, hM, hs13⟩)
  ·
   refine w_pure want_none (y_move (v := .tuple _) rfl rfl) rfl ?_
   refine w_pure want_none (y_extract (v := .pointer _) rfl rfl rfl) rfl ?_
   refine w_pure want_none (y_extract (v := .int _ _) rfl rfl rfl) rfl ?_
   refine w_pure want_none (y_assign (v := .pointer _) rfl rfl) rfl ?_
   refine w_pure want_none (y_assign (v := .int _ _) rfl rfl) rfl ?_
   refine w_nil ?_
   refine q_then (hK6 _ _ ?_)
   refine w_seq (fun K15 hK14 => ?_)
   refine w_seq (fun K17 hK16 => ?_)
   refine w_region ?_
   refine w_pure want_none (y_move (v := .int _ _) rfl rfl) rfl ?_
   refine w_pure want_none (y_neq rfl rfl rfl rfl) rfl ?_
   refine w_nil ?_
   refine q_then (hK16 _ _ ?_)
   refine w_cond rfl rfl (fun h18 => ?_) (fun h18 => ?_)
   ·
    try simp only [Bool.not_eq_true', Bool.not_eq_false', decide_eq_true_eq, decide_eq_false_iff_not, Int.not_lt, Int.not_le] at h18
    refine w_seq (fun K20 hK19 => ?_)
    refine w_region ?_
    refine w_pure want_none (y_move (v := .int _ _) rfl rfl) rfl ?_
    refine w_pure want_none (y_assign (v := _) rfl rfl) rfl ?_
    refine w_pure want_none (y_assign (v := .int _ _) rfl rfl) rfl ?_
    refine w_nil ?_
    refine q_then (hK19 _ _ ?_)
    refine w_ret ?_
    refine q_then_ret ?_
    refine q_ret (l := [.tmp 6, .tmp 7]) (vs := [_, _]) rfl ⟨⟨rfl, show _ = (.int _ _ : Value) from rfl⟩, ⟨rfl, show _ = (.int _ _ : Value) from rfl⟩, trivial⟩ ?_
    exact ⟨by rw [zeroP_e hee]; rfl, hs13.tail.tail⟩
   ·
    exfalso
    try simp only [Bool.not_eq_true', Bool.not_eq_false', decide_eq_true_eq, decide_eq_false_iff_not, Int.not_lt, Int.not_le] at h18
    first | exact hee h18 | exact h18 hee
  ·
   replace hs13 := (show St _ _ (_ :: M ++ (_ :: _ :: F)) from hs13)
   have hs21 := (show St _ _ ([_] ++ (M ++ _)) from hs13).perm (perm_mid [_] M _)
   replace hs21 := (show St _ _ (M ++ (_ :: _ :: _ :: F)) from hs21)
   have hew := enterE_ok hee
   have hok := check_ok hew.1
   refine w_pure want_none (y_move (v := .tuple _) rfl rfl) rfl ?_
   refine w_pure want_none (y_extract (v := .pointer _) rfl rfl rfl) rfl ?_
   refine w_pure want_none (y_extract (v := .int _ _) rfl rfl rfl) rfl ?_
   refine w_pure want_none (y_assign (v := .pointer _) rfl rfl) rfl ?_
   refine w_pure want_none (y_assign (v := .int _ _) rfl rfl) rfl ?_
   refine w_nil ?_
   refine q_then (hK6 _ _ ?_)
   refine w_seq (fun K23 hK22 => ?_)
   refine w_seq (fun K25 hK24 => ?_)
   refine w_region ?_
   refine w_pure want_none (y_move (v := .int _ _) rfl rfl) rfl ?_
   refine w_pure want_none (y_neq rfl rfl rfl rfl) rfl ?_
   refine w_nil ?_
   refine q_then (hK24 _ _ ?_)
   refine w_condF rfl rfl ?_
   refine w_skip ?_
   refine q_then (hK22 _ _ ?_)
   refine w_seq (fun K27 hK26 => ?_)
   have hia := idx2_ok hew.2.1
   have hlc := hok.lc
   refine w_region ?_
   refine w_pure want_none (y_move (v := .pointer _) rfl rfl) rfl ?_
   refine w_pure want_none (y_move (v := .int _ _) rfl rfl) rfl ?_
   refine w_pure want_none (y_move (v := .int _ _) rfl rfl) rfl ?_
   refine w_call want_none Try.call77 rfl rfl rfl rfl ((by have h := c77 e.toNat hs21; rw [Int.toNat_of_nonneg (by omega)] at h; exact h)) ?_
   rintro _ w29 ⟨bz, rfl, hs30⟩
   have hs31 := (show St _ _ ([_] ++ (M ++ _)) from hs30).perm (perm_mid [_] M _)
   replace hs31 := (show St _ _ (M ++ (_ :: _ :: _ :: _ :: F)) from hs31)
   refine w_call want_none Try.call72 rfl rfl rfl rfl ((by have h := c72 (X := []) (M := M) (F := _ :: (bb, blk 129 [.int .i64 b.holds, .slice p.ah b.hours.length p.ch, .slice p.ac b.ctrs.length p.cc, .map (some mm)]) :: _ :: _ :: F) b p bb mm ⟨hm.cons.cons.cons.cons, ats_own (i := 1) rfl rfl, hok⟩ a.toNat (by omega) 103 #[] #[.pointer (some ⟨bz, 0, none⟩)] (zeroed e.toNat) (qis_zeroed (ats_own (i := 0) (vs := [_]) rfl (by rw [Int.toNat_of_nonneg (by omega)]; rfl))) hM hs31; rw [Int.toNat_of_nonneg (by omega)] at h; exact h)) ?_
   rintro _ w33 ⟨rfl, M2, hM2, hs34⟩
   replace hs34 := (show St _ _ (M2 ++ (_ :: _ :: _ :: _ :: F)) from hs34)
   have hs35 := hs34.drop
   refine w_pure want_none (y_extract (v := .bool _) rfl rfl rfl) rfl ?_
   refine w_pure want_none (y_extract (v := .bool _) rfl rfl rfl) rfl ?_
   refine w_call want_none Try.call74 rfl rfl rfl rfl (c74 _ _ hs35) ?_
   rintro _ w37 ⟨rfl, hs38⟩
   refine w_pure want_none (y_assign (v := .int _ _) rfl rfl) rfl ?_
   refine w_pure want_none (y_assign (v := _) rfl rfl) rfl ?_
   refine w_nil ?_
   refine q_then (hK26 _ _ ?_)
   refine w_ret ?_
   refine q_ret (l := [.tmp 6, .tmp 7]) (vs := [_, _]) rfl ⟨⟨rfl, show _ = (.int _ _ : Value) from rfl⟩, ⟨rfl, show _ = (.int _ _ : Value) from rfl⟩, trivial⟩ ?_
   exact ⟨by rw [zeroP_y hee]; rfl, hs38.tail.tail.tail.tail⟩

end Go.Proofs
/- Plain words of the chain layer: sets as lists, loads at the hours of a set, what lies in a hold by them. No conditions. -/
set_option linter.unusedSimpArgs false
set_option linter.unusedVariables false
namespace Go.Rt.Ch
open Go.Rt.Ha
theorem listL_le (b : Nat) : ∀ n, (listL b n).length ≤ n
  | 0 => by simp [listL]
  | n + 1 => by have := listL_le b n; simp only [listL, List.length_append]; split <;> simp <;> omega
def listTo (b n k : Nat) : List Int := listL b k ++ List.replicate (n - (listL b k).length) 0
theorem listTo_len (b n k : Nat) (h : k ≤ n) : (listTo b n k).length = n := by have := listL_le b k; simp [listTo]; omega
theorem listTo_zero (b n : Nat) : listTo b n 0 = List.replicate n 0 := by simp [listTo, listL]
theorem listL_yes {b k : Nat} (h : bit b k = 1) : listL b (k + 1) = listL b k ++ [(k : Int)] := by simp [listL, h]
theorem listL_no {b k : Nat} (h : ¬ bit b k = 1) : listL b (k + 1) = listL b k := by simp [listL, h]
theorem listTo_yes {b n k : Nat} (hk : k < n) (h : bit b k = 1) : (listTo b n k).set (listL b k).length k = listTo b n (k + 1) := by
  have := listL_le b k
  unfold listTo
  rw [listL_yes h, List.set_append_right _ _ (Nat.le_refl _), Nat.sub_self, List.length_append, List.length_singleton]
  obtain ⟨q, hq⟩ : ∃ q, n - (listL b k).length = q + 1 := ⟨n - (listL b k).length - 1, by omega⟩
  rw [hq, List.replicate_succ, List.set_cons_zero, show n - ((listL b k).length + 1) = q by omega]
  simp
theorem listTo_no {b n k : Nat} (h : ¬ bit b k = 1) : listTo b n k = listTo b n (k + 1) := by unfold listTo; rw [listL_no h]
theorem listTo_take (b n : Nat) : (listTo b n n).take (listL b n).length = listL b n := by simp [listTo]
theorem bit_lt2 (b j : Nat) : bit b j = 0 ∨ bit b j = 1 := by unfold bit; have := Nat.and_lt_two_pow (x := b >>> j) (y := 1) (n := 1) (by omega); omega
/-! ### Fewest, step by step -/
theorem few_skip {d : Nat → Bool} {n s : Nat} (h1 : (fewTo d n s).2 = true) (h2 : before (fewTo d n s).1 (listL s n) = true) : fewTo d n (s + 1) = fewTo d n s := by simp only [fewTo, fewStep]; rw [h1, h2]; rfl
theorem few_yes {d : Nat → Bool} {n s : Nat} (h1 : (fewTo d n s).2 = false ∨ before (fewTo d n s).1 (listL s n) = false) (h2 : d s = true) : fewTo d n (s + 1) = (listL s n, true) := by
  simp only [fewTo, fewStep]; rw [if_neg (by rcases h1 with h | h <;> simp [h]), if_pos h2]
theorem few_no {d : Nat → Bool} {n s : Nat} (h1 : (fewTo d n s).2 = false ∨ before (fewTo d n s).1 (listL s n) = false) (h2 : d s = false) : fewTo d n (s + 1) = fewTo d n s := by
  simp only [fewTo, fewStep]; rw [if_neg (by rcases h1 with h | h <;> simp [h]), if_neg (by simp [h2])]
theorem few_len (d : Nat → Bool) (n : Nat) : ∀ s, (fewTo d n s).1.length ≤ n
  | 0 => by simp [fewTo]
  | s + 1 => by have := few_len d n s; have := listL_le s n; simp only [fewTo, fewStep]; split <;> (try split) <;> assumption
theorem few_vals {v1 v2 : Value} {b1 b2 : Bool} {z1 z2 : Int} (h1 : v1 = v2) (h2 : b1 = b2) (h3 : z1 = z2) : [v1, Value.bool b1, Value.int .i64 z1] = [v2, Value.bool b2, Value.int .i64 z2] := by rw [h1, h2, h3]
theorem before_no {a b : List Int} (h1 : a.length ≤ b.length → ¬ (b.length : Int) > a.length) (h2 : a.length = b.length → less a b = false) : before a b = false := by
  unfold before
  rw [Bool.or_eq_false_iff, Bool.and_eq_false_iff]
  refine ⟨by simp; omega, ?_⟩
  by_cases e : a.length = b.length
  · exact .inr (h2 e)
  · left; simpa using e
theorem shl_256 {n : Nat} (h : n ≤ 8) : 1 ≤ 1 <<< n ∧ 1 <<< n ≤ 256 := by
  rw [Nat.shiftLeft_eq, Nat.one_mul]
  have h2 : 2 ^ n ≤ 2 ^ 8 := Nat.pow_le_pow_right (by omega) h
  have := Nat.one_le_two_pow (n := n)
  omega
def cmpI (a b : Int) : Int := if a < b then -1 else if b < a then 1 else 0
theorem cmp_zero {a b : Int} (h : cmpI a b = 0) : a = b := by
  unfold cmpI at h
  split at h
  · omega
  · split at h <;> omega
/-! ### Loads at the hours of a set -/
/-- Loads, of whose first k only those of a set are kept. -/
def maskTo (s : Nat) (l : List Int) (k : Nat) : List Int := (List.range 4).map fun j => if j < k then l.getD j 0 * ((bit s j : Nat) : Int) else l.getD j 0
def mask (s : Nat) (l : List Int) : List Int := maskTo s l 4
theorem maskTo_len (s : Nat) (l : List Int) (k : Nat) : (maskTo s l k).length = 4 := by simp [maskTo]
theorem maskTo_zero {s : Nat} {l : List Int} (h : l.length = 4) : maskTo s l 0 = l := by
  apply List.ext_getElem
  · rw [maskTo_len, h]
  · intro i h1 h2
    simp [maskTo, List.getD, h2]
theorem maskTo_get {s : Nat} {l : List Int} {k : Nat} (hk : k < 4) : (maskTo s l k).getD k 0 = l.getD k 0 := by
  simp [maskTo, List.getD, hk]
theorem maskTo_set {s : Nat} {l : List Int} {k : Nat} (hk : k < 4) : (maskTo s l k).set k ((maskTo s l k).getD k 0 * ((bit s k : Nat) : Int)) = maskTo s l (k + 1) := by
  rw [maskTo_get hk]
  apply List.ext_getElem
  · simp [maskTo]
  · intro i h1 h2
    have hi : i < 4 := by rwa [maskTo_len] at h2
    rw [List.getElem_set]
    by_cases e : k = i
    · subst e; simp [maskTo]
    · rw [if_neg e]
      by_cases h3 : i < k
      · simp [maskTo, h3, show i < k + 1 by omega]
      · simp [maskTo, h3, show ¬ i < k + 1 by omega]
theorem mask_get (s : Nat) (l : List Int) {k : Nat} (hk : k < 4) : (mask s l).getD k 0 = l.getD k 0 * ((bit s k : Nat) : Int) := by simp [mask, maskTo, List.getD, hk]
theorem list_mem {s n k : Nat} : (k : Int) ∈ listL s n ↔ k < n ∧ bit s k = 1 := by
  induction n with
  | zero => simp [listL]
  | succ n ih =>
    simp only [listL, List.mem_append, ih]
    constructor
    · rintro (h | h)
      · exact ⟨by omega, h.2⟩
      · split at h
        · rename_i hb
          have h2 : (k : Int) = (n : Int) := by simpa using h
          have : k = n := by omega
          subst this; exact ⟨by omega, hb⟩
        · cases h
    · rintro ⟨h1, h2⟩
      by_cases e : k = n
      · subst e; right; rw [if_pos h2]; simp
      · exact .inl ⟨by omega, h2⟩
theorem list_nat {s n : Nat} {z : Int} (h : z ∈ listL s n) : ∃ k : Nat, z = k ∧ k < n ∧ bit s k = 1 := by
  induction n with
  | zero => simp [listL] at h
  | succ n ih =>
    simp only [listL, List.mem_append] at h
    rcases h with h | h
    · obtain ⟨k, h1, h2, h3⟩ := ih h; exact ⟨k, h1, by omega, h3⟩
    · split at h
      · rename_i hb; simp at h; exact ⟨n, h, by omega, hb⟩
      · cases h
theorem mask_same {s n : Nat} (hn : n ≤ 4) {l m : List Int} (hl : l.length = n) (hm : m.length = n) : mask s (pad4 l) = mask s (pad4 m) ↔ sameAt s n l m = true := by
  unfold sameAt
  rw [List.all_eq_true]
  constructor
  · intro h z hz
    obtain ⟨k, rfl, hk, hb⟩ := list_nat hz
    have := congrArg (fun x : List Int => x.getD k 0) h
    try simp only at this
    rw [mask_get _ _ (by omega), mask_get _ _ (by omega), pad4_at, pad4_at, hb] at this
    simp only [decide_eq_true_eq, Int.toNat_natCast]
    have e1 : ld l k = l.getD k 0 := rfl
    have e2 : ld m k = m.getD k 0 := rfl
    omega
  · intro h
    apply List.ext_getElem
    · rw [mask, mask, maskTo_len, maskTo_len]
    · intro k h1 h2
      have hk : k < 4 := by rw [mask, maskTo_len] at h1; exact h1
      have e : ∀ x : List Int, ∀ hx : k < (mask s x).length, (mask s x)[k] = x.getD k 0 * ((bit s k : Nat) : Int) := by
        intro x hx
        rw [← mask_get s x hk]; simp [List.getD, hx]
      rw [e, e, pad4_at, pad4_at]
      by_cases hkn : k < n
      · rcases bit_lt2 s k with hb | hb
        · rw [hb]; simp
        · have := h _ (list_mem.2 ⟨hkn, hb⟩)
          simp only [decide_eq_true_eq, Int.toNat_natCast] at this
          have e1 : ld l k = l.getD k 0 := rfl
          have e2 : ld m k = m.getD k 0 := rfl
          rw [← e1, ← e2, this]
      · have e1 : l.getD k 0 = 0 := by simp [List.getD, List.getElem?_eq_none (by omega : l.length ≤ k)]
        have e2 : m.getD k 0 = 0 := by simp [List.getD, List.getElem?_eq_none (by omega : m.length ≤ k)]
        rw [e1, e2]
/-! ### What lies in a hold, by these -/
def sv (p : Int × Int) : Value := .agg #[.int .i64 p.1, .int .i64 p.2]
/-- The span of those that are the same at a set. -/
def gS (s : Nat) (f : List Int → Int) (ws : List (List Int)) (key : List Int) : Int × Int := hullL f (ws.filter fun l => decide (mask s (pad4 l) = key))
/-- What a map of spans says of the loads that were gone through. -/
structure SpM (s : Nat) (f : List Int → Int) (ws : List (List Int)) (es : List (List Int × Value × Nat)) : Prop where
  v : ∀ q ∈ es, q.2.1 = sv (gS s f ws q.1)
  k : ∀ key, key ∈ es.map (·.1) ↔ ∃ l ∈ ws, mask s (pad4 l) = key
theorem spm_nil (s : Nat) (f : List Int → Int) : SpM s f [] [] := ⟨by simp, by simp⟩
theorem SpM.len {s : Nat} {f : List Int → Int} {ws : List (List Int)} {es : List (List Int × Value × Nat)} (h : SpM s f ws es) : ∀ q ∈ es, q.1.length = 4 := by
  intro q hq
  obtain ⟨l, _, e⟩ := (h.k q.1).1 (List.mem_map_of_mem (f := fun x : List Int × Value × Nat => x.1) hq)
  rw [← e, mask, maskTo_len]
theorem SpM.zero {s : Nat} {f : List Int → Int} {ws : List (List Int)} {es : List (List Int × Value × Nat)} (h : SpM s f ws es) {key : List Int} (hk : key ∉ es.map (·.1)) : gS s f ws key = (0, 0) := by
  unfold gS
  rw [List.filter_eq_nil_iff.2]
  · rfl
  · intro l hl; simp only [decide_eq_true_eq]; intro e; exact hk ((h.k key).2 ⟨l, hl, e⟩)
theorem putA_strong {α : Type} [DecidableEq α] {a : α} {v : Value} {ck : Nat} {q : α × Value × Nat} : ∀ {l : List (α × Value × Nat)}, (l.map (·.1)).Nodup → q ∈ putA a v ck l → (q.1 = a ∧ q.2.1 = v) ∨ (q ∈ l ∧ q.1 ≠ a)
  | [], _, h => by simp [putA] at h; subst h; exact .inl ⟨rfl, rfl⟩
  | x :: l, hn, h => by
    rw [List.map_cons, List.nodup_cons] at hn
    by_cases e : x.1 = a
    · simp only [putA, if_pos e] at h
      cases h with
      | head => exact .inl ⟨rfl, rfl⟩
      | tail _ h =>
        right
        refine ⟨.tail _ h, fun e2 => hn.1 ?_⟩
        rw [e, ← e2]; exact List.mem_map_of_mem (f := fun x : α × Value × Nat => x.1) h
    · simp only [putA, if_neg e] at h
      cases h with
      | head => exact .inr ⟨.head _, e⟩
      | tail _ h =>
        rcases putA_strong hn.2 h with h | h
        · exact .inl h
        · exact .inr ⟨.tail _ h.1, h.2⟩
theorem gS_other {s : Nat} {f : List Int → Int} {ws : List (List Int)} {l key : List Int} (h : mask s (pad4 l) ≠ key) : gS s f (ws ++ [l]) key = gS s f ws key := by
  unfold gS; rw [List.filter_append]; simp [h]
theorem gS_own {s : Nat} {f : List Int → Int} {ws : List (List Int)} {l : List Int} : gS s f (ws ++ [l]) (mask s (pad4 l)) = hullL f ((ws.filter fun x => decide (mask s (pad4 x) = mask s (pad4 l))) ++ [l]) := by
  unfold gS; rw [List.filter_append]; simp
theorem gS_new {s : Nat} {f : List Int → Int} {ws : List (List Int)} {es : List (List Int × Value × Nat)} (h : SpM s f ws es) {l : List Int} (hk : mask s (pad4 l) ∉ es.map (·.1)) : gS s f (ws ++ [l]) (mask s (pad4 l)) = (min (f l) (f l), max (f l) (f l)) := by
  rw [gS_own, List.filter_eq_nil_iff.2]
  · simp [hullL]
  · intro x hx; simp only [decide_eq_true_eq]; intro e; exact hk ((h.k _).2 ⟨x, hx, e⟩)
theorem gS_more {s : Nat} {f : List Int → Int} {ws : List (List Int)} {es : List (List Int × Value × Nat)} (h : SpM s f ws es) {l : List Int} (hk : mask s (pad4 l) ∈ es.map (·.1)) : gS s f (ws ++ [l]) (mask s (pad4 l)) = (min (gS s f ws (mask s (pad4 l))).1 (f l), max (gS s f ws (mask s (pad4 l))).2 (f l)) := by
  rw [gS_own, hull_snoc]
  · rfl
  · obtain ⟨x, hx, e⟩ := (h.k _).1 hk
    exact List.ne_nil_of_mem (List.mem_filter.2 ⟨hx, by simpa using e⟩)
theorem SpM.put {s : Nat} {f : List Int → Int} {ws : List (List Int)} {es : List (List Int × Value × Nat)} (h : SpM s f ws es) (hn : (es.map (·.1)).Nodup) {l : List Int} {p : Int × Int} (hp : p = gS s f (ws ++ [l]) (mask s (pad4 l))) (ck : Nat) : SpM s f (ws ++ [l]) (putA (mask s (pad4 l)) (sv p) ck es) := by
  refine ⟨fun q hq => ?_, fun key => ?_⟩
  · rcases putA_strong hn hq with ⟨h1, h2⟩ | ⟨h1, h2⟩
    · rw [h1, h2, hp]
    · rw [h.v q h1, gS_other (fun e => h2 e.symm)]
  · rw [keys_putA, h.k]
    constructor
    · rintro (rfl | ⟨x, hx, e⟩)
      · exact ⟨l, by simp, rfl⟩
      · exact ⟨x, List.mem_append_left _ hx, e⟩
    · rintro ⟨x, hx, e⟩
      rcases List.mem_append.1 hx with hx | hx
      · exact .inr ⟨x, hx, e⟩
      · rw [List.mem_singleton] at hx; subst hx; exact .inl e.symm
theorem hull_in {f : List Int → Int} {lo hi : Int} (h0 : lo ≤ 0 ∧ 0 ≤ hi) : ∀ (ws : List (List Int)), (∀ l ∈ ws, lo ≤ f l ∧ f l ≤ hi) → lo ≤ (hullL f ws).1 ∧ (hullL f ws).1 ≤ hi ∧ lo ≤ (hullL f ws).2 ∧ (hullL f ws).2 ≤ hi
  | [], _ => by simp [hullL]; omega
  | a :: ws, h => by
    simp only [hullL]
    have key : ∀ (r : List (List Int)) (p : Int × Int), (lo ≤ p.1 ∧ p.1 ≤ hi) ∧ (lo ≤ p.2 ∧ p.2 ≤ hi) → (∀ l ∈ r, lo ≤ f l ∧ f l ≤ hi) → lo ≤ (r.foldl (fun s x => (min s.1 (f x), max s.2 (f x))) p).1 ∧ (r.foldl (fun s x => (min s.1 (f x), max s.2 (f x))) p).1 ≤ hi ∧ lo ≤ (r.foldl (fun s x => (min s.1 (f x), max s.2 (f x))) p).2 ∧ (r.foldl (fun s x => (min s.1 (f x), max s.2 (f x))) p).2 ≤ hi := by
      intro r
      induction r with
      | nil => intro p hp _; exact ⟨hp.1.1, hp.1.2, hp.2.1, hp.2.2⟩
      | cons x r ih =>
        intro p hp hr
        simp only [List.foldl_cons]
        have := hr x (.head _)
        exact ih _ ⟨by constructor <;> simp only <;> omega, by constructor <;> simp only <;> omega⟩ fun l hl => hr l (.tail _ hl)
    have ha := h a (.head _)
    exact key ws _ ⟨ha, ha⟩ fun l hl => h l (.tail _ hl)
theorem gS_in {b : Board} (hok : b.Ok) {hold : Int} (s : Nat) {ws : List (List Int)} (hw : ∀ l ∈ ws, l ∈ truths b) (key : List Int) : 0 ≤ (gS s (inH b hold) ws key).1 ∧ (gS s (inH b hold) ws key).1 ≤ 160 ∧ 0 ≤ (gS s (inH b hold) ws key).2 ∧ (gS s (inH b hold) ws key).2 ≤ 160 := by
  refine hull_in (by omega) _ fun l hl => ?_
  have h1 := in_bound (h := hold) (b := b) (fun k => ld_40 hok (hw l (List.mem_filter.1 hl).1) k) b.hours.length
  have := hok.lh
  unfold inH; omega
/-- Whether all spans are within a number is whether the set tells. -/
theorem tells_map {b : Board} (hok : b.Ok) {hold within : Int} {s : Nat} {es : List (List Int × Value × Nat)} (h : SpM s (inH b hold) (truths b) es) : tellsS b hold within s = true ↔ ∀ q ∈ es, (gS s (inH b hold) (truths b) q.1).2 - (gS s (inH b hold) (truths b) q.1).1 ≤ within := by
  have e : ∀ l ∈ truths b, gS s (inH b hold) (truths b) (mask s (pad4 l)) = hullL (inH b hold) ((truths b).filter (sameAt s b.hours.length l)) := by
    intro l hl
    unfold gS
    congr 1
    refine List.filter_congr fun x hx => ?_
    rw [Bool.eq_iff_iff, decide_eq_true_eq, ← mask_same hok.lh (truth_in hl).1 (truth_in hx).1]
    exact eq_comm
  unfold tellsS
  rw [List.all_eq_true]
  constructor
  · intro ht q hq
    obtain ⟨l, hl, e2⟩ := (h.k q.1).1 (List.mem_map_of_mem (f := fun x : List Int × Value × Nat => x.1) hq)
    rw [← e2, e l hl]
    simpa using ht l hl
  · intro ha l hl
    obtain ⟨q, hq, e2⟩ := List.mem_map.1 ((h.k _).2 ⟨l, hl, rfl⟩)
    have := ha q hq
    rw [show q.1 = mask s (pad4 l) from e2, e l hl] at this
    simpa using this
end Go.Rt.Ch
/- The walking engine, part 20: lookups in maps whose values are told by their keys. No conditions. -/
set_option linter.unusedSimpArgs false
set_option linter.unusedVariables false
set_option linter.unusedSectionVars false
namespace Go.Rt
open Go.RowKit
variable {P : Program} {n : Nat} {ρ : Nat → Value} {ds : List Deferred} {w w0 : World} {L : List (Nat × Obj)} {d : Option Tmp} {ty : TypeId} {p : String} {e : Array Edge} {g : Option (Nat × Bool)} {α : Type} [DecidableEq α] {kv : α → Value} {ok : α → Prop}
theorem getA_key {a : α} {l : List (α × Value × Nat)} : getA a l = none ↔ a ∉ l.map (·.1) := by
  rw [getA_none]
  constructor
  · intro h hm
    obtain ⟨q, hq, e⟩ := List.mem_map.1 hm
    exact h q hq e
  · intro h q hq e
    exact h (e ▸ List.mem_map_of_mem (f := fun x : α × Value × Nat => x.1) hq)
/-- A lookup in a map whose values are told by their keys, and by the zero where there is none. -/
theorem G_look2V {mt kt el : TypeId} {x y : Operand} {a : α} {l : List (α × Value × Nat)} {m i ck : Nat} (V : α → Value) (hU : P.underlying mt = some (.map kt el)) (hK : KeyG P kt kv ok) (hok : ok a) (hall : ∀ q ∈ l, ok q.1) (hV : ∀ q ∈ l, q.2.1 = V q.1)
    (hz : a ∉ l.map (·.1) → ∀ w, (zeroValue el).run P w = .ok (V a) w) (hst : St w0 w L) (ho : okO n x = true) (ho1 : okO n y = true) (hx : ev ρ x = .map (some m)) (hy : ev ρ y = kv a) (hi : L[i]? = some (m, .map (ents kv l).toArray ck)) :
    Yd P (A n ρ ds) ⟨d, .lookup mt x y true, ty, p, e, g⟩ w (.tuple #[V a, .bool (decide (a ∈ l.map (·.1)))]) := by
  cases hg : getA a l with
  | none =>
    have hn := getA_key.1 hg
    have := G_look2N (d := d) (ty := ty) (p := p) (e := e) (g := g) (ds := ds) hU hK hok hall (hz hn) hst ho ho1 hx hy hi hg
    rw [decide_eq_false hn]; exact this
  | some u =>
    have := G_look2S (d := d) (ty := ty) (p := p) (e := e) (g := g) (ds := ds) hU hK hok hall hst ho ho1 hx hy hi hg
    obtain ⟨q, hq, h1, h2⟩ := getA_in hg
    have hm : a ∈ l.map (·.1) := h1 ▸ List.mem_map_of_mem (f := fun x : α × Value × Nat => x.1) hq
    rw [decide_eq_true hm]
    have h3 := hV q hq
    rw [h1] at h3
    rw [← h3, h2]; exact this
/-- Keys that are arrays of ints. -/
theorem keyTy_array {t el : TypeId} {k : Nat} (hu : P.underlying t = some (.array k el)) (hel : P.underlying el = some (.int .i64)) (hs : ∀ w, (sizeOf el).run P w = .ok 1 w) (hf : flatInts P t k = true) : KeyTy P t k where
  chk := fun em l w hl => by
    unfold ia
    exact run_checkKey (dd := 9998) hu (by first | simpa using hl | omega) hel hs
  eq := fun l m w hl hm => by
    show (Op.equalIn (9998 + 2) t (ia l) (ia m)).run P w = _
    exact run_equal_flat 9998 (by rw [hl]; exact hf) (by rw [hl, hm])
  desc := by
    refine ⟨_, hu, fun l e es => ?_, fun l w => ?_⟩
    · simp [Instr.findNow, Instr.sameNow]
    · simp [Instr.findKey, Sem.run_bind, run_underlying hu, Result.andThen, Instr.findNow]
/-- One cell of one row set anew. -/
theorem flat_set {sz k : Nat} {v : Value} (hk : k < sz) : ∀ {rows : List (List Value)} {i : Nat}, (∀ row ∈ rows, row.length = sz) → (hi : i < rows.length) → rows.flatten.set (i * sz + k) v = (rows.set i (rows[i].set k v)).flatten
  | r :: rows, 0, hr, _ => by
    have h1 := hr r (.head _)
    simp only [List.flatten_cons, List.set_cons_zero, List.getElem_cons_zero, Nat.zero_mul, Nat.zero_add]
    rw [List.set_append_left _ _ (by omega)]
  | r :: rows, i + 1, hr, hi => by
    have h1 := hr r (.head _)
    simp only [List.flatten_cons, List.set_cons_succ, List.getElem_cons_succ]
    rw [List.set_append_right _ _ (by rw [h1, Nat.succ_mul]; omega), h1, show (i + 1) * sz + k - sz = i * sz + k by rw [Nat.succ_mul]; omega]
    rw [flat_set hk (fun x hx => hr x (.tail _ hx)) (by simpa using hi)]
theorem take_cell {cs : List Value} {rows : List (List Value)} {n sz i k : Nat} {v : Value} (hk : k < sz) (hr : ∀ row ∈ rows, row.length = sz) (hi : i < rows.length) (h : cs.take (n * sz) = rows.flatten) : (cs.set (i * sz + k) v).take (n * sz) = (rows.set i (rows[i].set k v)).flatten := by
  rw [List.take_set, h, flat_set hk hr hi]
theorem own_some2 {t : TypeId} {sz n c : Nat} {a : Option Addr} {xs : List Value} {B : List (Nat × Obj)} (h : Own (.slice a n c) t sz n xs B) (hn : 0 < n) : ∃ b cs, a = some ⟨b, 0, none⟩ ∧ B = [(b, blk t cs)] ∧ n ≤ c ∧ c ≤ maxLen ∧ cs.length = c * sz ∧ cs.take (n * sz) = xs := by
  rcases h.2 with ⟨_, h0, _⟩ | ⟨b, cap, cs, h1, h2, h3, h4, h5, h6⟩
  · omega
  · injection h1 with e1 _ e3
    subst e3
    exact ⟨b, cs, e1, h2, h3, h4, h5, h6⟩
theorem own_mk {t : TypeId} {sz n c b : Nat} {xs cs : List Value} (hl : xs.length = n * sz) (h3 : n ≤ c) (h4 : c ≤ maxLen) (h5 : cs.length = c * sz) (h6 : cs.take (n * sz) = xs) : Own (.slice (some ⟨b, 0, none⟩) n c) t sz n xs [(b, blk t cs)] := ⟨hl, .inr ⟨b, c, cs, rfl, rfl, h3, h4, h5, h6⟩⟩
end Go.Rt
/- Walks of this seat, printed by gen.py over the engine: what each function returns, in whatever world. No conditions but those of each contract. -/
set_option linter.unusedVariables false
set_option linter.unusedSimpArgs false
set_option maxRecDepth 20000
namespace Go.Proofs
open Go.Rt Go.Rt.Ch
open Go.Rt.Ha (firstE firstE_step firstE_stop firstE_end failE nameE felt spanL upto span_mem listL fewest fewTo bit before fewStep drop_lt drop_get drop_next drop_done drop_notin set_take set_zero take_less)
attribute [local irreducible] WL WC Con Yd At Ats Sl Agree DW
theorem Try_N_fb3 (x0 : Int) (w : World) : (Instr.buildSlice 39 1 [(0, .int .i64 x0)].toArray).run Try.prog w = .ok (.slice (some ⟨w.heap.size, 0, none⟩) 1 1) (w.alloc (Go.Rt.blk 3 [.int .i64 x0])) := by kernel_rfl
theorem bit_not_one {b k : Nat} (h : ¬ ((bit b k : Nat) : Int) = 1) : ¬ bit b k = 1 := fun e => h (by rw [e]; rfl)
theorem bit_one {b k : Nat} (h : ((bit b k : Nat) : Int) = 1) : bit b k = 1 := by omega
theorem listL_sl {w0 : World} {L : List (Nat × Obj)} {i b : Nat} {t : TypeId} {x n : Nat} (hi : L[i]? = some (b, blk t (iv (listTo x n n)))) (hc : listL x n ≠ []) : Sl w0 L (some ⟨b, 0, none⟩) 1 ((listL x n).map fun x => [Value.int .i64 x]) := by
  have h := Sl.cut (w0 := w0) (l' := 0) (h' := (listL x n).length) (c := n) (sl_ints_own hi) (Nat.zero_le _) (by have := listL_le x n; simp [listTo_len x n n (Nat.le_refl _)]; omega) (by simp [listTo_len x n n (Nat.le_refl _)])
  rw [← List.map_drop, List.drop_zero, Nat.sub_zero, ← List.map_take, listTo_take] at h
  have hn : n ≠ 0 := by rintro rfl; exact hc rfl
  rw [if_neg hn] at h
  have e : (some (⟨b, 0, none⟩ : Addr)).map (·.add (0 * 1)) = some ⟨b, 0, none⟩ := rfl
  rwa [e] at h
theorem listL_slc {w0 : World} {L : List (Nat × Obj)} {b : Nat} {t : TypeId} {x n : Nat} (hi : L[0]? = some (b, blk t (iv (listTo x n n)))) : Sl w0 L (if n = 0 then some ⟨b, 0, none⟩ else (some (⟨b, 0, none⟩ : Addr)).map (·.add (0 * 1))) 1 ((listL x n).map fun x => [Value.int .i64 x]) := by
  by_cases hc : listL x n = []
  · rw [hc]; exact Sl.nil _ _
  · have hn : n ≠ 0 := by rintro rfl; exact hc rfl
    rw [if_neg hn]
    exact listL_sl hi hc
theorem cmp_here {a b : List Int} {i : Nat} (h : a.take i = b.take i) (ha : i < a.length) (hb : i < b.length) (hne : ¬ cmpI a[i] b[i] = 0) : decide (0 < cmpI a[i] b[i]) = less b a := by
  have hn : a[i] ≠ b[i] := fun e => hne (by unfold cmpI; rw [e]; simp)
  rw [less_here h.symm hb ha (fun e => hn e.symm)]
  unfold cmpI
  rw [Bool.eq_iff_iff]
  simp only [decide_eq_true_eq]
  split
  · simp; omega
  · split <;> simp <;> omega
theorem c104 {w0 w : World} {F : List (Nat × Obj)} (x n : Nat) (hx : x < 1000) (hn : n ≤ 40) (hs : St w0 w F) :
  Con Try.prog 104 [.int .i64 x, .int .i64 n] w fun v w' => ∃ B a c, v = .slice a (listL x n).length c ∧ Sl w0 B a 1 ((listL x n).map fun x => [Value.int .i64 x]) ∧ St w0 w' (B ++ F) := by
  refine con_of_wc (n := 31) Try.func104 rfl rfl (Nat.le_of_ble_eq_true rfl) ?_
  refine w_seq (fun K2 hK1 => ?_)
  refine w_region ?_
  refine w_pure want_none (y_assign (v := _) rfl rfl) rfl ?_
  refine w_nil ?_
  refine q_then (hK1 _ _ ?_)
  refine w_seq (fun K4 hK3 => ?_)
  refine w_region ?_
  refine w_pure want_none (y_move (v := .int _ _) rfl rfl) rfl ?_
  refine w_makeInts (k := n) want_none Try.underlying39 Try_info3 rfl rfl (by omega) rfl rfl rfl rfl rfl hs (fun b5 w6 hs7 => ?_)
  refine w_pure want_none (y_assign (v := .slice _ _ _) rfl rfl) rfl ?_
  refine w_nil ?_
  refine q_then (hK3 _ _ ?_)
  refine w_seq (fun K9 hK8 => ?_)
  refine w_region ?_
  refine w_pure want_none (y_assign (v := _) rfl rfl) rfl ?_
  refine w_nil ?_
  refine q_then (hK8 _ _ ?_)
  refine w_seq (fun K11 hK10 => ?_)
  refine w_seq (fun K13 hK12 => ?_)
  refine w_region ?_
  refine w_pure want_none (y_move (v := .int _ _) rfl rfl) rfl ?_
  refine w_pure want_none (y_move (v := _) rfl rfl) rfl ?_
  refine w_nil ?_
  refine q_then (hK12 _ _ ?_)
  refine w_block ?_
  refine w_loop [6, 7, 11, 12, 13, 14, 15, 16, 17, 18, 19, 20, 21, 22, 23, 24, 25, 26, 27] [6, 11] (fun k vs w => ∃ i : Nat, vs = [.int .i64 (listL x i).length, .int .i64 i] ∧ i ≤ n ∧ k = n - i ∧ St w0 w ((b5, blk 3 (iv (listTo x n i))) :: F)) (n) ?_ ?_
  ·
   exact ⟨0, rfl, by omega, by omega, by rw [listTo_zero]; exact hs7⟩
  ·
   intro k vs μ w16 hI K15 hN14
   obtain ⟨i, rfl, hia, rfl, hs⟩ := hI
   have hll := listL_le x i
   refine w_seq (fun K18 hK17 => ?_)
   refine w_region ?_
   refine w_pure want_none (y_lss rfl rfl rfl rfl) rfl ?_
   refine w_nil ?_
   refine q_then (hK17 _ _ ?_)
   refine w_seq (fun K20 hK19 => ?_)
   refine w_cond rfl rfl (fun h21 => ?_) (fun h21 => ?_)
   ·
    try simp only [Bool.not_eq_true', Bool.not_eq_false', decide_eq_true_eq, decide_eq_false_iff_not, Int.not_lt, Int.not_le] at h21
    refine w_skip ?_
    refine q_then (hK19 _ _ ?_)
    refine w_seq (fun K23 hK22 => ?_)
    refine w_block ?_
    refine w_seq (fun K25 hK24 => ?_)
    refine w_region ?_
    refine w_pure want_none (y_move (v := .int _ _) rfl rfl) rfl ?_
    refine w_pure want_none (y_assign (v := .int _ _) rfl rfl) rfl ?_
    refine w_nil ?_
    refine q_then (hK24 _ _ ?_)
    refine w_seq (fun K27 hK26 => ?_)
    refine w_region ?_
    refine w_pure want_none (y_move (v := .int _ _) rfl rfl) rfl ?_
    refine w_pure want_none (y_move (v := .int _ _) rfl rfl) rfl ?_
    refine w_pure want_none (y_shr (x := _) (y := _) rfl rfl rfl rfl rfl rfl (by first | omega | exact shr_lt (by omega))) rfl ?_
    refine w_pure want_none (show Yd _ _ _ _ (.int .i64 ((bit x i : Nat) : Int)) from (y_and (x := _) (y := 1) rfl rfl rfl rfl rfl rfl (by first | omega | exact shr_lt (by omega)) (by first | omega | exact shr_lt (by omega)))) rfl ?_
    refine w_pure want_none (y_eql rfl rfl rfl rfl) rfl ?_
    refine w_nil ?_
    refine q_then (hK26 _ _ ?_)
    refine w_cond rfl rfl (fun h28 => ?_) (fun h28 => ?_)
    ·
     try simp only [Bool.not_eq_true', Bool.not_eq_false', decide_eq_true_eq, decide_eq_false_iff_not, Int.not_lt, Int.not_le] at h28
     refine w_region ?_
     refine w_pure want_none (y_move (v := .int _ _) rfl rfl) rfl ?_
     refine w_pure want_none (y_move (v := .slice _ _ _) rfl rfl) rfl ?_
     refine w_pure want_none (y_move (v := .int _ _) rfl rfl) rfl ?_
     refine w_pure want_none (y_sliceS (l' := (listL x i).length) (h' := _) Try.underlying39 Try.sizeOf3 rfl rfl ⟨rfl, _, _, rfl, rfl⟩ rfl (by omega) (by omega)) rfl ?_
     refine w_pure want_none (y_move (v := .int _ _) rfl rfl) rfl ?_
     refine w_bslice (ps := [(0, _)]) (pv := [(0, .int _ _)]) (cs := [_]) want_none rfl rfl (fun w => Try_N_fb3 _ w) hs (fun b29 w30 hs31 => ?_)
     refine w_copy1 (i := 1) (i2 := 0) want_none Try.underlying39 Try.sizeOf3 rfl rfl rfl rfl hs31 rfl rfl (by omega) (by first | omega | rfl | (simp only [listTo_len x n i (by omega), List.length_map, List.length_set, List.length_append, List.length_take, List.length_drop, List.length_replicate, List.length_cons, List.length_nil] <;> omega)) (fun w32 hs33 => ?_)
     refine w_pure want_none (y_add rfl rfl rfl rfl (by omega) (by omega)) rfl ?_
     refine w_pure want_none (y_assign (v := .int _ _) rfl rfl) rfl ?_
     refine w_nil ?_
     refine q_blk_normal ?_
     refine q_then (hK22 _ _ ?_)
     refine w_region ?_
     refine w_pure want_none (y_add rfl rfl rfl rfl (by omega) (by omega)) rfl ?_
     refine w_pure want_none (y_move (v := .int _ _) rfl rfl) rfl ?_
     refine w_nil ?_
     refine q_then (hN14 _ _ (Nx.intro (n - (i + 1)) (by omega) (by repeat (first | exact agree_mix | refine agree_upd rfl ?_ | refine agree_updL rfl ?_ _ | refine agree_mixin rfl ?_)) ?_))
     first
       | exact ⟨i + 1, iv2 (by rw [listL_yes (bit_one (by assumption)), List.length_append]; rfl) rfl, by omega, rfl, by have hq := hs33.tail; rw [listTo_yes (by omega) (bit_one (by assumption))] at hq; exact hq⟩
       | exact ⟨i + 1, iv2 (by rw [listL_no (bit_not_one (by assumption))]) rfl, by omega, rfl, by rw [← listTo_no (bit_not_one (by assumption))]; exact hs33⟩
    ·
     try simp only [Bool.not_eq_true', Bool.not_eq_false', decide_eq_true_eq, decide_eq_false_iff_not, Int.not_lt, Int.not_le] at h28
     refine w_skip ?_
     refine q_blk_normal ?_
     refine q_then (hK22 _ _ ?_)
     refine w_region ?_
     refine w_pure want_none (y_add rfl rfl rfl rfl (by omega) (by omega)) rfl ?_
     refine w_pure want_none (y_move (v := .int _ _) rfl rfl) rfl ?_
     refine w_nil ?_
     refine q_then (hN14 _ _ (Nx.intro (n - (i + 1)) (by omega) (by repeat (first | exact agree_mix | refine agree_upd rfl ?_ | refine agree_updL rfl ?_ _ | refine agree_mixin rfl ?_)) ?_))
     first
       | exact ⟨i + 1, iv2 (by rw [listL_yes (bit_one (by assumption)), List.length_append]; rfl) rfl, by omega, rfl, by have hq := hs.tail; rw [listTo_yes (by omega) (bit_one (by assumption))] at hq; exact hq⟩
       | exact ⟨i + 1, iv2 (by rw [listL_no (bit_not_one (by assumption))]) rfl, by omega, rfl, by rw [← listTo_no (bit_not_one (by assumption))]; exact hs⟩
   ·
    try simp only [Bool.not_eq_true', Bool.not_eq_false', decide_eq_true_eq, decide_eq_false_iff_not, Int.not_lt, Int.not_le] at h21
    refine w_exit ?_
    refine q_then_exit ?_
    refine q_then_exit ?_
    refine q_blk_this ?_
    refine q_then (hK10 _ _ ?_)
    refine w_seq (fun K35 hK34 => ?_)
    refine w_region ?_
    refine w_pure want_none (y_move (v := .slice _ _ _) rfl rfl) rfl ?_
    refine w_pure want_none (y_move (v := .int _ _) rfl rfl) rfl ?_
    refine w_pure want_none (y_sliceS (l' := 0) (h' := (listL x i).length) Try.underlying39 Try.sizeOf3 rfl rfl rfl ⟨rfl, _, _, rfl, rfl⟩ (by omega) (by omega)) rfl ?_
    refine w_pure want_none (y_assign (v := .slice _ _ _) rfl rfl) rfl ?_
    refine w_nil ?_
    refine q_then (hK34 _ _ ?_)
    refine w_ret ?_
    refine q_ret (l := [.tmp 4]) (vs := [_]) rfl ⟨⟨rfl, show _ = (.slice _ _ _ : Value) from rfl⟩, trivial⟩ ?_
    have hin : i = n := by omega
    subst hin
    exact ⟨[_], _, _, rfl, listL_slc (L := [_]) rfl, hs⟩

theorem c112 {w0 w : World} {F : List (Nat × Obj)} (x : Int) (hs : St w0 w F) :
  Con Try.prog 112 [.int .i64 x] w fun v w' => v = .bool false ∧ St w0 w' F := by
  refine con_of_wc (n := 6) Try.func112 rfl rfl (Nat.le_of_ble_eq_true rfl) ?_
  refine w_seq (fun K2 hK1 => ?_)
  refine w_region ?_
  refine w_pure want_none (y_assign (v := _) rfl rfl) rfl ?_
  refine w_nil ?_
  refine q_then (hK1 _ _ ?_)
  refine w_seq (fun K4 hK3 => ?_)
  refine w_region ?_
  refine w_pure want_none (y_move (v := .int _ _) rfl rfl) rfl ?_
  refine w_pure want_none (y_move (v := .int _ _) rfl rfl) rfl ?_
  refine w_pure want_none (y_neq rfl rfl rfl rfl) rfl ?_
  refine w_pure want_none (y_assign (v := .bool _) rfl rfl) rfl ?_
  refine w_nil ?_
  refine q_then (hK3 _ _ ?_)
  refine w_ret ?_
  refine q_ret (l := [.tmp 2]) (vs := [_]) rfl ⟨⟨rfl, show _ = (.bool _ : Value) from rfl⟩, trivial⟩ ?_
  exact ⟨by simp [retV], hs⟩

theorem c111 {w0 w : World} {F : List (Nat × Obj)} (a b : Int) (hs : St w0 w F) :
  Con Try.prog 111 [.int .i64 a, .int .i64 b] w fun v w' => v = .int .i64 (cmpI a b) ∧ St w0 w' F := by
  refine con_of_wc (n := 20) Try.func111 rfl rfl (Nat.le_of_ble_eq_true rfl) ?_
  refine w_seq (fun K2 hK1 => ?_)
  refine w_region ?_
  refine w_pure want_none (y_assign (v := _) rfl rfl) rfl ?_
  refine w_nil ?_
  refine q_then (hK1 _ _ ?_)
  refine w_seq (fun K4 hK3 => ?_)
  refine w_region ?_
  refine w_pure want_none (y_move (v := .int _ _) rfl rfl) rfl ?_
  refine w_call want_none Try.call112 rfl rfl rfl rfl (c112 _ hs) ?_
  rintro _ w6 ⟨rfl, hs7⟩
  refine w_pure want_none (y_assign (v := .bool _) rfl rfl) rfl ?_
  refine w_nil ?_
  refine q_then (hK3 _ _ ?_)
  refine w_seq (fun K9 hK8 => ?_)
  refine w_region ?_
  refine w_pure want_none (y_move (v := .int _ _) rfl rfl) rfl ?_
  refine w_call want_none Try.call112 rfl rfl rfl rfl (c112 _ hs7) ?_
  rintro _ w11 ⟨rfl, hs12⟩
  refine w_pure want_none (y_assign (v := .bool _) rfl rfl) rfl ?_
  refine w_nil ?_
  refine q_then (hK8 _ _ ?_)
  refine w_seq (fun K14 hK13 => ?_)
  refine w_seq (fun K16 hK15 => ?_)
  refine w_region ?_
  refine w_pure want_none (y_move (v := .bool _) rfl rfl) rfl ?_
  refine w_nil ?_
  refine q_then (hK15 _ _ ?_)
  refine w_condF rfl rfl ?_
  refine w_skip ?_
  refine q_then (hK13 _ _ ?_)
  refine w_seq (fun K18 hK17 => ?_)
  refine w_seq (fun K20 hK19 => ?_)
  refine w_region ?_
  refine w_pure want_none (y_move (v := .bool _) rfl rfl) rfl ?_
  refine w_nil ?_
  refine q_then (hK19 _ _ ?_)
  refine w_condF rfl rfl ?_
  refine w_skip ?_
  refine q_then (hK17 _ _ ?_)
  refine w_seq (fun K22 hK21 => ?_)
  refine w_seq (fun K24 hK23 => ?_)
  refine w_region ?_
  refine w_pure want_none (y_move (v := .int _ _) rfl rfl) rfl ?_
  refine w_pure want_none (y_move (v := .int _ _) rfl rfl) rfl ?_
  refine w_pure want_none (y_lss rfl rfl rfl rfl) rfl ?_
  refine w_nil ?_
  refine q_then (hK23 _ _ ?_)
  refine w_cond rfl rfl (fun h25 => ?_) (fun h25 => ?_)
  ·
   try simp only [Bool.not_eq_true', Bool.not_eq_false', decide_eq_true_eq, decide_eq_false_iff_not, Int.not_lt, Int.not_le] at h25
   refine w_seq (fun K27 hK26 => ?_)
   refine w_region ?_
   refine w_pure want_none (y_assign (v := _) rfl rfl) rfl ?_
   refine w_nil ?_
   refine q_then (hK26 _ _ ?_)
   refine w_ret ?_
   refine q_then_ret ?_
   refine q_ret (l := [.tmp 4]) (vs := [_]) rfl ⟨⟨rfl, show _ = (.int _ _ : Value) from rfl⟩, trivial⟩ ?_
   exact ⟨congrArg (Value.int .i64) (by unfold cmpI; (repeat' split) <;> first | rfl | omega), hs12⟩
  ·
   try simp only [Bool.not_eq_true', Bool.not_eq_false', decide_eq_true_eq, decide_eq_false_iff_not, Int.not_lt, Int.not_le] at h25
   refine w_skip ?_
   refine q_then (hK21 _ _ ?_)
   refine w_seq (fun K29 hK28 => ?_)
   refine w_seq (fun K31 hK30 => ?_)
   refine w_region ?_
   refine w_pure want_none (y_move (v := .int _ _) rfl rfl) rfl ?_
   refine w_pure want_none (y_move (v := .int _ _) rfl rfl) rfl ?_
   refine w_pure want_none (y_gtr rfl rfl rfl rfl) rfl ?_
   refine w_nil ?_
   refine q_then (hK30 _ _ ?_)
   refine w_cond rfl rfl (fun h32 => ?_) (fun h32 => ?_)
   ·
    try simp only [Bool.not_eq_true', Bool.not_eq_false', decide_eq_true_eq, decide_eq_false_iff_not, Int.not_lt, Int.not_le] at h32
    refine w_seq (fun K34 hK33 => ?_)
    refine w_region ?_
    refine w_pure want_none (y_assign (v := _) rfl rfl) rfl ?_
    refine w_nil ?_
    refine q_then (hK33 _ _ ?_)
    refine w_ret ?_
    refine q_then_ret ?_
    refine q_ret (l := [.tmp 4]) (vs := [_]) rfl ⟨⟨rfl, show _ = (.int _ _ : Value) from rfl⟩, trivial⟩ ?_
    exact ⟨congrArg (Value.int .i64) (by unfold cmpI; (repeat' split) <;> first | rfl | omega), hs12⟩
   ·
    try simp only [Bool.not_eq_true', Bool.not_eq_false', decide_eq_true_eq, decide_eq_false_iff_not, Int.not_lt, Int.not_le] at h32
    refine w_skip ?_
    refine q_then (hK28 _ _ ?_)
    refine w_seq (fun K36 hK35 => ?_)
    refine w_region ?_
    refine w_pure want_none (y_assign (v := _) rfl rfl) rfl ?_
    refine w_nil ?_
    refine q_then (hK35 _ _ ?_)
    refine w_ret ?_
    refine q_ret (l := [.tmp 4]) (vs := [_]) rfl ⟨⟨rfl, show _ = (.int _ _ : Value) from rfl⟩, trivial⟩ ?_
    exact ⟨congrArg (Value.int .i64) (by unfold cmpI; (repeat' split) <;> first | rfl | omega), hs12⟩

theorem c105 {w0 w : World} {F : List (Nat × Obj)} (aa ab : Option Addr) (a b : List Int) (ca cb : Nat) (hla : a.length ≤ 9223372036854775807) (hlb : b.length ≤ 9223372036854775807) (ha : Sl w0 F aa 1 (a.map fun x => [Value.int .i64 x])) (hb : Sl w0 F ab 1 (b.map fun x => [Value.int .i64 x])) (hs : St w0 w F) :
  Con Try.prog 105 [.slice aa a.length ca, .slice ab b.length cb] w fun v w' => (∃ z, v = .int .i64 z ∧ decide (0 < z) = less b a) ∧ St w0 w' F := by
  refine con_of_wc (n := 36) Try.func105 rfl rfl (Nat.le_of_ble_eq_true rfl) ?_
  refine w_seq (fun K2 hK1 => ?_)
  refine w_region ?_
  refine w_pure want_none (y_assign (v := _) rfl rfl) rfl ?_
  refine w_nil ?_
  refine q_then (hK1 _ _ ?_)
  refine w_seq (fun K4 hK3 => ?_)
  refine w_seq (fun K6 hK5 => ?_)
  refine w_region ?_
  refine w_pure want_none (y_move (v := .slice _ _ _) rfl rfl) rfl ?_
  refine w_pure want_none (y_lenS Try.underlying39 rfl rfl) rfl ?_
  refine w_pure want_none (y_move (v := _) rfl rfl) rfl ?_
  refine w_nil ?_
  refine q_then (hK5 _ _ ?_)
  refine w_block ?_
  refine w_loop [4, 5, 6, 7, 8, 11, 12, 13, 14, 15, 16, 17, 18, 19, 20, 21, 22, 23, 24, 25, 26, 27, 28, 29, 30] [11] (fun k vs w => ∃ i : Nat, vs = [.int .i64 i] ∧ i ≤ a.length ∧ i ≤ b.length ∧ k = a.length - i ∧ a.take i = b.take i ∧ St w0 w F) (a.length) ?_ ?_
  ·
   exact ⟨0, rfl, by omega, by omega, by omega, rfl, hs⟩
  ·
   intro k vs μ w9 hI K8 hN7
   obtain ⟨i, rfl, hia, hib, rfl, hpre, hs⟩ := hI
   refine w_seq (fun K11 hK10 => ?_)
   refine w_region ?_
   refine w_pure want_none (y_lss rfl rfl rfl rfl) rfl ?_
   refine w_nil ?_
   refine q_then (hK10 _ _ ?_)
   refine w_seq (fun K13 hK12 => ?_)
   refine w_cond rfl rfl (fun h14 => ?_) (fun h14 => ?_)
   ·
    try simp only [Bool.not_eq_true', Bool.not_eq_false', decide_eq_true_eq, decide_eq_false_iff_not, Int.not_lt, Int.not_le] at h14
    refine w_skip ?_
    refine q_then (hK12 _ _ ?_)
    refine w_seq (fun K16 hK15 => ?_)
    refine w_block ?_
    refine w_seq (fun K18 hK17 => ?_)
    have hia2 : i < a.length := by omega
    obtain ⟨ba, oa, rfl, hxa⟩ := sl_ints ha hia2
    refine w_region ?_
    refine w_pure want_none (y_move (v := .int _ _) rfl rfl) rfl ?_
    refine w_pure want_none (y_indexS Try.underlying39 Try.sizeOf3 rfl rfl rfl rfl (i := _) rfl (by omega)) rfl ?_
    refine w_pure want_none (y_load1 Try.isAgg3 hs rfl rfl hxa) rfl ?_
    refine w_pure want_none (y_assign (v := .int _ _) rfl rfl) rfl ?_
    refine w_pure want_none (y_assign (v := .int _ _) rfl rfl) rfl ?_
    refine w_nil ?_
    refine q_then (hK17 _ _ ?_)
    refine w_seq (fun K20 hK19 => ?_)
    refine w_seq (fun K22 hK21 => ?_)
    refine w_region ?_
    refine w_pure want_none (y_move (v := .int _ _) rfl rfl) rfl ?_
    refine w_pure want_none (y_move (v := .slice _ _ _) rfl rfl) rfl ?_
    refine w_pure want_none (y_lenS Try.underlying39 rfl rfl) rfl ?_
    refine w_pure want_none (y_geq rfl rfl rfl rfl) rfl ?_
    refine w_nil ?_
    refine q_then (hK21 _ _ ?_)
    refine w_cond rfl rfl (fun h23 => ?_) (fun h23 => ?_)
    ·
     try simp only [Bool.not_eq_true', Bool.not_eq_false', decide_eq_true_eq, decide_eq_false_iff_not, Int.not_lt, Int.not_le] at h23
     refine w_seq (fun K25 hK24 => ?_)
     refine w_region ?_
     refine w_pure want_none (y_assign (v := _) rfl rfl) rfl ?_
     refine w_nil ?_
     refine q_then (hK24 _ _ ?_)
     refine w_ret ?_
     refine q_then_ret ?_
     refine q_blk_ret ?_
     refine q_then_ret ?_
     refine q_then_ret ?_
     refine q_blk_ret ?_
     refine q_then_ret ?_
     refine q_ret (l := [.tmp 4]) (vs := [_]) rfl ⟨⟨rfl, show _ = (.int _ _ : Value) from rfl⟩, trivial⟩ ?_
     first
       | exact ⟨⟨_, rfl, cmp_here hpre hia2 hib2 (by assumption)⟩, hs⟩
       | exact ⟨⟨_, rfl, by rw [less_short hpre.symm (by omega) (by omega)]; rfl⟩, hs⟩
       | exact ⟨⟨_, rfl, by rw [less_end hpre.symm hib (by omega)]; rfl⟩, hs⟩
    ·
     try simp only [Bool.not_eq_true', Bool.not_eq_false', decide_eq_true_eq, decide_eq_false_iff_not, Int.not_lt, Int.not_le] at h23
     refine w_skip ?_
     refine q_then (hK19 _ _ ?_)
     refine w_seq (fun K27 hK26 => ?_)
     have hib2 : i < b.length := by omega
     obtain ⟨bb, ob, rfl, hxb⟩ := sl_ints hb hib2
     refine w_region ?_
     refine w_pure want_none (y_move (v := .slice _ _ _) rfl rfl) rfl ?_
     refine w_pure want_none (y_move (v := .int _ _) rfl rfl) rfl ?_
     refine w_pure want_none (y_indexS Try.underlying39 Try.sizeOf3 rfl rfl rfl rfl (i := _) rfl (by omega)) rfl ?_
     refine w_pure want_none (y_load1 Try.isAgg3 hs rfl rfl hxb) rfl ?_
     refine w_pure want_none (y_assign (v := .int _ _) rfl rfl) rfl ?_
     refine w_nil ?_
     refine q_then (hK26 _ _ ?_)
     refine w_seq (fun K29 hK28 => ?_)
     refine w_region ?_
     refine w_pure want_none (y_move (v := .int _ _) rfl rfl) rfl ?_
     refine w_pure want_none (y_move (v := .int _ _) rfl rfl) rfl ?_
     refine w_call want_none Try.call111 rfl rfl rfl rfl (c111 _ _ hs) ?_
     rintro _ w31 ⟨rfl, hs32⟩
     refine w_pure want_none (y_assign (v := .int _ _) rfl rfl) rfl ?_
     refine w_nil ?_
     refine q_then (hK28 _ _ ?_)
     refine w_seq (fun K34 hK33 => ?_)
     refine w_region ?_
     refine w_pure want_none (y_move (v := .int _ _) rfl rfl) rfl ?_
     refine w_pure want_none (y_neq rfl rfl rfl rfl) rfl ?_
     refine w_nil ?_
     refine q_then (hK33 _ _ ?_)
     refine w_cond rfl rfl (fun h35 => ?_) (fun h35 => ?_)
     ·
      try simp only [Bool.not_eq_true', Bool.not_eq_false', decide_eq_true_eq, decide_eq_false_iff_not, Int.not_lt, Int.not_le] at h35
      refine w_seq (fun K37 hK36 => ?_)
      refine w_region ?_
      refine w_pure want_none (y_move (v := .int _ _) rfl rfl) rfl ?_
      refine w_pure want_none (y_assign (v := .int _ _) rfl rfl) rfl ?_
      refine w_nil ?_
      refine q_then (hK36 _ _ ?_)
      refine w_ret ?_
      refine q_blk_ret ?_
      refine q_then_ret ?_
      refine q_then_ret ?_
      refine q_blk_ret ?_
      refine q_then_ret ?_
      refine q_ret (l := [.tmp 4]) (vs := [_]) rfl ⟨⟨rfl, show _ = (.int _ _ : Value) from rfl⟩, trivial⟩ ?_
      first
        | exact ⟨⟨_, rfl, cmp_here hpre hia2 hib2 (by assumption)⟩, hs32⟩
        | exact ⟨⟨_, rfl, by rw [less_short hpre.symm (by omega) (by omega)]; rfl⟩, hs32⟩
        | exact ⟨⟨_, rfl, by rw [less_end hpre.symm hib (by omega)]; rfl⟩, hs32⟩
     ·
      try simp only [Bool.not_eq_true', Bool.not_eq_false', decide_eq_true_eq, decide_eq_false_iff_not, Int.not_lt, Int.not_le] at h35
      refine w_skip ?_
      refine q_blk_normal ?_
      refine q_then (hK15 _ _ ?_)
      refine w_region ?_
      refine w_pure want_none (y_add rfl rfl rfl rfl (by omega) (by omega)) rfl ?_
      refine w_pure want_none (y_move (v := .int _ _) rfl rfl) rfl ?_
      refine w_nil ?_
      refine q_then (hN7 _ _ (Nx.intro (a.length - (i + 1)) (by omega) (by repeat (first | exact agree_mix | refine agree_upd rfl ?_ | refine agree_updL rfl ?_ _ | refine agree_mixin rfl ?_)) ?_))
      exact ⟨i + 1, rfl, by omega, by omega, rfl, take_snoc_eq hpre (by omega) (by omega) (cmp_zero (by assumption)), hs32⟩
   ·
    try simp only [Bool.not_eq_true', Bool.not_eq_false', decide_eq_true_eq, decide_eq_false_iff_not, Int.not_lt, Int.not_le] at h14
    refine w_exit ?_
    refine q_then_exit ?_
    refine q_then_exit ?_
    refine q_blk_this ?_
    refine q_then (hK3 _ _ ?_)
    refine w_seq (fun K39 hK38 => ?_)
    refine w_seq (fun K41 hK40 => ?_)
    refine w_region ?_
    refine w_pure want_none (y_move (v := .slice _ _ _) rfl rfl) rfl ?_
    refine w_pure want_none (y_lenS Try.underlying39 rfl rfl) rfl ?_
    refine w_pure want_none (y_move (v := .slice _ _ _) rfl rfl) rfl ?_
    refine w_pure want_none (y_lenS Try.underlying39 rfl rfl) rfl ?_
    refine w_pure want_none (y_lss rfl rfl rfl rfl) rfl ?_
    refine w_nil ?_
    refine q_then (hK40 _ _ ?_)
    refine w_cond rfl rfl (fun h42 => ?_) (fun h42 => ?_)
    ·
     try simp only [Bool.not_eq_true', Bool.not_eq_false', decide_eq_true_eq, decide_eq_false_iff_not, Int.not_lt, Int.not_le] at h42
     refine w_seq (fun K44 hK43 => ?_)
     refine w_region ?_
     refine w_pure want_none (y_assign (v := _) rfl rfl) rfl ?_
     refine w_nil ?_
     refine q_then (hK43 _ _ ?_)
     refine w_ret ?_
     refine q_then_ret ?_
     refine q_ret (l := [.tmp 4]) (vs := [_]) rfl ⟨⟨rfl, show _ = (.int _ _ : Value) from rfl⟩, trivial⟩ ?_
     first
       | exact ⟨⟨_, rfl, cmp_here hpre hia2 hib2 (by assumption)⟩, hs⟩
       | exact ⟨⟨_, rfl, by rw [less_short hpre.symm (by omega) (by omega)]; rfl⟩, hs⟩
       | exact ⟨⟨_, rfl, by rw [less_end hpre.symm hib (by omega)]; rfl⟩, hs⟩
    ·
     try simp only [Bool.not_eq_true', Bool.not_eq_false', decide_eq_true_eq, decide_eq_false_iff_not, Int.not_lt, Int.not_le] at h42
     refine w_skip ?_
     refine q_then (hK38 _ _ ?_)
     refine w_seq (fun K46 hK45 => ?_)
     refine w_region ?_
     refine w_pure want_none (y_assign (v := _) rfl rfl) rfl ?_
     refine w_nil ?_
     refine q_then (hK45 _ _ ?_)
     refine w_ret ?_
     refine q_ret (l := [.tmp 4]) (vs := [_]) rfl ⟨⟨rfl, show _ = (.int _ _ : Value) from rfl⟩, trivial⟩ ?_
     first
       | exact ⟨⟨_, rfl, cmp_here hpre hia2 hib2 (by assumption)⟩, hs⟩
       | exact ⟨⟨_, rfl, by rw [less_short hpre.symm (by omega) (by omega)]; rfl⟩, hs⟩
       | exact ⟨⟨_, rfl, by rw [less_end hpre.symm hib (by omega)]; rfl⟩, hs⟩

theorem c78 {w0 w : World} {M F : List (Nat × Obj)} (n : Nat) (hn : n ≤ 8) (fv : Value) (d : Nat → Bool) (I : List (Nat × Obj) → Prop) (hd : ∀ (s : Nat) (M X : List (Nat × Obj)) (w : World), s < 1 <<< n → I M → St w0 w (X ++ (M ++ F)) → FCon Try.prog fv [.int .i64 (s : Int)] w fun v w' => v = .bool (d s) ∧ ∃ M', I M' ∧ St w0 w' (X ++ (M' ++ F))) (hI0 : I M) (hs : St w0 w (M ++ F)) :
  Con Try.prog 78 [.int .i64 (n : Int), fv] w fun v w' => ∃ B M' a c, v = .slice a (fewest d n).1.length c ∧ Sl w0 B a 1 ((fewest d n).1.map fun x => [Value.int .i64 x]) ∧ I M' ∧ St w0 w' (B ++ (M' ++ F)) := by
  refine con_of_wc (n := 43) Try.func78 rfl rfl (Nat.le_of_ble_eq_true rfl) ?_
  have hsh := shl_256 hn
  refine w_seq (fun K2 hK1 => ?_)
  refine w_region ?_
  refine w_pure want_none (y_assign (v := _) rfl rfl) rfl ?_
  refine w_nil ?_
  refine q_then (hK1 _ _ ?_)
  refine w_seq (fun K4 hK3 => ?_)
  refine w_region ?_
  refine w_pure want_none (y_assign (v := _) rfl rfl) rfl ?_
  refine w_nil ?_
  refine q_then (hK3 _ _ ?_)
  refine w_seq (fun K6 hK5 => ?_)
  refine w_seq (fun K8 hK7 => ?_)
  refine w_region ?_
  refine w_pure want_none (y_move (v := .int _ _) rfl rfl) rfl ?_
  refine w_pure want_none (y_shl (x := 1) (y := n) rfl rfl rfl rfl rfl (by first | rfl | omega) (by first | omega | exact shr_lt (by omega)) (by first | omega | exact shr_lt (by omega))) rfl ?_
  refine w_pure want_none (y_move (v := _) rfl rfl) rfl ?_
  refine w_nil ?_
  refine q_then (hK7 _ _ ?_)
  refine w_block ?_
  refine w_loop [4, 5, 6, 7, 10, 11, 12, 13, 14, 15, 16, 17, 18, 19, 20, 21, 22, 23, 24, 25, 26, 27, 28, 29, 30, 31, 32, 33, 34, 35, 36, 37, 38, 39, 40, 41] [4, 5, 10] (fun k vs w => ∃ (s : Nat) (av : Option Addr) (cv : Nat) (B M : List (Nat × Obj)), vs = [.slice av (fewTo d n s).1.length cv, .bool (fewTo d n s).2, .int .i64 s] ∧ s ≤ 1 <<< n ∧ k = (1 <<< n) - s ∧ Sl w0 B av 1 ((fewTo d n s).1.map fun x => [Value.int .i64 x]) ∧ I M ∧ St w0 w (B ++ (M ++ F))) (1 <<< n) ?_ ?_
  ·
   exact ⟨0, _, _, [], M, rfl, by omega, by omega, Sl.nil _ _, hI0, hs⟩
  ·
   intro k vs μ w11 hI K10 hN9
   clear hs
   obtain ⟨s, av, cv, B, M, rfl, hba, rfl, hslv, hIM, hs⟩ := hI
   generalize hfd : (fewTo d n s).2 = fd
   refine w_seq (fun K13 hK12 => ?_)
   refine w_region ?_
   refine w_pure want_none (y_lss rfl rfl rfl rfl) rfl ?_
   refine w_nil ?_
   refine q_then (hK12 _ _ ?_)
   refine w_seq (fun K15 hK14 => ?_)
   refine w_cond rfl rfl (fun h16 => ?_) (fun h16 => ?_)
   ·
    try simp only [Bool.not_eq_true', Bool.not_eq_false', decide_eq_true_eq, decide_eq_false_iff_not, Int.not_lt, Int.not_le] at h16
    refine w_skip ?_
    refine q_then (hK14 _ _ ?_)
    refine w_seq (fun K18 hK17 => ?_)
    refine w_block ?_
    refine w_seq (fun K20 hK19 => ?_)
    refine w_region ?_
    refine w_pure want_none (y_move (v := .int _ _) rfl rfl) rfl ?_
    refine w_pure want_none (y_assign (v := .int _ _) rfl rfl) rfl ?_
    refine w_nil ?_
    refine q_then (hK19 _ _ ?_)
    refine w_seq (fun K22 hK21 => ?_)
    refine w_region ?_
    refine w_pure want_none (y_move (v := .int _ _) rfl rfl) rfl ?_
    refine w_pure want_none (y_move (v := .int _ _) rfl rfl) rfl ?_
    refine w_call want_none Try.call104 rfl rfl rfl rfl (c104 _ _ (by omega) (by omega) hs) ?_
    rintro _ w24 ⟨B1, a1, c1, rfl, hsl1, hs25⟩
    replace hs25 := (show St _ _ (B1 ++ (B ++ (M ++ (F)))) from hs25)
    have hle1 := listL_le s n
    have hle2 := few_len d n s
    refine w_pure want_none (y_assign (v := .slice _ _ _) rfl rfl) rfl ?_
    refine w_nil ?_
    refine q_then (hK21 _ _ ?_)
    refine w_seq (fun K27 hK26 => ?_)
    refine w_seq (fun K29 hK28 => ?_)
    refine w_region ?_
    refine w_pure want_none (y_move (v := .bool _) rfl rfl) rfl ?_
    refine w_pure want_none (y_move (v := .bool _) rfl rfl) rfl ?_
    refine w_split (fun h30 => ?_) (fun h30 => ?_)
    ·
     subst h30
     refine w_pure (want_yes rfl rfl rfl) (y_move (v := .slice _ _ _) rfl rfl) rfl ?_
     refine w_pure (want_yes rfl rfl rfl) (y_lenS Try.underlying39 rfl rfl) rfl ?_
     refine w_pure (want_yes rfl rfl rfl) (y_move (v := .slice _ _ _) rfl rfl) rfl ?_
     refine w_pure (want_yes rfl rfl rfl) (y_lenS Try.underlying39 rfl rfl) rfl ?_
     refine w_pure (want_yes rfl rfl rfl) (y_gtr rfl rfl rfl rfl) rfl ?_
     refine w_pure (want_yes rfl rfl rfl) (y_move (v := .bool _) rfl rfl) rfl ?_
     refine w_split (fun h31 => ?_) (fun h31 => ?_)
     ·
      try simp only [Bool.not_eq_true', Bool.not_eq_false', decide_eq_true_eq, decide_eq_false_iff_not, Int.not_lt, Int.not_le] at h31
      refine w_skipop rfl rfl rfl ?_
      refine w_skipop rfl rfl rfl ?_
      refine w_skipop rfl rfl rfl ?_
      refine w_skipop rfl rfl rfl ?_
      refine w_skipop rfl rfl rfl ?_
      refine w_skipop rfl rfl rfl ?_
      refine w_skipop' rfl rfl rfl ?_
      refine w_skipop' rfl rfl rfl ?_
      refine w_skipop' rfl rfl rfl ?_
      refine w_skipop' rfl rfl rfl ?_
      refine w_skipop rfl rfl rfl ?_
      refine w_pure (want_yes rfl rfl rfl) (y_pickT (v := _) rfl rfl rfl rfl) rfl ?_
      refine w_pure want_none (y_pickT (v := .bool _) rfl rfl rfl rfl) rfl ?_
      refine w_nil ?_
      refine q_then (hK28 _ _ ?_)
      refine w_condT rfl rfl ?_
      refine w_exit ?_
      refine q_then_exit ?_
      refine q_blk_this ?_
      refine q_then (hK17 _ _ ?_)
      refine w_region ?_
      refine w_pure want_none (y_add rfl rfl rfl rfl (by omega) (by omega)) rfl ?_
      refine w_pure want_none (y_move (v := .int _ _) rfl rfl) rfl ?_
      refine w_nil ?_
      refine q_then (hN9 _ _ (Nx.intro ((1 <<< n) - (s + 1)) (by omega) (by repeat (first | exact agree_mix | refine agree_upd rfl ?_ | refine agree_updL rfl ?_ _ | refine agree_mixin rfl ?_)) ?_))
      first
        | (have hq := few_skip hfd (by unfold before; simp; omega)
           exact ⟨s + 1, av, cv, B1 ++ B, M, few_vals (by rw [hq] <;> rfl) (by rw [hq, hfd] <;> rfl) rfl, by omega, rfl, by rw [hq]; exact hslv.app, hIM, (by rw [List.append_assoc]; exact hs25)⟩)
        | (have hq := few_skip hfd (by unfold before; rw [Bool.or_eq_true, Bool.and_eq_true]; exact .inr ⟨by simp; omega, by rw [← hz]; simp; omega⟩)
           exact ⟨s + 1, av, cv, B1 ++ B, M, few_vals (by rw [hq] <;> rfl) (by rw [hq, hfd] <;> rfl) rfl, by omega, rfl, by rw [hq]; exact hslv.app, hIM, (by rw [List.append_assoc]; exact hs25)⟩)
        | (have hq := few_yes (d := d) (n := n) (s := s) (by first | exact .inl hfd | exact .inr (before_no (by omega) (by omega)) | exact .inr (before_no (by omega) (fun e => by rw [← hz]; exact decide_eq_false (by omega)))) (by assumption)
           exact ⟨s + 1, a1, c1, B1 ++ B, M2, few_vals (by rw [hq] <;> rfl) (by rw [hq] <;> rfl) rfl, by omega, rfl, by rw [hq]; exact hsl1.top, hIM2, (by rw [List.append_assoc]; exact hs25)⟩)
        | (have hq := few_no (d := d) (n := n) (s := s) (by first | exact .inl hfd | exact .inr (before_no (by omega) (by omega)) | exact .inr (before_no (by omega) (fun e => by rw [← hz]; exact decide_eq_false (by omega)))) (by assumption)
           exact ⟨s + 1, av, cv, B1 ++ B, M2, few_vals (by rw [hq] <;> rfl) (by rw [hq, hfd] <;> rfl) rfl, by omega, rfl, by rw [hq]; exact hslv.app, hIM2, (by rw [List.append_assoc]; exact hs25)⟩)
     ·
      try simp only [Bool.not_eq_true', Bool.not_eq_false', decide_eq_true_eq, decide_eq_false_iff_not, Int.not_lt, Int.not_le] at h31
      refine w_pure (want_yes rfl rfl rfl) (y_move (v := .slice _ _ _) rfl rfl) rfl ?_
      refine w_pure (want_yes rfl rfl rfl) (y_lenS Try.underlying39 rfl rfl) rfl ?_
      refine w_pure (want_yes rfl rfl rfl) (y_move (v := .slice _ _ _) rfl rfl) rfl ?_
      refine w_pure (want_yes rfl rfl rfl) (y_lenS Try.underlying39 rfl rfl) rfl ?_
      refine w_pure (want_yes rfl rfl rfl) (y_eql rfl rfl rfl rfl) rfl ?_
      refine w_pure (want_yes rfl rfl rfl) (y_move (v := .bool _) rfl rfl) rfl ?_
      refine w_split (fun h32 => ?_) (fun h32 => ?_)
      ·
       try simp only [Bool.not_eq_true', Bool.not_eq_false', decide_eq_true_eq, decide_eq_false_iff_not, Int.not_lt, Int.not_le] at h32
       refine w_pure (want_yes rfl rfl rfl) (y_move (v := .slice _ _ _) rfl rfl) rfl ?_
       refine w_pure (want_yes rfl rfl rfl) (y_move (v := .slice _ _ _) rfl rfl) rfl ?_
       refine w_call (want_yes rfl rfl rfl) Try.call105 rfl rfl rfl rfl (c105 _ _ _ _ _ _ (by omega) (by omega) hsl1.top hslv.top.app hs25) ?_
       rintro _ w34 ⟨⟨z, rfl, hz⟩, hs35⟩
       refine w_pure (want_yes rfl rfl rfl) (y_gtr rfl rfl rfl rfl) rfl ?_
       refine w_pure (want_yes rfl rfl rfl) (y_pickT (v := .bool _) rfl rfl rfl rfl) rfl ?_
       refine w_pure (want_yes rfl rfl rfl) (y_pickF (v := .bool _) rfl rfl rfl rfl) rfl ?_
       refine w_pure want_none (y_pickT (v := .bool _) rfl rfl rfl rfl) rfl ?_
       refine w_nil ?_
       refine q_then (hK28 _ _ ?_)
       refine w_cond rfl rfl (fun h36 => ?_) (fun h36 => ?_)
       ·
        try simp only [Bool.not_eq_true', Bool.not_eq_false', decide_eq_true_eq, decide_eq_false_iff_not, Int.not_lt, Int.not_le] at h36
        refine w_exit ?_
        refine q_then_exit ?_
        refine q_blk_this ?_
        refine q_then (hK17 _ _ ?_)
        refine w_region ?_
        refine w_pure want_none (y_add rfl rfl rfl rfl (by omega) (by omega)) rfl ?_
        refine w_pure want_none (y_move (v := .int _ _) rfl rfl) rfl ?_
        refine w_nil ?_
        refine q_then (hN9 _ _ (Nx.intro ((1 <<< n) - (s + 1)) (by omega) (by repeat (first | exact agree_mix | refine agree_upd rfl ?_ | refine agree_updL rfl ?_ _ | refine agree_mixin rfl ?_)) ?_))
        first
          | (have hq := few_skip hfd (by unfold before; simp; omega)
             exact ⟨s + 1, av, cv, B1 ++ B, M, few_vals (by rw [hq] <;> rfl) (by rw [hq, hfd] <;> rfl) rfl, by omega, rfl, by rw [hq]; exact hslv.app, hIM, (by rw [List.append_assoc]; exact hs35)⟩)
          | (have hq := few_skip hfd (by unfold before; rw [Bool.or_eq_true, Bool.and_eq_true]; exact .inr ⟨by simp; omega, by rw [← hz]; simp; omega⟩)
             exact ⟨s + 1, av, cv, B1 ++ B, M, few_vals (by rw [hq] <;> rfl) (by rw [hq, hfd] <;> rfl) rfl, by omega, rfl, by rw [hq]; exact hslv.app, hIM, (by rw [List.append_assoc]; exact hs35)⟩)
          | (have hq := few_yes (d := d) (n := n) (s := s) (by first | exact .inl hfd | exact .inr (before_no (by omega) (by omega)) | exact .inr (before_no (by omega) (fun e => by rw [← hz]; exact decide_eq_false (by omega)))) (by assumption)
             exact ⟨s + 1, a1, c1, B1 ++ B, M2, few_vals (by rw [hq] <;> rfl) (by rw [hq] <;> rfl) rfl, by omega, rfl, by rw [hq]; exact hsl1.top, hIM2, (by rw [List.append_assoc]; exact hs35)⟩)
          | (have hq := few_no (d := d) (n := n) (s := s) (by first | exact .inl hfd | exact .inr (before_no (by omega) (by omega)) | exact .inr (before_no (by omega) (fun e => by rw [← hz]; exact decide_eq_false (by omega)))) (by assumption)
             exact ⟨s + 1, av, cv, B1 ++ B, M2, few_vals (by rw [hq] <;> rfl) (by rw [hq, hfd] <;> rfl) rfl, by omega, rfl, by rw [hq]; exact hslv.app, hIM2, (by rw [List.append_assoc]; exact hs35)⟩)
       ·
        try simp only [Bool.not_eq_true', Bool.not_eq_false', decide_eq_true_eq, decide_eq_false_iff_not, Int.not_lt, Int.not_le] at h36
        refine w_skip ?_
        refine q_then (hK26 _ _ ?_)
        refine w_seq (fun K38 hK37 => ?_)
        refine w_region ?_
        refine w_pure want_none (y_move (v := fv) rfl rfl) rfl ?_
        refine w_pure want_none (y_move (v := .int _ _) rfl rfl) rfl ?_
        refine w_callV want_none rfl rfl rfl rfl (hd s M (B1 ++ B) _ (by omega) hIM (St.cast (by simp only [List.append_assoc]) hs35)) ?_
        rintro _ w40 ⟨rfl, M2, hIM2, hs41⟩
        rw [List.append_assoc] at hs41
        refine w_nil ?_
        refine q_then (hK37 _ _ ?_)
        refine w_cond rfl rfl (fun h42 => ?_) (fun h42 => ?_)
        ·
         try simp only [Bool.not_eq_true', Bool.not_eq_false', decide_eq_true_eq, decide_eq_false_iff_not, Int.not_lt, Int.not_le] at h42
         refine w_region ?_
         refine w_pure want_none (y_move (v := .slice _ _ _) rfl rfl) rfl ?_
         refine w_pure want_none (y_assign (v := .slice _ _ _) rfl rfl) rfl ?_
         refine w_pure want_none (y_assign (v := _) rfl rfl) rfl ?_
         refine w_nil ?_
         refine q_blk_normal ?_
         refine q_then (hK17 _ _ ?_)
         refine w_region ?_
         refine w_pure want_none (y_add rfl rfl rfl rfl (by omega) (by omega)) rfl ?_
         refine w_pure want_none (y_move (v := .int _ _) rfl rfl) rfl ?_
         refine w_nil ?_
         refine q_then (hN9 _ _ (Nx.intro ((1 <<< n) - (s + 1)) (by omega) (by repeat (first | exact agree_mix | refine agree_upd rfl ?_ | refine agree_updL rfl ?_ _ | refine agree_mixin rfl ?_)) ?_))
         first
           | (have hq := few_skip hfd (by unfold before; simp; omega)
              exact ⟨s + 1, av, cv, B1 ++ B, M, few_vals (by rw [hq] <;> rfl) (by rw [hq, hfd] <;> rfl) rfl, by omega, rfl, by rw [hq]; exact hslv.app, hIM, (by rw [List.append_assoc]; exact hs41)⟩)
           | (have hq := few_skip hfd (by unfold before; rw [Bool.or_eq_true, Bool.and_eq_true]; exact .inr ⟨by simp; omega, by rw [← hz]; simp; omega⟩)
              exact ⟨s + 1, av, cv, B1 ++ B, M, few_vals (by rw [hq] <;> rfl) (by rw [hq, hfd] <;> rfl) rfl, by omega, rfl, by rw [hq]; exact hslv.app, hIM, (by rw [List.append_assoc]; exact hs41)⟩)
           | (have hq := few_yes (d := d) (n := n) (s := s) (by first | exact .inl hfd | exact .inr (before_no (by omega) (by omega)) | exact .inr (before_no (by omega) (fun e => by rw [← hz]; exact decide_eq_false (by omega)))) (by assumption)
              exact ⟨s + 1, a1, c1, B1 ++ B, M2, few_vals (by rw [hq] <;> rfl) (by rw [hq] <;> rfl) rfl, by omega, rfl, by rw [hq]; exact hsl1.top, hIM2, (by rw [List.append_assoc]; exact hs41)⟩)
           | (have hq := few_no (d := d) (n := n) (s := s) (by first | exact .inl hfd | exact .inr (before_no (by omega) (by omega)) | exact .inr (before_no (by omega) (fun e => by rw [← hz]; exact decide_eq_false (by omega)))) (by assumption)
              exact ⟨s + 1, av, cv, B1 ++ B, M2, few_vals (by rw [hq] <;> rfl) (by rw [hq, hfd] <;> rfl) rfl, by omega, rfl, by rw [hq]; exact hslv.app, hIM2, (by rw [List.append_assoc]; exact hs41)⟩)
        ·
         try simp only [Bool.not_eq_true', Bool.not_eq_false', decide_eq_true_eq, decide_eq_false_iff_not, Int.not_lt, Int.not_le] at h42
         refine w_skip ?_
         refine q_blk_normal ?_
         refine q_then (hK17 _ _ ?_)
         refine w_region ?_
         refine w_pure want_none (y_add rfl rfl rfl rfl (by omega) (by omega)) rfl ?_
         refine w_pure want_none (y_move (v := .int _ _) rfl rfl) rfl ?_
         refine w_nil ?_
         refine q_then (hN9 _ _ (Nx.intro ((1 <<< n) - (s + 1)) (by omega) (by repeat (first | exact agree_mix | refine agree_upd rfl ?_ | refine agree_updL rfl ?_ _ | refine agree_mixin rfl ?_)) ?_))
         first
           | (have hq := few_skip hfd (by unfold before; simp; omega)
              exact ⟨s + 1, av, cv, B1 ++ B, M, few_vals (by rw [hq] <;> rfl) (by rw [hq, hfd] <;> rfl) rfl, by omega, rfl, by rw [hq]; exact hslv.app, hIM, (by rw [List.append_assoc]; exact hs41)⟩)
           | (have hq := few_skip hfd (by unfold before; rw [Bool.or_eq_true, Bool.and_eq_true]; exact .inr ⟨by simp; omega, by rw [← hz]; simp; omega⟩)
              exact ⟨s + 1, av, cv, B1 ++ B, M, few_vals (by rw [hq] <;> rfl) (by rw [hq, hfd] <;> rfl) rfl, by omega, rfl, by rw [hq]; exact hslv.app, hIM, (by rw [List.append_assoc]; exact hs41)⟩)
           | (have hq := few_yes (d := d) (n := n) (s := s) (by first | exact .inl hfd | exact .inr (before_no (by omega) (by omega)) | exact .inr (before_no (by omega) (fun e => by rw [← hz]; exact decide_eq_false (by omega)))) (by assumption)
              exact ⟨s + 1, a1, c1, B1 ++ B, M2, few_vals (by rw [hq] <;> rfl) (by rw [hq] <;> rfl) rfl, by omega, rfl, by rw [hq]; exact hsl1.top, hIM2, (by rw [List.append_assoc]; exact hs41)⟩)
           | (have hq := few_no (d := d) (n := n) (s := s) (by first | exact .inl hfd | exact .inr (before_no (by omega) (by omega)) | exact .inr (before_no (by omega) (fun e => by rw [← hz]; exact decide_eq_false (by omega)))) (by assumption)
              exact ⟨s + 1, av, cv, B1 ++ B, M2, few_vals (by rw [hq] <;> rfl) (by rw [hq, hfd] <;> rfl) rfl, by omega, rfl, by rw [hq]; exact hslv.app, hIM2, (by rw [List.append_assoc]; exact hs41)⟩)
      ·
       try simp only [Bool.not_eq_true', Bool.not_eq_false', decide_eq_true_eq, decide_eq_false_iff_not, Int.not_lt, Int.not_le] at h32
       refine w_skipop rfl rfl rfl ?_
       refine w_skipop rfl rfl rfl ?_
       refine w_skipop rfl rfl rfl ?_
       refine w_skipop rfl rfl rfl ?_
       refine w_pure (want_yes rfl rfl rfl) (y_pickF (v := _) rfl rfl rfl rfl) rfl ?_
       refine w_pure (want_yes rfl rfl rfl) (y_pickF (v := .bool _) rfl rfl rfl rfl) rfl ?_
       refine w_pure want_none (y_pickT (v := .bool _) rfl rfl rfl rfl) rfl ?_
       refine w_nil ?_
       refine q_then (hK28 _ _ ?_)
       refine w_condF rfl rfl ?_
       refine w_skip ?_
       refine q_then (hK26 _ _ ?_)
       refine w_seq (fun K44 hK43 => ?_)
       refine w_region ?_
       refine w_pure want_none (y_move (v := fv) rfl rfl) rfl ?_
       refine w_pure want_none (y_move (v := .int _ _) rfl rfl) rfl ?_
       refine w_callV want_none rfl rfl rfl rfl (hd s M (B1 ++ B) _ (by omega) hIM (St.cast (by simp only [List.append_assoc]) hs25)) ?_
       rintro _ w46 ⟨rfl, M2, hIM2, hs47⟩
       rw [List.append_assoc] at hs47
       refine w_nil ?_
       refine q_then (hK43 _ _ ?_)
       refine w_cond rfl rfl (fun h48 => ?_) (fun h48 => ?_)
       ·
        try simp only [Bool.not_eq_true', Bool.not_eq_false', decide_eq_true_eq, decide_eq_false_iff_not, Int.not_lt, Int.not_le] at h48
        refine w_region ?_
        refine w_pure want_none (y_move (v := .slice _ _ _) rfl rfl) rfl ?_
        refine w_pure want_none (y_assign (v := .slice _ _ _) rfl rfl) rfl ?_
        refine w_pure want_none (y_assign (v := _) rfl rfl) rfl ?_
        refine w_nil ?_
        refine q_blk_normal ?_
        refine q_then (hK17 _ _ ?_)
        refine w_region ?_
        refine w_pure want_none (y_add rfl rfl rfl rfl (by omega) (by omega)) rfl ?_
        refine w_pure want_none (y_move (v := .int _ _) rfl rfl) rfl ?_
        refine w_nil ?_
        refine q_then (hN9 _ _ (Nx.intro ((1 <<< n) - (s + 1)) (by omega) (by repeat (first | exact agree_mix | refine agree_upd rfl ?_ | refine agree_updL rfl ?_ _ | refine agree_mixin rfl ?_)) ?_))
        first
          | (have hq := few_skip hfd (by unfold before; simp; omega)
             exact ⟨s + 1, av, cv, B1 ++ B, M, few_vals (by rw [hq] <;> rfl) (by rw [hq, hfd] <;> rfl) rfl, by omega, rfl, by rw [hq]; exact hslv.app, hIM, (by rw [List.append_assoc]; exact hs47)⟩)
          | (have hq := few_skip hfd (by unfold before; rw [Bool.or_eq_true, Bool.and_eq_true]; exact .inr ⟨by simp; omega, by rw [← hz]; simp; omega⟩)
             exact ⟨s + 1, av, cv, B1 ++ B, M, few_vals (by rw [hq] <;> rfl) (by rw [hq, hfd] <;> rfl) rfl, by omega, rfl, by rw [hq]; exact hslv.app, hIM, (by rw [List.append_assoc]; exact hs47)⟩)
          | (have hq := few_yes (d := d) (n := n) (s := s) (by first | exact .inl hfd | exact .inr (before_no (by omega) (by omega)) | exact .inr (before_no (by omega) (fun e => by rw [← hz]; exact decide_eq_false (by omega)))) (by assumption)
             exact ⟨s + 1, a1, c1, B1 ++ B, M2, few_vals (by rw [hq] <;> rfl) (by rw [hq] <;> rfl) rfl, by omega, rfl, by rw [hq]; exact hsl1.top, hIM2, (by rw [List.append_assoc]; exact hs47)⟩)
          | (have hq := few_no (d := d) (n := n) (s := s) (by first | exact .inl hfd | exact .inr (before_no (by omega) (by omega)) | exact .inr (before_no (by omega) (fun e => by rw [← hz]; exact decide_eq_false (by omega)))) (by assumption)
             exact ⟨s + 1, av, cv, B1 ++ B, M2, few_vals (by rw [hq] <;> rfl) (by rw [hq, hfd] <;> rfl) rfl, by omega, rfl, by rw [hq]; exact hslv.app, hIM2, (by rw [List.append_assoc]; exact hs47)⟩)
       ·
        try simp only [Bool.not_eq_true', Bool.not_eq_false', decide_eq_true_eq, decide_eq_false_iff_not, Int.not_lt, Int.not_le] at h48
        refine w_skip ?_
        refine q_blk_normal ?_
        refine q_then (hK17 _ _ ?_)
        refine w_region ?_
        refine w_pure want_none (y_add rfl rfl rfl rfl (by omega) (by omega)) rfl ?_
        refine w_pure want_none (y_move (v := .int _ _) rfl rfl) rfl ?_
        refine w_nil ?_
        refine q_then (hN9 _ _ (Nx.intro ((1 <<< n) - (s + 1)) (by omega) (by repeat (first | exact agree_mix | refine agree_upd rfl ?_ | refine agree_updL rfl ?_ _ | refine agree_mixin rfl ?_)) ?_))
        first
          | (have hq := few_skip hfd (by unfold before; simp; omega)
             exact ⟨s + 1, av, cv, B1 ++ B, M, few_vals (by rw [hq] <;> rfl) (by rw [hq, hfd] <;> rfl) rfl, by omega, rfl, by rw [hq]; exact hslv.app, hIM, (by rw [List.append_assoc]; exact hs47)⟩)
          | (have hq := few_skip hfd (by unfold before; rw [Bool.or_eq_true, Bool.and_eq_true]; exact .inr ⟨by simp; omega, by rw [← hz]; simp; omega⟩)
             exact ⟨s + 1, av, cv, B1 ++ B, M, few_vals (by rw [hq] <;> rfl) (by rw [hq, hfd] <;> rfl) rfl, by omega, rfl, by rw [hq]; exact hslv.app, hIM, (by rw [List.append_assoc]; exact hs47)⟩)
          | (have hq := few_yes (d := d) (n := n) (s := s) (by first | exact .inl hfd | exact .inr (before_no (by omega) (by omega)) | exact .inr (before_no (by omega) (fun e => by rw [← hz]; exact decide_eq_false (by omega)))) (by assumption)
             exact ⟨s + 1, a1, c1, B1 ++ B, M2, few_vals (by rw [hq] <;> rfl) (by rw [hq] <;> rfl) rfl, by omega, rfl, by rw [hq]; exact hsl1.top, hIM2, (by rw [List.append_assoc]; exact hs47)⟩)
          | (have hq := few_no (d := d) (n := n) (s := s) (by first | exact .inl hfd | exact .inr (before_no (by omega) (by omega)) | exact .inr (before_no (by omega) (fun e => by rw [← hz]; exact decide_eq_false (by omega)))) (by assumption)
             exact ⟨s + 1, av, cv, B1 ++ B, M2, few_vals (by rw [hq] <;> rfl) (by rw [hq, hfd] <;> rfl) rfl, by omega, rfl, by rw [hq]; exact hslv.app, hIM2, (by rw [List.append_assoc]; exact hs47)⟩)
    ·
     subst h30
     refine w_skipop rfl rfl rfl ?_
     refine w_skipop rfl rfl rfl ?_
     refine w_skipop rfl rfl rfl ?_
     refine w_skipop rfl rfl rfl ?_
     refine w_skipop rfl rfl rfl ?_
     refine w_skipop rfl rfl rfl ?_
     refine w_skipop' rfl rfl rfl ?_
     refine w_skipop' rfl rfl rfl ?_
     refine w_skipop' rfl rfl rfl ?_
     refine w_skipop' rfl rfl rfl ?_
     refine w_skipop' rfl rfl rfl ?_
     refine w_skipop' rfl rfl rfl ?_
     refine w_skipop' rfl rfl rfl ?_
     refine w_skipop' rfl rfl rfl ?_
     refine w_skipop' rfl rfl rfl ?_
     refine w_skipop' rfl rfl rfl ?_
     refine w_skipop' rfl rfl rfl ?_
     refine w_skipop rfl rfl rfl ?_
     refine w_pure want_none (y_pickF (v := _) rfl rfl rfl rfl) rfl ?_
     refine w_nil ?_
     refine q_then (hK28 _ _ ?_)
     refine w_condF rfl rfl ?_
     refine w_skip ?_
     refine q_then (hK26 _ _ ?_)
     refine w_seq (fun K50 hK49 => ?_)
     refine w_region ?_
     refine w_pure want_none (y_move (v := fv) rfl rfl) rfl ?_
     refine w_pure want_none (y_move (v := .int _ _) rfl rfl) rfl ?_
     refine w_callV want_none rfl rfl rfl rfl (hd s M (B1 ++ B) _ (by omega) hIM (St.cast (by simp only [List.append_assoc]) hs25)) ?_
     rintro _ w52 ⟨rfl, M2, hIM2, hs53⟩
     rw [List.append_assoc] at hs53
     refine w_nil ?_
     refine q_then (hK49 _ _ ?_)
     refine w_cond rfl rfl (fun h54 => ?_) (fun h54 => ?_)
     ·
      try simp only [Bool.not_eq_true', Bool.not_eq_false', decide_eq_true_eq, decide_eq_false_iff_not, Int.not_lt, Int.not_le] at h54
      refine w_region ?_
      refine w_pure want_none (y_move (v := .slice _ _ _) rfl rfl) rfl ?_
      refine w_pure want_none (y_assign (v := .slice _ _ _) rfl rfl) rfl ?_
      refine w_pure want_none (y_assign (v := _) rfl rfl) rfl ?_
      refine w_nil ?_
      refine q_blk_normal ?_
      refine q_then (hK17 _ _ ?_)
      refine w_region ?_
      refine w_pure want_none (y_add rfl rfl rfl rfl (by omega) (by omega)) rfl ?_
      refine w_pure want_none (y_move (v := .int _ _) rfl rfl) rfl ?_
      refine w_nil ?_
      refine q_then (hN9 _ _ (Nx.intro ((1 <<< n) - (s + 1)) (by omega) (by repeat (first | exact agree_mix | refine agree_upd rfl ?_ | refine agree_updL rfl ?_ _ | refine agree_mixin rfl ?_)) ?_))
      first
        | (have hq := few_skip hfd (by unfold before; simp; omega)
           exact ⟨s + 1, av, cv, B1 ++ B, M, few_vals (by rw [hq] <;> rfl) (by rw [hq, hfd] <;> rfl) rfl, by omega, rfl, by rw [hq]; exact hslv.app, hIM, (by rw [List.append_assoc]; exact hs53)⟩)
        | (have hq := few_skip hfd (by unfold before; rw [Bool.or_eq_true, Bool.and_eq_true]; exact .inr ⟨by simp; omega, by rw [← hz]; simp; omega⟩)
           exact ⟨s + 1, av, cv, B1 ++ B, M, few_vals (by rw [hq] <;> rfl) (by rw [hq, hfd] <;> rfl) rfl, by omega, rfl, by rw [hq]; exact hslv.app, hIM, (by rw [List.append_assoc]; exact hs53)⟩)
        | (have hq := few_yes (d := d) (n := n) (s := s) (by first | exact .inl hfd | exact .inr (before_no (by omega) (by omega)) | exact .inr (before_no (by omega) (fun e => by rw [← hz]; exact decide_eq_false (by omega)))) (by assumption)
           exact ⟨s + 1, a1, c1, B1 ++ B, M2, few_vals (by rw [hq] <;> rfl) (by rw [hq] <;> rfl) rfl, by omega, rfl, by rw [hq]; exact hsl1.top, hIM2, (by rw [List.append_assoc]; exact hs53)⟩)
        | (have hq := few_no (d := d) (n := n) (s := s) (by first | exact .inl hfd | exact .inr (before_no (by omega) (by omega)) | exact .inr (before_no (by omega) (fun e => by rw [← hz]; exact decide_eq_false (by omega)))) (by assumption)
           exact ⟨s + 1, av, cv, B1 ++ B, M2, few_vals (by rw [hq] <;> rfl) (by rw [hq, hfd] <;> rfl) rfl, by omega, rfl, by rw [hq]; exact hslv.app, hIM2, (by rw [List.append_assoc]; exact hs53)⟩)
     ·
      try simp only [Bool.not_eq_true', Bool.not_eq_false', decide_eq_true_eq, decide_eq_false_iff_not, Int.not_lt, Int.not_le] at h54
      refine w_skip ?_
      refine q_blk_normal ?_
      refine q_then (hK17 _ _ ?_)
      refine w_region ?_
      refine w_pure want_none (y_add rfl rfl rfl rfl (by omega) (by omega)) rfl ?_
      refine w_pure want_none (y_move (v := .int _ _) rfl rfl) rfl ?_
      refine w_nil ?_
      refine q_then (hN9 _ _ (Nx.intro ((1 <<< n) - (s + 1)) (by omega) (by repeat (first | exact agree_mix | refine agree_upd rfl ?_ | refine agree_updL rfl ?_ _ | refine agree_mixin rfl ?_)) ?_))
      first
        | (have hq := few_skip hfd (by unfold before; simp; omega)
           exact ⟨s + 1, av, cv, B1 ++ B, M, few_vals (by rw [hq] <;> rfl) (by rw [hq, hfd] <;> rfl) rfl, by omega, rfl, by rw [hq]; exact hslv.app, hIM, (by rw [List.append_assoc]; exact hs53)⟩)
        | (have hq := few_skip hfd (by unfold before; rw [Bool.or_eq_true, Bool.and_eq_true]; exact .inr ⟨by simp; omega, by rw [← hz]; simp; omega⟩)
           exact ⟨s + 1, av, cv, B1 ++ B, M, few_vals (by rw [hq] <;> rfl) (by rw [hq, hfd] <;> rfl) rfl, by omega, rfl, by rw [hq]; exact hslv.app, hIM, (by rw [List.append_assoc]; exact hs53)⟩)
        | (have hq := few_yes (d := d) (n := n) (s := s) (by first | exact .inl hfd | exact .inr (before_no (by omega) (by omega)) | exact .inr (before_no (by omega) (fun e => by rw [← hz]; exact decide_eq_false (by omega)))) (by assumption)
           exact ⟨s + 1, a1, c1, B1 ++ B, M2, few_vals (by rw [hq] <;> rfl) (by rw [hq] <;> rfl) rfl, by omega, rfl, by rw [hq]; exact hsl1.top, hIM2, (by rw [List.append_assoc]; exact hs53)⟩)
        | (have hq := few_no (d := d) (n := n) (s := s) (by first | exact .inl hfd | exact .inr (before_no (by omega) (by omega)) | exact .inr (before_no (by omega) (fun e => by rw [← hz]; exact decide_eq_false (by omega)))) (by assumption)
           exact ⟨s + 1, av, cv, B1 ++ B, M2, few_vals (by rw [hq] <;> rfl) (by rw [hq, hfd] <;> rfl) rfl, by omega, rfl, by rw [hq]; exact hslv.app, hIM2, (by rw [List.append_assoc]; exact hs53)⟩)
   ·
    try simp only [Bool.not_eq_true', Bool.not_eq_false', decide_eq_true_eq, decide_eq_false_iff_not, Int.not_lt, Int.not_le] at h16
    refine w_exit ?_
    refine q_then_exit ?_
    refine q_then_exit ?_
    refine q_blk_this ?_
    refine q_then (hK5 _ _ ?_)
    refine w_seq (fun K56 hK55 => ?_)
    refine w_region ?_
    refine w_pure want_none (y_move (v := .slice _ _ _) rfl rfl) rfl ?_
    refine w_pure want_none (y_assign (v := .slice _ _ _) rfl rfl) rfl ?_
    refine w_nil ?_
    refine q_then (hK55 _ _ ?_)
    refine w_ret ?_
    refine q_ret (l := [.tmp 4]) (vs := [_]) rfl ⟨⟨rfl, show _ = (.slice _ _ _ : Value) from rfl⟩, trivial⟩ ?_
    have hin : s = 1 <<< n := by omega
    subst hin
    exact ⟨B, M, av, cv, rfl, hslv, hIM, hs⟩

end Go.Proofs
/- Walks of this seat, printed by gen.py over the engine: what each function returns, in whatever world. No conditions but those of each contract. -/
set_option linter.unusedVariables false
set_option linter.unusedSimpArgs false
set_option maxRecDepth 20000
namespace Go.Proofs
open Go.Rt Go.Rt.Ch
open Go.Rt.Ha (firstE firstE_step firstE_stop firstE_end failE nameE felt spanL upto span_mem listL fewest fewTo bit before fewStep drop_lt drop_get drop_next drop_done drop_notin set_take set_zero take_less)
attribute [local irreducible] WL WC Con Yd At Ats Sl Agree DW
theorem Try_O_fb3 (x0 : Int) (x1 : Int) (w : World) : (Instr.build 31 [(0, .int .i64 x0), (1, .int .i64 x1)].toArray).run Try.prog w = .ok (.agg #[.int .i64 x0, .int .i64 x1]) w := by kernel_rfl
theorem nodup_inj {α : Type} : ∀ {es : List (α × Value × Nat)}, (es.map (·.2.2)).Nodup → ∀ {a b : α × Value × Nat}, a ∈ es → b ∈ es → a.2.2 = b.2.2 → a = b
  | [], _, a, _, h, _, _ => by cases h
  | x :: es, hn, a, b, ha, hb, e => by
    rw [List.map_cons, List.nodup_cons] at hn
    have hnot : ∀ r ∈ es, r.2.2 ≠ x.2.2 := fun r hr e => hn.1 (by rw [← e]; exact List.mem_map_of_mem (f := fun r : α × Value × Nat => r.2.2) hr)
    rcases List.mem_cons.1 ha with ea | ha2
    · rcases List.mem_cons.1 hb with eb | hb2
      · rw [ea, eb]
      · exact absurd (by rw [← ea]; exact e.symm) (hnot b hb2)
    · rcases List.mem_cons.1 hb with eb | hb2
      · exact absurd (by rw [← eb]; exact e) (hnot a ha2)
      · exact nodup_inj hn.2 ha2 hb2 e
theorem key100 : KeyTy Try.prog 100 4 := keyTy_array Try.underlying100 Try.underlying3 Try.sizeOf3 (by kernel_rfl)
theorem spm_step {b : Board} {s i ck : Nat} {f : List Int → Int} {es : List (List Int × Value × Nat)} {lo hi : Int} (hi2 : i < (truths b).length) (hsp : SpM s f ((truths b).take i) es) (hn : (es.map (·.1)).Nodup)
    (h : (mask s (pad4 (truths b)[i]) ∉ es.map (·.1) ∧ lo = min (f (truths b)[i]) (f (truths b)[i]) ∧ hi = max (f (truths b)[i]) (f (truths b)[i])) ∨ (mask s (pad4 (truths b)[i]) ∈ es.map (·.1) ∧ lo = min (gS s f ((truths b).take i) (mask s (pad4 (truths b)[i]))).1 (f (truths b)[i]) ∧ hi = max (gS s f ((truths b).take i) (mask s (pad4 (truths b)[i]))).2 (f (truths b)[i]))) :
    SpM s f ((truths b).take (i + 1)) (putA (mask s (pad4 (truths b)[i])) (.agg #[.int .i64 lo, .int .i64 hi]) ck es) := by
  rw [List.take_succ_eq_append_getElem hi2]
  refine hsp.put hn (p := (lo, hi)) ?_ ck
  rcases h with ⟨h1, rfl, rfl⟩ | ⟨h1, rfl, rfl⟩
  · rw [gS_new hsp h1]
  · rw [gS_more hsp h1]
theorem mul_40 {a : Int} (s k : Nat) (h : 0 ≤ a ∧ a ≤ 40) : 0 ≤ a * ((bit s k : Nat) : Int) ∧ a * ((bit s k : Nat) : Int) ≤ 40 := by
  rcases bit_lt2 s k with e | e <;> rw [e] <;> simp <;> omega
theorem tells_no {b : Board} (hok : b.Ok) {hold within : Int} {s : Nat} {es : List (List Int × Value × Nat)} (h : SpM s (inH b hold) (truths b) es) {q : List Int × Value × Nat} (hq : q ∈ es) (hn : within < (gS s (inH b hold) (truths b) q.1).2 - (gS s (inH b hold) (truths b) q.1).1) : false = tellsS b hold within s := by
  cases ht : tellsS b hold within s with
  | false => rfl
  | true => have := (tells_map hok h).1 ht q hq; omega
theorem looksP_e {b : Board} {h n : Int} (e : ¬ enterE b (looksE b h n) = 0) : looksP b h n = ([], enterE b (looksE b h n)) := by unfold looksP; rw [if_pos e]
theorem looksP_y {b : Board} {h n : Int} (e : enterE b (looksE b h n) = 0) : looksP b h n = ((fewest (tellsS b h n) b.hours.length).1, 0) := by unfold looksP; rw [if_neg (by simp [e])]
theorem keep_front {w0 w : World} {B M P F : List (Nat × Obj)} (h : St w0 w (B ++ (M ++ (P ++ F)))) : St w0 w (B ++ F) := by
  have e : B ++ (M ++ (P ++ F)) = B ++ ((M ++ P) ++ F) := by simp only [List.append_assoc]
  rw [e] at h
  exact (h.perm (perm_mid B (M ++ P) F)).drop
theorem c79 {w0 w : World} {X M F : List (Nat × Obj)} (b : Board) (p : AtB) (bb mm : Nat) (hk : BK w0 F b p bb mm) (s : Nat) (hs1k : s < 1000) (hold within : Int) (bq bh bw : Nat) (h1 : Ats w0 F bq 0 [.pointer (some ⟨bb, 0, none⟩)]) (h2 : Ats w0 F bh 0 [.int .i64 hold]) (h3 : Ats w0 F bw 0 [.int .i64 within]) (hM : Memo w0 b mm M) (hs : St w0 w (X ++ (M ++ F))) :
  Con Try.prog 79 [.int .i64 (s : Int), .pointer (some ⟨bq, 0, none⟩), .pointer (some ⟨bh, 0, none⟩), .pointer (some ⟨bw, 0, none⟩)] w fun v w' => v = .bool (tellsS b hold within s) ∧ ∃ M', Memo w0 b mm M' ∧ St w0 w' (X ++ (M' ++ F)) := by
  refine con_of_wcM (n := 70) Try.func79 rfl rfl (Nat.le_of_ble_eq_true rfl) ?_
  have hlh := hk.ok.lh
  refine w_seq (fun K2 hK1 => ?_)
  refine w_region ?_
  refine w_box (v := .int _ _) (cs := [_]) want_none rfl rfl rfl hs (fun b3 w4 hs5 => ?_)
  refine w_pure want_none (y_assign (v := _) rfl rfl) rfl ?_
  refine w_nil ?_
  refine q_then (hK1 _ _ ?_)
  refine w_seq (fun K7 hK6 => ?_)
  refine w_region ?_
  refine w_makeMap want_none hs5 (fun b8 w9 hs10 => ?_)
  refine w_alloc (cs := [_]) want_none Try.zeroValue118 rfl hs10 (fun b11 w12 hs13 => ?_)
  refine w_store (i := 0) (v := .map _) (vs := [_]) want_none Try.sizeOf118 rfl rfl rfl rfl rfl (by simp [Value.oneCell']) hs13 rfl (Nat.le_of_ble_eq_true rfl) (fun w14 hs15 => ?_)
  refine w_nil ?_
  refine q_then (hK6 _ _ ?_)
  refine w_seq (fun K17 hK16 => ?_)
  refine w_seq (fun K19 hK18 => ?_)
  refine w_region ?_
  refine w_pure want_none (y_load1 Try.isAgg95 hs15.tail.tail.tail.drop.drop rfl rfl h1) rfl ?_
  refine w_call want_none Try.call80 rfl rfl rfl rfl (c80 _ hs15) ?_
  rintro _ w21 ⟨bp, rfl, hs22⟩
  refine w_nil ?_
  refine q_then (hK18 _ _ ?_)
  refine w_block ?_
  refine w_rangeC ([_, _] ++ M) (fun i Bx => ∃ B M, Bx = B ++ M ∧ Memo w0 b mm M ∧ ∃ (es : List (List Int × Value × Nat)) (ck : Nat), MOk es ck ∧ SpM s (inH b hold) ((truths b).take (i)) es ∧ B = [(b11, blk 118 [.map (some b8)]), (b8, .map (ents (fun l : List Int => ia l) es).toArray (ck))]) (fun c Bx => ∃ B M, Bx = B ++ M ∧ Memo w0 b mm M ∧ False) rfl rfl rfl Try.call106 (truths_iter b p bb mm hk.app.cons.cons bp (ats_own (i := 0) (vs := [_]) rfl rfl)) (clsM_range (fun i B => ∃ (es : List (List Int × Value × Nat)) (ck : Nat), MOk es ck ∧ SpM s (inH b hold) ((truths b).take (i)) es ∧ B = [(b11, blk 118 [.map (some b8)]), (b8, .map (ents (fun l : List Int => ia l) es).toArray (ck))]) (fun c B => False) (fun i Bx => Iff.rfl) (fun c Bx => Iff.rfl)) hs22 (hull_perm _ _ _ _ _ _ _) ⟨_, M, rfl, hM, [], 0, mok_nil, spm_nil _ _, rfl⟩ ?_ ?_ ?_
  ·
   intro lp i hi Bx Xr Xr2 w24 hJ hs K hK23
   obtain ⟨BB, M3, rfl, hM3, es, ck, hmk, hsp, rfl⟩ := hJ
   have hi2 : i < (truths b).length := by simpa using hi
   rw [List.getElem_map, List.getElem_map]
   have htm := List.getElem_mem hi2
   have hpl := pad_len hk.ok htm
   have h40 : ∀ k, 0 ≤ ld (pad4 (truths b)[i]) k ∧ ld (pad4 (truths b)[i]) k ≤ 40 := fun k => by rw [ld_pad]; exact ld_40 hk.ok htm k
   obtain ⟨h, hh⟩ : ∃ h, h = pad4 (truths b)[i] := ⟨_, rfl⟩
   rw [← hh] at hpl h40 ⊢
   have hx4 : Ats w0 ((bp, blk 95 [.pointer (some ⟨bb, 0, none⟩)]) :: (b3, blk 3 [.int .i64 (s : Int)]) :: (X ++ F)) b3 0 [.int .i64 (s : Int)] := ats_own (i := 1) rfl rfl
   replace hs := (show St _ _ (_ :: _ :: (M3 ++ (Xr ++ ((bp, blk 95 [.pointer (some ⟨bb, 0, none⟩)]) :: (b3, blk 3 [.int .i64 (s : Int)]) :: (X ++ F))))) from hs)
   refine w_region ?_
   refine w_alloc (cs := iv [0, 0, 0, 0]) want_none Try.zeroValue100 rfl hs (fun b25 w26 hs27 => ?_)
   refine w_storeI (i := 0) (l := _) want_none Try.sizeOf100 (by first | omega | rfl | (simp only [hpl, maskTo_len, List.length_map, List.length_set, List.length_append, List.length_take, List.length_drop, List.length_replicate, List.length_cons, List.length_nil] <;> omega)) rfl rfl rfl rfl rfl hs27 rfl (by first | omega | rfl | (simp only [hpl, maskTo_len, List.length_map, List.length_set, List.length_append, List.length_take, List.length_drop, List.length_replicate, List.length_cons, List.length_nil] <;> omega)) (fun w28 hs29 => ?_)
   refine w_nil ?_
   refine q_then (hK23 _ _ (_ :: _ :: _ :: M3) hs29 (fun w30 hs31 => ?_))
   replace hs31 := (show St _ _ (_ :: _ :: _ :: M3 ++ (Xr2 ++ (_ :: _ :: X ++ (F)))) from hs31)
   refine w_block ?_
   refine w_seq (fun K33 hK32 => ?_)
   refine w_region ?_
   refine w_pure want_none (y_load1 Try.isAgg95 hs31.tail.tail.tail.drop.drop.tail.tail.drop rfl rfl h1) rfl ?_
   refine w_pure want_none (y_loadI (i := 0) Try.isAgg100 Try.sizeOf100 (by first | omega | rfl | (simp only [hpl, maskTo_len, List.length_map, List.length_set, List.length_append, List.length_take, List.length_drop, List.length_replicate, List.length_cons, List.length_nil] <;> omega)) hs31 rfl rfl rfl) rfl ?_
   refine w_pure want_none (y_load1 Try.isAgg3 hs31.tail.tail.tail.drop.drop.tail.tail.drop rfl rfl h2) rfl ?_
   refine w_call want_none Try.call70 rfl rfl rfl rfl (c70 b p bb mm hk.app.cons.cons.app.app.cons.cons.cons h hpl h40 hold hs31) ?_
   rintro _ w35 ⟨rfl, hs36⟩
   refine w_pure want_none (y_assign (v := .int _ _) rfl rfl) rfl ?_
   refine w_nil ?_
   refine q_then (hK32 _ _ ?_)
   refine w_seq (fun K38 hK37 => ?_)
   refine w_seq (fun K40 hK39 => ?_)
   refine w_region ?_
   refine w_pure want_none (y_move (v := _) rfl rfl) rfl ?_
   refine w_nil ?_
   refine q_then (hK39 _ _ ?_)
   refine w_block ?_
   refine w_loop [9, 22, 23, 24, 25, 26, 27, 28, 29, 30, 31, 32, 33, 34] [22] (fun kk vs w => ∃ k : Nat, vs = [.int .i64 k] ∧ k ≤ 4 ∧ kk = 4 - k ∧ St w0 w ((b25, blk 100 (iv (maskTo s h k))) :: (b11, blk 118 [.map (some b8)]) :: (b8, .map (ents (fun l : List Int => ia l) es).toArray ck) :: (M3 ++ (Xr2 ++ ((bp, blk 95 [.pointer (some ⟨bb, 0, none⟩)]) :: (b3, blk 3 [.int .i64 (s : Int)]) :: (X ++ F)))))) (4) ?_ ?_
   ·
    exact ⟨0, rfl, by omega, by omega, by rw [maskTo_zero hpl]; exact hs36⟩
   ·
    intro k vs μ w43 hI K42 hN41
    obtain ⟨k, rfl, hka, rfl, hs⟩ := hI
    refine w_seq (fun K45 hK44 => ?_)
    refine w_region ?_
    refine w_pure want_none (y_lss rfl rfl rfl rfl) rfl ?_
    refine w_nil ?_
    refine q_then (hK44 _ _ ?_)
    refine w_seq (fun K47 hK46 => ?_)
    refine w_cond rfl rfl (fun h48 => ?_) (fun h48 => ?_)
    ·
     try simp only [Bool.not_eq_true', Bool.not_eq_false', decide_eq_true_eq, decide_eq_false_iff_not, Int.not_lt, Int.not_le] at h48
     refine w_skip ?_
     refine q_then (hK46 _ _ ?_)
     refine w_seq (fun K50 hK49 => ?_)
     refine w_block ?_
     refine w_seq (fun K52 hK51 => ?_)
     refine w_region ?_
     refine w_pure want_none (y_move (v := .int _ _) rfl rfl) rfl ?_
     refine w_pure want_none (y_assign (v := .int _ _) rfl rfl) rfl ?_
     refine w_nil ?_
     refine q_then (hK51 _ _ ?_)
     have hk4 : k < 4 := by omega
     have hmg : (maskTo s h k).getD k 0 = h.getD k 0 := maskTo_get hk4
     have hm40 := h40 k
     have hml : ld h k = h.getD k 0 := rfl
     have hmb := mul_40 (a := (maskTo s h k).getD k 0) s k (by omega)
     refine w_draw [9] [(0, 0), (1, 0), (2, 1), (3, 1), (4, 0), (5, 0), (6, 0), (7, 0), (8, 0), (9, 3)] Try_mo (drawOK_of (by kernel_rfl)) hs (fun w53 hs54 => ?_)
     refine d_any rfl want_none rfl (fun _ => (y_move (v := .int _ _) rfl rfl)) ?_
     refine d_any rfl want_none rfl (fun _ => (y_indexA Try.underlying100 Try.sizeOf3 rfl rfl rfl rfl (i := k) (by first | rfl | omega) (by omega))) ?_
     refine d_take rfl want_none rfl hs54 (fun _ hq => (y_load1 Try.isAgg3 hq rfl rfl (ats_ints (i := 0) (j := k) rfl (by first | omega | rfl | (simp only [hpl, maskTo_len, List.length_map, List.length_set, List.length_append, List.length_take, List.length_drop, List.length_replicate, List.length_cons, List.length_nil] <;> omega))))) ?_
     refine d_take rfl want_none rfl hs54 (fun _ hq => (y_load1 Try.isAgg3 hq.tail.tail.tail.drop.drop rfl rfl hx4)) ?_
     refine d_any rfl want_none rfl (fun _ => (y_move (v := .int _ _) rfl rfl)) ?_
     refine d_any rfl want_none rfl (fun _ => (y_shr (x := s) (y := k) rfl rfl rfl rfl (by first | rfl | omega) (by first | rfl | omega) (by first | omega | exact shr_lt (by omega)))) ?_
     refine d_any rfl want_none rfl (fun _ => (show Yd _ _ _ _ (.int .i64 ((bit s k : Nat) : Int)) from (y_and (x := _) (y := 1) rfl rfl rfl rfl rfl rfl (by first | omega | exact shr_lt (by omega)) (by first | omega | exact shr_lt (by omega))))) ?_
     refine d_any rfl want_none rfl (fun _ => (y_mul rfl rfl rfl rfl (by omega) (by omega))) ?_
     refine d_any rfl want_none rfl (fun _ => (y_indexA Try.underlying100 Try.sizeOf3 rfl rfl rfl rfl (i := k) (by first | rfl | omega) (by omega))) ?_
     refine d_late rfl ?_
     refine w_storeAtI (i := 0) (j := k) want_none Try.sizeOf3 rfl rfl rfl rfl hs54 rfl (by first | omega | rfl | (simp only [hpl, maskTo_len, List.length_map, List.length_set, List.length_append, List.length_take, List.length_drop, List.length_replicate, List.length_cons, List.length_nil] <;> omega)) (fun w55 hs56 => ?_)
     refine w_nil ?_
     refine qn ?_
     refine d_nil ?_
     refine q_blk_normal ?_
     refine q_then (hK49 _ _ ?_)
     refine w_region ?_
     refine w_pure want_none (y_add rfl rfl rfl rfl (by omega) (by omega)) rfl ?_
     refine w_pure want_none (y_move (v := .int _ _) rfl rfl) rfl ?_
     refine w_nil ?_
     refine q_then (hN41 _ _ (Nx.intro (4 - (k + 1)) (by omega) (by repeat (first | exact agree_mix | refine agree_upd rfl ?_ | refine agree_updL rfl ?_ _ | refine agree_mixin rfl ?_)) ?_))
     exact ⟨k + 1, rfl, by omega, rfl, by rw [← maskTo_set hk4]; exact hs56⟩
    ·
     try simp only [Bool.not_eq_true', Bool.not_eq_false', decide_eq_true_eq, decide_eq_false_iff_not, Int.not_lt, Int.not_le] at h48
     refine w_exit ?_
     refine q_then_exit ?_
     refine q_then_exit ?_
     refine q_blk_this ?_
     refine q_then (hK37 _ _ ?_)
     refine w_seq (fun K58 hK57 => ?_)
     have hk4 : k = 4 := by omega
     subst hk4
     refine w_region ?_
     refine w_pure want_none (y_load1 Try.isAgg118 hs rfl rfl (ats_own (i := 1) (vs := [_]) rfl rfl)) rfl ?_
     refine w_pure want_none (y_loadI (i := 0) Try.isAgg100 Try.sizeOf100 (by first | omega | rfl | (simp only [hpl, maskTo_len, List.length_map, List.length_set, List.length_append, List.length_take, List.length_drop, List.length_replicate, List.length_cons, List.length_nil] <;> omega)) hs rfl rfl rfl) rfl ?_
     refine w_pure want_none (G_look2V (i := 2) (a := mask s h) (l := es) (fun key => sv (gS s (inH b hold) ((truths b).take i) key)) Try.underlying118 (keyG_ia key100) (by unfold mask; exact maskTo_len _ _ _) hsp.len hsp.v (fun hn w => by rw [hsp.zero hn]; exact Try.zeroValue31 w) hs rfl rfl rfl rfl rfl) rfl ?_
     refine w_pure want_none (y_move (v := .tuple _) rfl rfl) rfl ?_
     refine w_pure want_none (y_extract (v := .agg _) rfl rfl rfl) rfl ?_
     refine w_pure want_none (y_extract (v := .bool _) rfl rfl rfl) rfl ?_
     refine w_alloc (cs := [_, _]) want_none Try.zeroValue31 rfl hs (fun b59 w60 hs61 => ?_)
     refine w_store (i := 0) (v := .agg #[.int _ _, .int _ _]) (vs := [_, _]) want_none Try.sizeOf31 rfl rfl rfl rfl rfl (by simp [Value.oneCell']) hs61 rfl (Nat.le_of_ble_eq_true rfl) (fun w62 hs63 => ?_)
     refine w_pure want_none (y_assign (v := .bool _) rfl rfl) rfl ?_
     refine w_nil ?_
     refine q_then (hK57 _ _ ?_)
     refine w_seq (fun K65 hK64 => ?_)
     refine w_seq (fun K67 hK66 => ?_)
     refine w_region ?_
     refine w_pure want_none (y_move (v := .bool _) rfl rfl) rfl ?_
     refine w_pure want_none (y_not rfl rfl) rfl ?_
     refine w_nil ?_
     refine q_then (hK66 _ _ ?_)
     refine w_cond rfl rfl (fun h68 => ?_) (fun h68 => ?_)
     ·
      try simp only [Bool.not_eq_true', Bool.not_eq_false', decide_eq_true_eq, decide_eq_false_iff_not, Int.not_lt, Int.not_le] at h68
      refine w_region ?_
      refine w_pure want_none (y_move (v := .int _ _) rfl rfl) rfl ?_
      refine w_pure want_none (y_move (v := .int _ _) rfl rfl) rfl ?_
      refine w_pure want_none (y_build (ps := [(0, _), (1, _)]) (pv := [(0, .int _ _), (1, .int _ _)]) rfl rfl (fun w => Try_O_fb3 _ _ w)) rfl ?_
      refine w_store (i := 0) (v := .agg #[.int _ _, .int _ _]) (vs := [_, _]) want_none Try.sizeOf31 rfl rfl rfl rfl rfl (by simp [Value.oneCell']) hs63 rfl (Nat.le_of_ble_eq_true rfl) (fun w69 hs70 => ?_)
      refine w_nil ?_
      refine q_then (hK64 _ _ ?_)
      refine w_region ?_
      refine w_pure want_none (y_load1 Try.isAgg118 hs70 rfl rfl (ats_own (i := 2) (vs := [_]) rfl rfl)) rfl ?_
      refine w_pure want_none (y_loadI (i := 1) Try.isAgg100 Try.sizeOf100 (by first | omega | rfl | (simp only [hpl, maskTo_len, List.length_map, List.length_set, List.length_append, List.length_take, List.length_drop, List.length_replicate, List.length_cons, List.length_nil] <;> omega)) hs70 rfl rfl rfl) rfl ?_
      refine w_pure want_none (y_fieldAddr (o := 0) (i := 0) Try.underlying31 rfl Try.sizeOf3 rfl rfl rfl) rfl ?_
      refine w_pure want_none (y_load1 Try.isAgg3 hs70 rfl rfl (ats_own (i := 0) (vs := [_]) rfl rfl)) rfl ?_
      refine w_pure want_none (y_move (v := .int _ _) rfl rfl) rfl ?_
      refine w_pure want_none (y_min2 rfl rfl rfl rfl) rfl ?_
      refine w_pure want_none (y_fieldAddr (o := 1) (i := 1) Try.underlying31 rfl Try.sizeOf3 rfl rfl rfl) rfl ?_
      refine w_pure want_none (y_load1 Try.isAgg3 hs70 rfl rfl (ats_own (i := 0) (vs := [_]) rfl rfl)) rfl ?_
      refine w_pure want_none (y_move (v := .int _ _) rfl rfl) rfl ?_
      refine w_pure want_none (y_max2 rfl rfl rfl rfl) rfl ?_
      refine w_pure want_none (y_build (ps := [(0, _), (1, _)]) (pv := [(0, .int _ _), (1, .int _ _)]) rfl rfl (fun w => Try_O_fb3 _ _ w)) rfl ?_
      refine G_put (i := 3) (a := mask s h) (l := es) want_none Try.underlying118 (keyG_ia key100) (by unfold mask; exact maskTo_len _ _ _) hsp.len rfl rfl rfl rfl rfl rfl hs70 rfl (fun w71 hs72 => ?_)
      refine w_nil ?_
      refine q_blk_normal ?_
      refine rd_normal (_ :: _ :: M3) hs72.tail.tail ?_
      subst hh
      refine ⟨_, M3, rfl, hM3, _, _, ?_, ?_, rfl⟩
      · exact hmk.put _ _
      · refine spm_step hi2 hsp hmk.key ?_
        first
          | exact .inl ⟨by simpa using (by assumption : ¬ mask s (pad4 (truths b)[i]) ∈ es.map (·.1)), by rw [inH_pad], by rw [inH_pad]⟩
          | exact .inr ⟨by assumption, by rw [inH_pad], by rw [inH_pad]⟩
     ·
      try simp only [Bool.not_eq_true', Bool.not_eq_false', decide_eq_true_eq, decide_eq_false_iff_not, Int.not_lt, Int.not_le] at h68
      refine w_skip ?_
      refine q_then (hK64 _ _ ?_)
      refine w_region ?_
      refine w_pure want_none (y_load1 Try.isAgg118 hs63 rfl rfl (ats_own (i := 2) (vs := [_]) rfl rfl)) rfl ?_
      refine w_pure want_none (y_loadI (i := 1) Try.isAgg100 Try.sizeOf100 (by first | omega | rfl | (simp only [hpl, maskTo_len, List.length_map, List.length_set, List.length_append, List.length_take, List.length_drop, List.length_replicate, List.length_cons, List.length_nil] <;> omega)) hs63 rfl rfl rfl) rfl ?_
      refine w_pure want_none (y_fieldAddr (o := 0) (i := 0) Try.underlying31 rfl Try.sizeOf3 rfl rfl rfl) rfl ?_
      refine w_pure want_none (y_load1 Try.isAgg3 hs63 rfl rfl (ats_own (i := 0) (vs := [_]) rfl rfl)) rfl ?_
      refine w_pure want_none (y_move (v := .int _ _) rfl rfl) rfl ?_
      refine w_pure want_none (y_min2 rfl rfl rfl rfl) rfl ?_
      refine w_pure want_none (y_fieldAddr (o := 1) (i := 1) Try.underlying31 rfl Try.sizeOf3 rfl rfl rfl) rfl ?_
      refine w_pure want_none (y_load1 Try.isAgg3 hs63 rfl rfl (ats_own (i := 0) (vs := [_]) rfl rfl)) rfl ?_
      refine w_pure want_none (y_move (v := .int _ _) rfl rfl) rfl ?_
      refine w_pure want_none (y_max2 rfl rfl rfl rfl) rfl ?_
      refine w_pure want_none (y_build (ps := [(0, _), (1, _)]) (pv := [(0, .int _ _), (1, .int _ _)]) rfl rfl (fun w => Try_O_fb3 _ _ w)) rfl ?_
      refine G_put (i := 3) (a := mask s h) (l := es) want_none Try.underlying118 (keyG_ia key100) (by unfold mask; exact maskTo_len _ _ _) hsp.len rfl rfl rfl rfl rfl rfl hs63 rfl (fun w73 hs74 => ?_)
      refine w_nil ?_
      refine q_blk_normal ?_
      refine rd_normal (_ :: _ :: M3) hs74.tail.tail ?_
      subst hh
      refine ⟨_, M3, rfl, hM3, _, _, ?_, ?_, rfl⟩
      · exact hmk.put _ _
      · refine spm_step hi2 hsp hmk.key ?_
        first
          | exact .inl ⟨by simpa using (by assumption : ¬ mask s (pad4 (truths b)[i]) ∈ es.map (·.1)), by rw [inH_pad], by rw [inH_pad]⟩
          | exact .inr ⟨by assumption, by rw [inH_pad], by rw [inH_pad]⟩
  ·
   intro bd Bx w75 hJ hs
   obtain ⟨BB, M3, rfl, hM3, es, ck, hmk, hsp, rfl⟩ := hJ
   rw [List.length_map, List.length_map, List.take_length] at hsp
   replace hs := (show St _ _ (_ :: _ :: _ :: (M3 ++ ((bp, blk 95 [.pointer (some ⟨bb, 0, none⟩)]) :: (b3, blk 3 [.int .i64 (s : Int)]) :: (X ++ F)))) from hs)
   refine q_blk_normal ?_
   refine q_then (hK16 _ _ ?_)
   refine w_seq (fun K77 hK76 => ?_)
   refine w_seq (fun K79 hK78 => ?_)
   refine w_region ?_
   refine w_pure want_none (y_load1 Try.isAgg118 hs rfl rfl (ats_own (i := 1) (vs := [_]) rfl rfl)) rfl ?_
   refine w_rangeMap (i := 2) want_none Try.underlying118 rfl rfl hs rfl (fun b80 w81 hs82 => ?_)
   refine w_nil ?_
   refine q_then (hK78 _ _ ?_)
   refine w_block ?_
   refine w_loop [5, 13, 59, 60, 61, 62, 63, 64, 65, 66, 67, 68, 69] [] (fun kk vs w => ∃ (seen : Array Nat), vs = [] ∧ kk = remN es seen ∧ (∀ q ∈ es, q.2.2 ∈ seen.toList → (gS s (inH b hold) (truths b) q.1).2 - (gS s (inH b hold) (truths b) q.1).1 ≤ within) ∧ St w0 w ((b80, .mapIter (some b8) ck seen ck) :: (bd, .deferred (some [])) :: (b11, blk 118 [.map (some b8)]) :: (b8, .map (ents (fun l : List Int => ia l) es).toArray ck) :: (M3 ++ ((bp, blk 95 [.pointer (some ⟨bb, 0, none⟩)]) :: (b3, blk 3 [.int .i64 (s : Int)]) :: (X ++ F))))) (es.length) ?_ ?_
   ·
    exact ⟨#[], rfl, (rem_zero es).symm, fun q _ h => by simp at h, hs82⟩
   ·
    intro k vs μ w85 hI K84 hN83
    clear hs
    obtain ⟨seen, rfl, rfl, hsn, hs⟩ := hI
    refine w_seq (fun K87 hK86 => ?_)
    refine w_region ?_
    refine w_nextMap (i := 0) (j := 3) want_none rfl rfl hs rfl rfl hmk.born (Nat.le_refl _) (fun r hr hnr w89 hs90 => ?_) (fun hall => ?_)
    ·
     obtain ⟨rk, rv, rb⟩ := r
     have hrv := hsp.v _ hr
     dsimp only at hrv
     subst hrv
     refine w_pure want_none (y_extract (v := .bool _) rfl rfl rfl) rfl ?_
     refine w_nil ?_
     refine q_then (hK86 _ _ ?_)
     refine w_seq (fun K92 hK91 => ?_)
     refine w_condT rfl rfl ?_
     refine w_skip ?_
     refine q_then (hK91 _ _ ?_)
     refine w_block ?_
     refine w_seq (fun K94 hK93 => ?_)
     have hgi := gS_in hk.ok (hold := hold) s (fun l h => h) rk
     refine w_region ?_
     refine w_pure want_none (y_entryG (i := 0) (j := 3) rfl rfl hs90 rfl rfl hr hmk.bnd) rfl ?_
     refine w_pure want_none (y_extract (v := .agg _) rfl rfl rfl) rfl ?_
     refine w_alloc (cs := [_, _]) want_none Try.zeroValue31 rfl hs90 (fun b95 w96 hs97 => ?_)
     refine w_store (i := 0) (v := .agg #[.int _ _, .int _ _]) (vs := [_, _]) want_none Try.sizeOf31 rfl rfl rfl rfl rfl (by simp [Value.oneCell']) hs97 rfl (Nat.le_of_ble_eq_true rfl) (fun w98 hs99 => ?_)
     refine w_nil ?_
     refine q_then (hK93 _ _ ?_)
     refine w_seq (fun K101 hK100 => ?_)
     refine w_region ?_
     refine w_pure want_none (y_fieldAddr (o := 1) (i := 1) Try.underlying31 rfl Try.sizeOf3 rfl rfl rfl) rfl ?_
     refine w_pure want_none (y_load1 Try.isAgg3 hs99 rfl rfl (ats_own (i := 0) (vs := [_]) rfl rfl)) rfl ?_
     refine w_pure want_none (y_fieldAddr (o := 0) (i := 0) Try.underlying31 rfl Try.sizeOf3 rfl rfl rfl) rfl ?_
     refine w_pure want_none (y_load1 Try.isAgg3 hs99 rfl rfl (ats_own (i := 0) (vs := [_]) rfl rfl)) rfl ?_
     refine w_pure want_none (y_sub rfl rfl rfl rfl (by omega) (by omega)) rfl ?_
     refine w_pure want_none (y_load1 Try.isAgg3 hs99.tail.tail.tail.tail.tail.drop.tail.tail.drop rfl rfl h3) rfl ?_
     refine w_pure want_none (y_gtr rfl rfl rfl rfl) rfl ?_
     refine w_nil ?_
     refine q_then (hK100 _ _ ?_)
     refine w_cond rfl rfl (fun h102 => ?_) (fun h102 => ?_)
     ·
      try simp only [Bool.not_eq_true', Bool.not_eq_false', decide_eq_true_eq, decide_eq_false_iff_not, Int.not_lt, Int.not_le] at h102
      refine w_seq (fun K104 hK103 => ?_)
      refine w_region ?_
      refine w_pure want_none (y_assign (v := _) rfl rfl) rfl ?_
      refine w_nil ?_
      refine q_then (hK103 _ _ ?_)
      refine w_ret ?_
      refine q_blk_ret ?_
      refine q_then_ret ?_
      refine q_blk_ret ?_
      refine q_then_ret ?_
      refine q_retM (i := 2) (l := [.tmp 5]) (vs := [_]) hs99 rfl rfl (fun w105 hs106 => ⟨⟨⟨rfl, show _ = (.bool _ : Value) from rfl⟩, trivial⟩, ?_⟩)
      first
        | exact ⟨congrArg Value.bool (tells_no hk.ok hsp hr (by simpa using (by assumption))), M3, hM3, mid_back2 hs106.tail.tail.tail.tail.tail⟩
        | exact ⟨congrArg Value.bool ((tells_map hk.ok hsp).2 fun q hq => hsn q hq (hall q hq)).symm, M3, hM3, mid_back2 hs106.tail.tail.tail.tail.tail⟩
     ·
      try simp only [Bool.not_eq_true', Bool.not_eq_false', decide_eq_true_eq, decide_eq_false_iff_not, Int.not_lt, Int.not_le] at h102
      refine w_skip ?_
      refine q_blk_normal ?_
      refine q_then (hN83 _ _ (Nx.intro (remN es (seen.push rb)) (by have := rem_push hmk.bnd hr hnr; dsimp only at this; omega) (by repeat (first | exact agree_mix | refine agree_upd rfl ?_ | refine agree_updL rfl ?_ _ | refine agree_mixin rfl ?_)) ?_))
      exact ⟨seen.push rb, rfl, rfl, fun q hq h => (by
        rw [Array.toList_push, List.mem_append, List.mem_singleton] at h
        rcases h with h | h
        · exact hsn q hq h
        · have e := nodup_inj hmk.bnd hq hr h
          rw [e]; simpa using (by assumption)), hs99.tail⟩
    ·
     refine w_pure want_none (y_extract (v := .bool _) rfl rfl rfl) rfl ?_
     refine w_nil ?_
     refine q_then (hK86 _ _ ?_)
     refine w_seq (fun K108 hK107 => ?_)
     refine w_condF rfl rfl ?_
     refine w_exit ?_
     refine q_then_exit ?_
     refine q_then_exit ?_
     refine q_blk_this ?_
     refine q_then (hK76 _ _ ?_)
     refine w_seq (fun K110 hK109 => ?_)
     refine w_region ?_
     refine w_pure want_none (y_assign (v := _) rfl rfl) rfl ?_
     refine w_nil ?_
     refine q_then (hK109 _ _ ?_)
     refine w_ret ?_
     refine q_retM (i := 1) (l := [.tmp 5]) (vs := [_]) hs rfl rfl (fun w111 hs112 => ⟨⟨⟨rfl, show _ = (.bool _ : Value) from rfl⟩, trivial⟩, ?_⟩)
     first
       | exact ⟨congrArg Value.bool (tells_no hk.ok hsp hr (by simpa using (by assumption))), M3, hM3, mid_back2 hs112.tail.tail.tail.tail⟩
       | exact ⟨congrArg Value.bool ((tells_map hk.ok hsp).2 fun q hq => hsn q hq (hall q hq)).symm, M3, hM3, mid_back2 hs112.tail.tail.tail.tail⟩
  ·
   intro _ _ _ _ hJ
   obtain ⟨_, _, _, _, h⟩ := hJ
   exact h.elim

end Go.Proofs
/- Walks of this seat, printed by gen.py over the engine: what each function returns, in whatever world. No conditions but those of each contract. -/
set_option linter.unusedVariables false
set_option linter.unusedSimpArgs false
set_option maxRecDepth 20000
namespace Go.Proofs
open Go.Rt Go.Rt.Ch
open Go.Rt.Ha (firstE firstE_step firstE_stop firstE_end failE nameE felt spanL upto span_mem listL fewest fewTo bit before fewStep drop_lt drop_get drop_next drop_done drop_notin set_take set_zero take_less)
attribute [local irreducible] WL WC Con Yd At Ats Sl Agree DW
theorem Try_P_fb3 (x0 : Int) (x1 : Int) (w : World) : (Instr.buildSlice 39 2 [(0, .int .i64 x0), (1, .int .i64 x1)].toArray).run Try.prog w = .ok (.slice (some ⟨w.heap.size, 0, none⟩) 2 2) (w.alloc (Go.Rt.blk 3 [.int .i64 x0, .int .i64 x1])) := by kernel_rfl
theorem c27 {w0 w : World} {F : List (Nat × Obj)} (b : Board) (p : AtB) (hm : BIn w0 F b p) (a n : Int) (hs : St w0 w F) :
  Con Try.prog 27 [.agg (b.cells p).toArray, .int .i64 a, .int .i64 n] w fun v w' => ∃ B a' c, v = .tuple #[.slice a' (looksP b a n).1.length c, .int .i64 (looksP b a n).2] ∧ Sl w0 B a' 1 ((looksP b a n).1.map fun x => [Value.int .i64 x]) ∧ St w0 w' (B ++ F) := by
  refine con_of_wc (n := 31) Try.func27 rfl rfl (Nat.le_of_ble_eq_true rfl) ?_
  have hlh0 := hm.lh
  have hlc0 := hm.lc
  refine w_seq (fun K2 hK1 => ?_)
  refine w_region ?_
  refine w_box (v := .agg #[.int _ _, .slice _ _ _, .slice _ _ _]) (cs := [_, _, _]) want_none rfl rfl rfl hs (fun b3 w4 hs5 => ?_)
  refine w_box (v := .int _ _) (cs := [_]) want_none rfl rfl rfl hs5 (fun b6 w7 hs8 => ?_)
  refine w_box (v := .int _ _) (cs := [_]) want_none rfl rfl rfl hs8 (fun b9 w10 hs11 => ?_)
  refine w_pure want_none (y_assign (v := _) rfl rfl) rfl ?_
  refine w_pure want_none (y_assign (v := _) rfl rfl) rfl ?_
  refine w_nil ?_
  refine q_then (hK1 _ _ ?_)
  refine w_seq (fun K13 hK12 => ?_)
  refine w_region ?_
  refine w_pure want_none (y_assign (v := _) rfl rfl) rfl ?_
  refine w_nil ?_
  refine q_then (hK12 _ _ ?_)
  refine w_seq (fun K15 hK14 => ?_)
  refine w_cut [8, 11, 12] [8] (fun vs w => vs = [.int .i64 (if n < 0 then (7 : Int) else 0)] ∧ St w0 w ((b9, blk 3 [.int .i64 n]) :: (b6, blk 3 [.int .i64 a]) :: (b3, blk 25 (b.cells p)) :: F)) (fun K17 hC16 => ?_) ?_
  ·
   refine w_seq (fun K19 hK18 => ?_)
   refine w_region ?_
   refine w_pure want_none (y_load1 Try.isAgg3 hs11 rfl rfl (ats_own (i := 0) (vs := [_]) rfl rfl)) rfl ?_
   refine w_pure want_none (y_lss rfl rfl rfl rfl) rfl ?_
   refine w_nil ?_
   refine q_then (hK18 _ _ ?_)
   refine w_cond rfl rfl (fun h20 => ?_) (fun h20 => ?_)
   ·
    try simp only [Bool.not_eq_true', Bool.not_eq_false', decide_eq_true_eq, decide_eq_false_iff_not, Int.not_lt, Int.not_le] at h20
    refine w_region ?_
    refine w_pure want_none (y_assign (v := _) rfl rfl) rfl ?_
    refine w_nil ?_
    refine q_then (hC16 _ _ (Md.intro (by repeat (first | exact agree_refl | exact agree_mix | refine agree_upd rfl ?_ | refine agree_updL rfl ?_ _ | refine agree_mixin rfl ?_)) ?_))
    first
      | exact ⟨by rw [if_pos (by assumption)]; rfl, hs11⟩
      | exact ⟨by rw [if_neg (by omega)]; rfl, hs11⟩
   ·
    try simp only [Bool.not_eq_true', Bool.not_eq_false', decide_eq_true_eq, decide_eq_false_iff_not, Int.not_lt, Int.not_le] at h20
    refine w_skip ?_
    refine q_then (hC16 _ _ (Md.intro (by repeat (first | exact agree_refl | exact agree_mix | refine agree_upd rfl ?_ | refine agree_updL rfl ?_ _ | refine agree_mixin rfl ?_)) ?_))
    first
      | exact ⟨by rw [if_pos (by assumption)]; rfl, hs11⟩
      | exact ⟨by rw [if_neg (by omega)]; rfl, hs11⟩
  ·
   intro vs μ w21 hM
   obtain ⟨rfl, hs⟩ := hM
   refine q_then (hK14 _ _ ?_)
   refine w_seq (fun K23 hK22 => ?_)
   have hb3 : Ats w0 ((b3, blk 25 (b.cells p)) :: F) b3 0 (b.cells p) := ats_own (i := 0) (vs := b.cells p) rfl rfl
   refine w_region ?_
   refine w_pure want_none (y_loadN (vs := [_, _, _]) Try.isAgg25 Try.sizeOf25 hs.tail.tail rfl rfl hb3) rfl ?_
   refine w_pure want_none (y_move (v := .int _ _) rfl rfl) rfl ?_
   refine w_pure want_none (y_load1 Try.isAgg3 hs rfl rfl (ats_own (i := 1) (vs := [_]) rfl rfl)) rfl ?_
   refine w_pure want_none (y_fieldAddr (o := 0) (i := 0) Try.underlying25 rfl Try.sizeOf3 rfl rfl rfl) rfl ?_
   refine w_pure want_none (y_load1 Try.isAgg3 hs.tail.tail rfl rfl (show Ats _ _ _ _ [_] from Ats.part hb3 0 1)) rfl ?_
   refine w_bslice (ps := [(0, _), (1, _)]) (pv := [(0, .int _ _), (1, .int _ _)]) (cs := [_, _]) want_none rfl rfl (fun w => Try_P_fb3 _ _ w) hs (fun b24 w25 hs26 => ?_)
   refine w_call want_none Try.call63 rfl rfl rfl rfl ((by have h := c63 b _ hm.cons.cons.cons.cons (if n < 0 then (7 : Int) else 0) (some ⟨b24, 0, none⟩) 2 [a, b.holds] (by simp) (by simp) (hns_b a) (sl_own (i := 0) (rows := [[_], [_]]) rfl (by simp) rfl) hs26; rw [pairs_looks] at h; exact h)) ?_
   rintro _ w28 (⟨hee, rfl, hs29⟩ | ⟨hee, bb, mm, M, rfl, hM, hs29⟩)
   ·
    refine w_pure want_none (y_move (v := .tuple _) rfl rfl) rfl ?_
    refine w_pure want_none (y_extract (v := .pointer _) rfl rfl rfl) rfl ?_
    refine w_pure want_none (y_extract (v := .int _ _) rfl rfl rfl) rfl ?_
    refine w_alloc (cs := [_]) want_none Try.zeroValue95 rfl hs29 (fun b30 w31 hs32 => ?_)
    refine w_store (i := 0) (v := .pointer _) (vs := [_]) want_none Try.sizeOf95 rfl rfl rfl rfl rfl (by simp [Value.oneCell']) hs32 rfl (Nat.le_of_ble_eq_true rfl) (fun w33 hs34 => ?_)
    refine w_pure want_none (y_assign (v := .int _ _) rfl rfl) rfl ?_
    refine w_nil ?_
    refine q_then (hK22 _ _ ?_)
    refine w_seq (fun K36 hK35 => ?_)
    refine w_seq (fun K38 hK37 => ?_)
    refine w_region ?_
    refine w_pure want_none (y_move (v := .int _ _) rfl rfl) rfl ?_
    refine w_pure want_none (y_neq rfl rfl rfl rfl) rfl ?_
    refine w_nil ?_
    refine q_then (hK37 _ _ ?_)
    refine w_cond rfl rfl (fun h39 => ?_) (fun h39 => ?_)
    ·
     try simp only [Bool.not_eq_true', Bool.not_eq_false', decide_eq_true_eq, decide_eq_false_iff_not, Int.not_lt, Int.not_le] at h39
     refine w_seq (fun K41 hK40 => ?_)
     refine w_region ?_
     refine w_pure want_none (y_move (v := .int _ _) rfl rfl) rfl ?_
     refine w_pure want_none (y_assign (v := _) rfl rfl) rfl ?_
     refine w_pure want_none (y_assign (v := .int _ _) rfl rfl) rfl ?_
     refine w_nil ?_
     refine q_then (hK40 _ _ ?_)
     refine w_ret ?_
     refine q_then_ret ?_
     refine q_ret (l := [.tmp 6, .tmp 7]) (vs := [_, _]) rfl ⟨⟨rfl, show _ = (.slice _ _ _ : Value) from rfl⟩, ⟨rfl, show _ = (.int _ _ : Value) from rfl⟩, trivial⟩ ?_
     exact ⟨[], none, 0, by rw [looksP_e hee]; rfl, by rw [looksP_e hee]; exact Sl.nil _ _, hs34.tail.tail.tail.tail.tail⟩
    ·
     exfalso
     try simp only [Bool.not_eq_true', Bool.not_eq_false', decide_eq_true_eq, decide_eq_false_iff_not, Int.not_lt, Int.not_le] at h39
     first | exact hee h39 | exact h39 hee
   ·
    replace hs29 := (show St _ _ (_ :: M ++ (_ :: _ :: _ :: _ :: F)) from hs29)
    have hs42 := (show St _ _ ([_] ++ (M ++ _)) from hs29).perm (perm_mid [_] M _)
    replace hs42 := (show St _ _ (M ++ (_ :: _ :: _ :: _ :: _ :: F)) from hs42)
    have hew := enterE_ok hee
    have hok := check_ok hew.1
    refine w_pure want_none (y_move (v := .tuple _) rfl rfl) rfl ?_
    refine w_pure want_none (y_extract (v := .pointer _) rfl rfl rfl) rfl ?_
    refine w_pure want_none (y_extract (v := .int _ _) rfl rfl rfl) rfl ?_
    refine w_alloc (cs := [_]) want_none Try.zeroValue95 rfl hs42 (fun b43 w44 hs45 => ?_)
    refine w_store (i := 0) (v := .pointer _) (vs := [_]) want_none Try.sizeOf95 rfl rfl rfl rfl rfl (by simp [Value.oneCell']) hs45 rfl (Nat.le_of_ble_eq_true rfl) (fun w46 hs47 => ?_)
    refine w_pure want_none (y_assign (v := .int _ _) rfl rfl) rfl ?_
    refine w_nil ?_
    refine q_then (hK22 _ _ ?_)
    refine w_seq (fun K49 hK48 => ?_)
    refine w_seq (fun K51 hK50 => ?_)
    refine w_region ?_
    refine w_pure want_none (y_move (v := .int _ _) rfl rfl) rfl ?_
    refine w_pure want_none (y_neq rfl rfl rfl rfl) rfl ?_
    refine w_nil ?_
    refine q_then (hK50 _ _ ?_)
    refine w_condF rfl rfl ?_
    refine w_skip ?_
    refine q_then (hK48 _ _ ?_)
    refine w_seq (fun K53 hK52 => ?_)
    refine w_region ?_
    refine w_pure want_none (y_fieldAddr (o := 1) (i := 1) Try.underlying25 rfl Try.sizeOf22 rfl rfl rfl) rfl ?_
    refine w_pure want_none (y_load1 Try.isAgg22 hs47.tail.drop.tail.tail.tail.tail rfl rfl (show Ats _ _ _ _ [_] from Ats.part hb3 1 1)) rfl ?_
    refine w_pure want_none (y_lenS Try.underlying22 rfl rfl) rfl ?_
    refine w_pure want_none (y_makeFunc (fv := []) (cv := [_, _, _]) rfl rfl rfl rfl) rfl ?_
    have hs54 := (show St _ _ ([_] ++ (M ++ _)) from hs47).perm (perm_mid [_] M _)
    replace hs54 := (show St _ _ (M ++ (_ :: _ :: _ :: _ :: _ :: _ :: F)) from hs54)
    refine w_call want_none Try.call78 rfl rfl rfl rfl (c78 (M := M) (F := _ :: (bb, blk 129 [.int .i64 b.holds, .slice p.ah b.hours.length p.ch, .slice p.ac b.ctrs.length p.cc, .map (some mm)]) :: _ :: _ :: _ :: _ :: F) b.hours.length (by have := hok.lh; omega) _ (tellsS b a n) (Memo w0 b mm) (fun s M X w hs1 hM hs => fcon_fn Try.call79 (c79 b p bb mm ⟨hm.cons.cons.cons.cons.cons.cons, ats_own (i := 1) rfl rfl, hok⟩ s (by have := (shl_256 (n := b.hours.length) (by have := hok.lh; omega)).2; omega) a n _ _ _ (ats_own (i := 0) (vs := [_]) rfl rfl) (ats_own (i := 4) (vs := [_]) rfl rfl) (ats_own (i := 3) (vs := [_]) rfl rfl) hM hs)) hM hs54) ?_
    rintro _ w56 ⟨B, M2, a2, c2, rfl, hslB, hM2, hs57⟩
    replace hs57 := (show St _ _ (B ++ (M2 ++ (_ :: _ :: _ :: _ :: _ :: _ :: F))) from hs57)
    refine w_pure want_none (y_assign (v := .slice _ _ _) rfl rfl) rfl ?_
    refine w_pure want_none (y_assign (v := _) rfl rfl) rfl ?_
    refine w_nil ?_
    refine q_then (hK52 _ _ ?_)
    refine w_ret ?_
    refine q_ret (l := [.tmp 6, .tmp 7]) (vs := [_, _]) rfl ⟨⟨rfl, show _ = (.slice _ _ _ : Value) from rfl⟩, ⟨rfl, show _ = (.int _ _ : Value) from rfl⟩, trivial⟩ ?_
    exact ⟨B, a2, c2, by rw [looksP_y hee]; rfl, by rw [looksP_y hee]; exact hslB, keep_front (P := [_, _, _, _, _, _]) hs57⟩

end Go.Proofs
/- Plain words of the chain layer: boards without some numbers shown, step by step. No conditions. -/
set_option linter.unusedSimpArgs false
set_option linter.unusedVariables false
namespace Go.Rt.Ch
open Go.Rt.Ha
theorem butFrom_len (n s : Nat) : ∀ (l : List Ctr) (i : Nat), (butFrom n s i l).length = l.length
  | [], _ => rfl
  | c :: l, i => by simp only [butFrom, List.length_cons, butFrom_len n s l (i + 1)]
theorem butFrom_get {n s : Nat} : ∀ {l : List Ctr} {i k : Nat} (h : k < l.length), (butFrom n s i l)[k]'(by rw [butFrom_len]; exact h) = butC n s (i + k) l[k]
  | c :: l, i, 0, h => rfl
  | c :: l, i, k + 1, h => by
    simp only [butFrom, List.getElem_cons_succ]
    rw [butFrom_get (l := l) (i := i + 1) (k := k) (by simpa using h), show i + 1 + k = i + (k + 1) by omega]
theorem butB_len (b : Board) (s : Nat) : (butB b s).ctrs.length = b.ctrs.length := butFrom_len _ _ _ _
theorem butB_get {b : Board} {s k : Nat} (h : k < b.ctrs.length) : (butB b s).ctrs[k]'(by rw [butB_len]; exact h) = butC b.hours.length s k b.ctrs[k] := by
  have := butFrom_get (n := b.hours.length) (s := s) (i := 0) h
  rw [Nat.zero_add] at this; exact this
theorem butC_slen (n s i : Nat) (c : Ctr) : (butC n s i c).shown.length = c.shown.length := by simp [butC]
theorem butB_ok {b : Board} (h : b.Ok) (s : Nat) : (butB b s).Ok := by
  refine ⟨h.holds, h.lh, by rw [butB_len]; exact h.lc, h.hour, fun c hc => ?_⟩
  obtain ⟨k, hk, rfl⟩ := List.getElem_of_mem hc
  have hk2 : k < b.ctrs.length := by rw [butB_len] at hk; exact hk
  rw [butB_get hk2]
  have ho := h.ctr _ (List.getElem_mem hk2)
  refine ⟨ho.skip, ho.twice, ho.start, ho.lz, by rw [butC_slen]; exact ho.ls, ho.zero, fun z hz => ?_, ho.nm⟩
  simp only [butC, List.mem_map, List.mem_range] at hz
  obtain ⟨j, hj, rfl⟩ := hz
  split
  · omega
  · have : b.ctrs[k].shown.getD j 0 = b.ctrs[k].shown[j] := by simp [List.getD, hj]
    rw [this]; exact ho.shown _ (List.getElem_mem hj)
/-- The counters, of which the first so many have been gone through. -/
def BL (b : Board) (s i : Nat) : List Ctr := (butB b s).ctrs.take i ++ b.ctrs.drop i
theorem BL_len {b : Board} {s i : Nat} (h : i ≤ b.ctrs.length) : (BL b s i).length = b.ctrs.length := by
  unfold BL; rw [List.length_append, List.length_take, List.length_drop, butB_len]; omega
theorem BL_zero (b : Board) (s : Nat) : BL b s 0 = b.ctrs := by simp [BL]
theorem BL_all {b : Board} {s i : Nat} (h : b.ctrs.length ≤ i) : BL b s i = (butB b s).ctrs := by
  unfold BL; rw [List.take_of_length_le (by rw [butB_len]; exact h), List.drop_of_length_le h, List.append_nil]
theorem BL_get {b : Board} {s i : Nat} (h : i < b.ctrs.length) : (BL b s i)[i]'(by rw [BL_len (by omega)]; exact h) = b.ctrs[i] := by
  have hl : ((butB b s).ctrs.take i).length = i := by rw [List.length_take, butB_len]; omega
  unfold BL
  rw [List.getElem_append_right (by omega)]
  simp [hl]
theorem BL_set {b : Board} {s i : Nat} (h : i < b.ctrs.length) : BL b s (i + 1) = (BL b s i).set i (butC b.hours.length s i b.ctrs[i]) := by
  have hl : ((butB b s).ctrs.take i).length = i := by rw [List.length_take, butB_len]; omega
  unfold BL
  rw [List.set_append_right _ _ (by omega), hl, Nat.sub_self, List.drop_eq_getElem_cons h, List.set_cons_zero, List.take_succ_eq_append_getElem (by rw [butB_len]; exact h), butB_get h, List.append_assoc]; rfl
def setPc (q : Nat → AtC) (i : Nat) (a : Option Addr) (c : Nat) : Nat → AtC := fun j => if j = i then { q i with «as» := a, cs := c } else q j
theorem krows_set {l : List Ctr} {q : Nat → AtC} {i : Nat} {c : Ctr} {a : Option Addr} {cp : Nat} (hi : i < l.length) (hc : c.cells { q i with «as» := a, cs := cp } = (l[i].cells (q i)).set 5 (.slice a l[i].shown.length cp)) : (krows l q).set i ((l[i].cells (q i)).set 5 (.slice a l[i].shown.length cp)) = krows (l.set i c) (setPc q i a cp) := by
  unfold krows
  apply List.ext_getElem
  · simp
  · intro k h1 h2
    have hk : k < l.length := by simpa using h1
    rw [List.getElem_set, List.getElem_mapIdx, List.getElem_mapIdx, List.getElem_set]
    by_cases e : i = k
    · subst e
      rw [if_pos rfl, if_pos rfl]
      unfold setPc; rw [if_pos rfl]; exact hc.symm
    · rw [if_neg e, if_neg e]
      unfold setPc; rw [if_neg (fun h => e h.symm)]
theorem but_cells {n s i : Nat} {c : Ctr} {q : AtC} {a : Option Addr} {cp : Nat} : (butC n s i c).cells { q with «as» := a, cs := cp } = (c.cells q).set 5 (.slice a c.shown.length cp) := by
  unfold Ctr.cells
  rw [butC_slen]; rfl
/-! ### The numbers of one counter -/
def shPart (n s i k : Nat) (l : List Int) : List Int := (List.range l.length).map fun j => if j < k ∧ bit s (i * n + j) = 1 then -1 else l.getD j 0
theorem shPart_len (n s i k : Nat) (l : List Int) : (shPart n s i k l).length = l.length := by simp [shPart]
theorem shPart_zero (n s i : Nat) (l : List Int) : shPart n s i 0 l = l := by
  apply List.ext_getElem
  · rw [shPart_len]
  · intro j h1 h2; simp [shPart, List.getD, h2]
theorem shPart_get {n s i k : Nat} {l : List Int} (hk : k < l.length) : (shPart n s i k l).getD k 0 = l.getD k 0 := by
  simp [shPart, List.getD, hk]
theorem shPart_yes {n s i k : Nat} {l : List Int} (hk : k < l.length) (h : bit s (i * n + k) = 1) : (shPart n s i k l).set k (-1) = shPart n s i (k + 1) l := by
  apply List.ext_getElem
  · simp [shPart]
  · intro j h1 h2
    have hj : j < l.length := by rwa [shPart_len] at h2
    rw [List.getElem_set]
    by_cases e : k = j
    · subst e; simp [shPart, h]
    · rw [if_neg e]
      have e2 : (j < k + 1) ↔ (j < k) := by omega
      simp [shPart, e2]
theorem shPart_no {n s i k : Nat} {l : List Int} (h : bit s (i * n + k) = 0) : shPart n s i k l = shPart n s i (k + 1) l := by
  apply List.ext_getElem
  · simp [shPart]
  · intro j h1 h2
    by_cases e : j = k
    · subst e; simp [shPart, h]
    · have e2 : (j < k + 1) ↔ (j < k) := by omega
      simp [shPart, e2]
theorem shPart_all {n s i k : Nat} {c : Ctr} (hk : c.shown.length ≤ k) : shPart n s i k c.shown = (butC n s i c).shown := by
  unfold shPart butC
  refine List.map_congr_left fun j hj => ?_
  rw [List.mem_range] at hj
  have : j < k := by omega
  simp [this]
/-! ### Whether all of a set are shown -/
def WOK (b : Board) (s m : Nat) : Prop := ∀ j, j < m → ¬ (bit s j = 1 ∧ shownAt b j = -1)
theorem shown_at {b : Board} {i k : Nat} (hi : i < b.ctrs.length) (hk : k < b.hours.length) : shownAt b (i * b.hours.length + k) = b.ctrs[i].shown.getD k 0 := by
  unfold shownAt
  have e1 : (i * b.hours.length + k) / b.hours.length = i := by
    rw [Nat.mul_comm, Nat.mul_add_div (by omega), Nat.div_eq_of_lt hk]; omega
  have e2 : (i * b.hours.length + k) % b.hours.length = k := by
    rw [Nat.mul_comm, Nat.mul_add_mod, Nat.mod_eq_of_lt hk]
  rw [e1, e2, ctr_at hi]
theorem wok_no {b : Board} {s i k : Nat} (h : WOK b s (i * b.hours.length + k)) (hb : bit s (i * b.hours.length + k) = 0) : WOK b s (i * b.hours.length + (k + 1)) := by
  intro j hj
  by_cases e : j = i * b.hours.length + k
  · subst e; rintro ⟨h1, _⟩; omega
  · exact h j (by omega)
theorem wok_yes {b : Board} {s i k : Nat} (hi : i < b.ctrs.length) (hk : k < b.hours.length) (h : WOK b s (i * b.hours.length + k)) (hs : ¬ b.ctrs[i].shown.getD k 0 = -1) : WOK b s (i * b.hours.length + (k + 1)) := by
  intro j hj
  by_cases e : j = i * b.hours.length + k
  · subst e; rintro ⟨_, h2⟩; rw [shown_at hi hk] at h2; exact hs h2
  · exact h j (by omega)
theorem wok_row {b : Board} {s i k : Nat} (hk : b.hours.length ≤ k) (hk2 : k ≤ b.hours.length) (h : WOK b s (i * b.hours.length + k)) : WOK b s ((i + 1) * b.hours.length + 0) := by
  have : k = b.hours.length := by omega
  subst this
  rw [Nat.succ_mul]; exact h
theorem wrongS_no {b : Board} {s i k : Nat} (hi : i < b.ctrs.length) (hk : k < b.hours.length) (hb : bit s (i * b.hours.length + k) = 1) (hs : b.ctrs[i].shown.getD k 0 = -1) : wrongS b s = false := by
  unfold wrongS
  rw [Bool.and_eq_false_iff]
  left
  rw [List.all_eq_false]
  have hlt : i * b.hours.length + k < b.hours.length * b.ctrs.length := by
    have h1 : (i + 1) * b.hours.length ≤ b.ctrs.length * b.hours.length := Nat.mul_le_mul_right _ (by omega)
    rw [Nat.succ_mul, Nat.mul_comm b.ctrs.length] at h1
    omega
  refine ⟨_, List.mem_range.2 hlt, ?_⟩
  rw [shown_at hi hk, hb, hs]; simp
theorem wrongS_yes {b : Board} {s i : Nat} (hi : b.ctrs.length ≤ i) (h : WOK b s (i * b.hours.length + 0)) : wrongS b s = !(truths (butB b s)).isEmpty := by
  unfold wrongS
  rw [List.all_eq_true.2, Bool.true_and]
  intro j hj
  rw [List.mem_range] at hj
  have h1 : b.ctrs.length * b.hours.length ≤ i * b.hours.length := Nat.mul_le_mul_right _ hi
  rw [Nat.mul_comm] at h1
  have := h j (by omega)
  simp only [Bool.not_eq_true', Bool.and_eq_false_iff, decide_eq_false_iff_not]
  by_cases e : bit s j = 1
  · exact .inr fun h2 => this ⟨e, h2⟩
  · exact .inl e
theorem mul_in8 {n c i k : Nat} (hn : n ≤ 4) (hc : c ≤ 2) (hi : i < c) (hk : k < n) : i * n + k < 8 ∧ i * n ≤ 4 := by
  have h1 : i * n ≤ 1 * 4 := Nat.mul_le_mul (by omega) hn
  omega
end Go.Rt.Ch
/- Rows of cells, one of which is set anew. No conditions. -/
set_option linter.unusedSimpArgs false
set_option linter.unusedVariables false
namespace Go.Rt
theorem flat_len_sz {rows : List (List Value)} {sz : Nat} (hr : ∀ row ∈ rows, row.length = sz) : rows.flatten.length = rows.length * sz := by
  induction rows with
  | nil => simp
  | cons r l ih => rw [List.flatten_cons, List.length_append, hr r (.head _), ih fun x hx => hr x (.tail _ hx), List.length_cons, Nat.succ_mul]; omega
theorem setMany_len : ∀ (vs cs : List Value) (off : Nat), (setMany cs off vs).length = cs.length
  | [], cs, off => rfl
  | v :: vs, cs, off => by simp only [setMany]; rw [setMany_len vs]; simp
end Go.Rt
/- Walks of this seat, printed by gen.py over the engine: what each function returns, in whatever world. No conditions but those of each contract. -/
set_option linter.unusedVariables false
set_option linter.unusedSimpArgs false
set_option maxRecDepth 20000
namespace Go.Proofs
open Go.Rt Go.Rt.Ch
open Go.Rt.Ha (firstE firstE_step firstE_stop firstE_end failE nameE felt spanL upto span_mem listL fewest fewTo bit before fewStep drop_lt drop_get drop_next drop_done drop_notin set_take set_zero take_less)
attribute [local irreducible] WL WC Con Yd At Ats Sl Agree DW
theorem Try_Q_fb3  (w : World) : (Instr.buildSlice 23 0 [].toArray).run Try.prog w = .ok (.slice (some ⟨w.heap.size, 0, none⟩) 0 0) (w.alloc (Go.Rt.blk 76 [])) := by kernel_rfl
theorem Try_info76 : Try.prog.info? 76 = some Try.t76 := by kernel_rfl
theorem Try_Q_fb5  (w : World) : (Instr.buildSlice 39 0 [].toArray).run Try.prog w = .ok (.slice (some ⟨w.heap.size, 0, none⟩) 0 0) (w.alloc (Go.Rt.blk 3 [])) := by kernel_rfl
theorem krows_one (l : List Ctr) (q : Nat → AtC) : ∀ row ∈ krows l q, ∀ u ∈ row, u.oneCell' = true := by
  intro row hr u hu
  obtain ⟨i, hi, rfl⟩ := List.getElem_of_mem hr
  simp only [krows, List.getElem_mapIdx, Ctr.cells, List.mem_cons, List.not_mem_nil, or_false] at hu
  rcases hu with rfl | rfl | rfl | rfl | rfl | rfl <;> rfl
theorem ints_rows (l : List Int) : (l.map fun x => [Value.int .i64 x]).flatten = iv l := by induction l with | nil => rfl | cons x l ih => simp only [List.map_cons, List.flatten_cons, ih]; rfl
theorem ints1_one (l : List Int) : ∀ row ∈ l.map (fun x => [Value.int .i64 x]), ∀ u ∈ row, u.oneCell' = true := by
  intro row hr u hu
  obtain ⟨x, _, rfl⟩ := List.mem_map.1 hr
  rw [List.mem_singleton] at hu; subst hu; rfl
/-- Where the counters' lists lie, of which the first so many have been copied. -/
def QC (p : AtB) (qc : Nat → AtC) (i : Nat) : Prop := (∀ j, i ≤ j → qc j = p.pc j) ∧ ∀ j, (qc j).az = (p.pc j).az ∧ (qc j).cz = (p.pc j).cz
def DS (w0 : World) (DB : List (Nat × Obj)) (b : Board) (s : Nat) (qc : Nat → AtC) (i : Nat) : Prop := ∀ k (hk : k < i) (hk2 : k < b.ctrs.length), Sl w0 DB (qc k).as 1 ((butC b.hours.length s k b.ctrs[k]).shown.map fun x => [Value.int .i64 x]) ∧ b.ctrs[k].shown.length ≤ (qc k).cs
theorem qc_zero (p : AtB) : QC p p.pc 0 := ⟨fun _ _ => rfl, fun _ => ⟨rfl, rfl⟩⟩
theorem QC.next {p : AtB} {qc : Nat → AtC} {i : Nat} (h : QC p qc i) (a : Option Addr) (c : Nat) : QC p (setPc qc i a c) (i + 1) := by
  refine ⟨fun j hj => ?_, fun j => ?_⟩
  · unfold setPc; rw [if_neg (by omega)]; exact h.1 j (by omega)
  · unfold setPc
    split
    · rename_i e; subst e; exact h.2 j
    · exact h.2 j
theorem ds_zero (w0 : World) (b : Board) (s : Nat) (qc : Nat → AtC) : DS w0 [] b s qc 0 := fun k hk => by omega
theorem DS.next {w0 : World} {DB B2 : List (Nat × Obj)} {b : Board} {s i : Nat} {qc : Nat → AtC} (h : DS w0 DB b s qc i) {a : Option Addr} {c : Nat} (hi : i < b.ctrs.length) (h2 : Sl w0 B2 a 1 ((butC b.hours.length s i b.ctrs[i]).shown.map fun x => [Value.int .i64 x])) (hc : b.ctrs[i].shown.length ≤ c) : DS w0 (B2 ++ DB) b s (setPc qc i a c) (i + 1) := by
  intro k hk hk2
  unfold setPc
  by_cases e : k = i
  · subst e
    rw [if_pos rfl]
    exact ⟨h2.top, hc⟩
  · rw [if_neg e]
    exact ⟨(h k (by omega) hk2).1.app, (h k (by omega) hk2).2⟩
theorem own_int_sl {w0 : World} {a : Option Addr} {n c : Nat} {l : List Int} {B : List (Nat × Obj)} (h : Rt.Own (.slice a n c) 3 1 n (iv l) B) (hl : l.length = n) : Sl w0 B a 1 (l.map fun x => [Value.int .i64 x]) ∧ n ≤ c := by
  obtain ⟨a', c', h1, h2, h3, _⟩ := own_rows0 (w0 := w0) (rows := l.map fun x => [Value.int .i64 x]) h (by intro row hr; obtain ⟨x, _, rfl⟩ := List.mem_map.1 hr; rfl) (by rw [List.length_map, hl]) (ints_rows l).symm
  injection h1 with e1 _ e3
  subst e1 e3
  exact ⟨h2, h3⟩
theorem drop_set_cell {cs : List Value} {k : Nat} {v : Value} (h : k < cs.length) : ((cs.set k v).drop k).take [v].length = [v] := by
  rw [List.drop_eq_getElem_cons (by simpa using h)]
  simp
theorem take_get {cs : List Value} {l : List Int} {m k : Nat} (h : cs.take (m * 1) = iv l) (hl : l.length = m) (hk : k < m) : (cs.drop (0 + k * 1)).take 1 = [.int .i64 (l.getD k 0)] := by
  have hlen : k < cs.length := by
    have := congrArg List.length h
    rw [List.length_take, List.length_map] at this; omega
  rw [Nat.mul_one, Nat.zero_add, List.drop_eq_getElem_cons hlen]
  have h2 : (cs.take (m * 1))[k]? = (iv l)[k]? := by rw [h]
  rw [List.getElem?_take, if_pos (by omega), List.getElem?_eq_getElem hlen] at h2
  simp only [iv, List.getElem?_map, List.getElem?_eq_getElem (show k < l.length by omega), Option.map_some, Option.some.injEq] at h2
  simp [h2, List.getD, show k < l.length by omega]
theorem take_put {cs : List Value} {l : List Int} {m k : Nat} {z : Int} (h : cs.take (m * 1) = iv l) : (setMany cs (0 + k * 1) [.int .i64 z]).take (m * 1) = iv (l.set k z) := by
  simp only [setMany, Nat.zero_add, Nat.mul_one]
  rw [List.take_set]
  rw [Nat.mul_one] at h
  rw [h]; simp [iv, List.map_set]
theorem but_bin {w0 : World} {F B1 DB : List (Nat × Obj)} {b : Board} {p : AtB} {s i cC : Nat} {aC : Option Addr} {qc : Nat → AtC} (hm : BIn w0 F b p) (hi : b.ctrs.length ≤ i) (hown : Rt.Own (.slice aC b.ctrs.length cC) 76 6 b.ctrs.length (krows (BL b s i) qc).flatten B1) (hq : QC p qc i) (hd : DS w0 DB b s qc i) : BIn w0 (B1 ++ (DB ++ F)) (butB b s) ⟨p.ah, p.ch, aC, cC, qc⟩ := by
  rw [BL_all hi] at hown
  obtain ⟨a', c', h1, h2, h3, _⟩ := own_rows0 (w0 := w0) (rows := krows (butB b s).ctrs qc) hown (krows_row _ _) (by rw [krows_len, butB_len]) rfl
  injection h1 with e1 _ e3
  subst e1 e3
  refine ⟨hm.h.app.app, h2.top, fun k hk => ?_, fun k hk => ?_, hm.lh, by rw [butB_len]; exact hm.lc, hm.ch, by rw [butB_len]; exact h3, fun k hk => ?_, fun k hk => ?_, fun x hx => ?_⟩
  · have hk2 : k < b.ctrs.length := by rw [butB_len] at hk; exact hk
    rw [butB_get hk2, show (qc k).az = (p.pc k).az from (hq.2 k).1]; exact (hm.z k hk2).app.app
  · have hk2 : k < b.ctrs.length := by rw [butB_len] at hk; exact hk
    rw [butB_get hk2]; exact (hd k (by omega) hk2).1.top.app
  · have hk2 : k < b.ctrs.length := by rw [butB_len] at hk; exact hk
    rw [butB_get hk2, show (qc k).cz = (p.pc k).cz from (hq.2 k).2]; exact hm.lz k hk2
  · have hk2 : k < b.ctrs.length := by rw [butB_len] at hk; exact hk
    rw [butB_get hk2, butC_slen]; exact ⟨(hm.ls k hk2).1, (hd k (by omega) hk2).2⟩
  · obtain ⟨k, hk, rfl⟩ := List.getElem_of_mem hx
    have hk2 : k < b.ctrs.length := by rw [butB_len] at hk; exact hk
    rw [butB_get hk2]; exact hm.nm b.ctrs[k] (List.getElem_mem hk2)
theorem c85 {w0 w : World} {F : List (Nat × Obj)} (a : Option Addr) (c : Nat) (l : List Ctr) (q : Nat → AtC) (hl : l.length ≤ 1000000) (ha : Sl w0 F a 6 (krows l q)) (hs : St w0 w F) :
  Con Try.prog 85 [.slice a l.length c] w fun v w' => ∃ a2 c2 B', v = .slice a2 l.length c2 ∧ Rt.Own (.slice a2 l.length c2) 76 6 l.length (krows l q).flatten B' ∧ St w0 w' (B' ++ F) := by
  refine con_of_wc (n := 8) Try.func85 rfl rfl (Nat.le_of_ble_eq_true rfl) ?_
  refine w_seq (fun K2 hK1 => ?_)
  refine w_region ?_
  refine w_pure want_none (y_assign (v := _) rfl rfl) rfl ?_
  refine w_nil ?_
  refine q_then (hK1 _ _ ?_)
  refine w_seq (fun K4 hK3 => ?_)
  refine w_seq (fun K6 hK5 => ?_)
  refine w_region ?_
  refine w_pure want_none (y_move (v := .slice _ _ _) rfl rfl) rfl ?_
  refine w_pure want_none (y_sliceNil Try.underlying23 rfl rfl rfl rfl) rfl ?_
  refine w_nil ?_
  refine q_then (hK5 _ _ ?_)
  refine w_cond rfl rfl (fun h7 => ?_) (fun h7 => ?_)
  ·
   try simp only [Bool.not_eq_true', Bool.not_eq_false', decide_eq_true_eq, decide_eq_false_iff_not, Int.not_lt, Int.not_le] at h7
   refine w_seq (fun K9 hK8 => ?_)
   refine w_region ?_
   refine w_pure want_none (y_assign (v := _) rfl rfl) rfl ?_
   refine w_nil ?_
   refine q_then (hK8 _ _ ?_)
   refine w_ret ?_
   refine q_then_ret ?_
   refine q_ret (l := [.tmp 2]) (vs := [_]) rfl ⟨⟨rfl, show _ = (.slice _ _ _ : Value) from rfl⟩, trivial⟩ ?_
   have hr := sl_none (L := F) (w0 := w0) (by have : a = none := (by simpa using ‹a.isNone = true›); subst this; exact ha)
   have hl0 : l = [] := by simpa [krows] using hr
   subst hl0
   exact ⟨none, 0, [], rfl, own_nil 76 6, hs⟩
  ·
   try simp only [Bool.not_eq_true', Bool.not_eq_false', decide_eq_true_eq, decide_eq_false_iff_not, Int.not_lt, Int.not_le] at h7
   refine w_skip ?_
   refine q_then (hK3 _ _ ?_)
   refine w_seq (fun K11 hK10 => ?_)
   refine w_region ?_
   refine w_bslice (ps := []) (pv := []) (cs := []) want_none rfl rfl (fun w => Try_Q_fb3  w) hs (fun b12 w13 hs14 => ?_)
   refine w_pure want_none (y_move (v := .slice _ _ _) rfl rfl) rfl ?_
   refine w_append (X := ([])) (B := [_]) (rows := krows l q) (sz := 6) (bytes := 88) want_none Try.underlying23 Try_info76 rfl rfl rfl rfl rfl rfl rfl rfl rfl hs14 own_made ha.cons (by simp [krows]) (fun h => by subst h; simp at h7) (krows_one l q) (by simp only [maxLen]; omega) (by omega) (fun v15 w16 B17 ho18 hs19 => ?_)
   replace hs19 := (show St _ _ (B17 ++ (F)) from hs19)
   refine w_pure want_none (y_assign (v := v15) rfl rfl) rfl ?_
   refine w_nil ?_
   refine q_then (hK10 _ _ ?_)
   refine w_ret ?_
   refine q_ret (l := [.tmp 2]) (vs := [_]) rfl ⟨⟨rfl, show _ = (v15 : Value) from rfl⟩, trivial⟩ ?_
   rw [Nat.zero_add, List.nil_append] at ho18
   have h9 := ho18
   obtain ⟨a2, c2, rfl⟩ := h9.slice
   exact ⟨a2, c2, _, rfl, h9, hs19⟩

theorem c86 {w0 w : World} {F : List (Nat × Obj)} (a : Option Addr) (c : Nat) (l : List Int) (hl : l.length ≤ 1000000) (ha : Sl w0 F a 1 (l.map fun x => [Value.int .i64 x])) (hs : St w0 w F) :
  Con Try.prog 86 [.slice a l.length c] w fun v w' => ∃ a2 c2 B', v = .slice a2 l.length c2 ∧ Rt.Own (.slice a2 l.length c2) 3 1 l.length (iv l) B' ∧ St w0 w' (B' ++ F) := by
  refine con_of_wc (n := 8) Try.func86 rfl rfl (Nat.le_of_ble_eq_true rfl) ?_
  refine w_seq (fun K2 hK1 => ?_)
  refine w_region ?_
  refine w_pure want_none (y_assign (v := _) rfl rfl) rfl ?_
  refine w_nil ?_
  refine q_then (hK1 _ _ ?_)
  refine w_seq (fun K4 hK3 => ?_)
  refine w_seq (fun K6 hK5 => ?_)
  refine w_region ?_
  refine w_pure want_none (y_move (v := .slice _ _ _) rfl rfl) rfl ?_
  refine w_pure want_none (y_sliceNil Try.underlying39 rfl rfl rfl rfl) rfl ?_
  refine w_nil ?_
  refine q_then (hK5 _ _ ?_)
  refine w_cond rfl rfl (fun h7 => ?_) (fun h7 => ?_)
  ·
   try simp only [Bool.not_eq_true', Bool.not_eq_false', decide_eq_true_eq, decide_eq_false_iff_not, Int.not_lt, Int.not_le] at h7
   refine w_seq (fun K9 hK8 => ?_)
   refine w_region ?_
   refine w_pure want_none (y_assign (v := _) rfl rfl) rfl ?_
   refine w_nil ?_
   refine q_then (hK8 _ _ ?_)
   refine w_ret ?_
   refine q_then_ret ?_
   refine q_ret (l := [.tmp 2]) (vs := [_]) rfl ⟨⟨rfl, show _ = (.slice _ _ _ : Value) from rfl⟩, trivial⟩ ?_
   have hr := sl_none (L := F) (w0 := w0) (by have : a = none := (by simpa using ‹a.isNone = true›); subst this; exact ha)
   have hl0 : l = [] := by simpa [krows] using hr
   subst hl0
   exact ⟨none, 0, [], rfl, own_nil 3 1, hs⟩
  ·
   try simp only [Bool.not_eq_true', Bool.not_eq_false', decide_eq_true_eq, decide_eq_false_iff_not, Int.not_lt, Int.not_le] at h7
   refine w_skip ?_
   refine q_then (hK3 _ _ ?_)
   refine w_seq (fun K11 hK10 => ?_)
   refine w_region ?_
   refine w_bslice (ps := []) (pv := []) (cs := []) want_none rfl rfl (fun w => Try_Q_fb5  w) hs (fun b12 w13 hs14 => ?_)
   refine w_pure want_none (y_move (v := .slice _ _ _) rfl rfl) rfl ?_
   refine w_append (X := ([])) (B := [_]) (rows := (l.map fun x => [Value.int .i64 x])) (sz := 1) (bytes := 8) want_none Try.underlying39 Try_info3 rfl rfl rfl rfl rfl rfl rfl rfl rfl hs14 own_made ha.cons (by simp) (fun h => by subst h; simp at h7) (ints1_one l) (by simp only [maxLen]; omega) (by omega) (fun v15 w16 B17 ho18 hs19 => ?_)
   replace hs19 := (show St _ _ (B17 ++ (F)) from hs19)
   refine w_pure want_none (y_assign (v := v15) rfl rfl) rfl ?_
   refine w_nil ?_
   refine q_then (hK10 _ _ ?_)
   refine w_ret ?_
   refine q_ret (l := [.tmp 2]) (vs := [_]) rfl ⟨⟨rfl, show _ = (v15 : Value) from rfl⟩, trivial⟩ ?_
   rw [Nat.zero_add, List.nil_append] at ho18
   have h9 := ho18
   obtain ⟨a2, c2, rfl⟩ := h9.slice
   exact ⟨a2, c2, _, rfl, (by rw [ints_rows] at h9; exact h9), hs19⟩

theorem c83 {w0 w : World} {F : List (Nat × Obj)} (b : Board) (p : AtB) (hm : BIn w0 F b p) (hck : (check b).2.2 = 0) (s : Nat) (hs1k : s < 1000) (bq bh : Nat) (h1 : Ats w0 F bq 0 (b.cells p)) (h2 : Ats w0 F bh 0 [.int .i64 (b.hours.length : Int)]) (hs : St w0 w F) :
  Con Try.prog 83 [.int .i64 (s : Int), .pointer (some ⟨bq, 0, none⟩), .pointer (some ⟨bh, 0, none⟩)] w fun v w' => v = .bool (wrongS b s) ∧ St w0 w' F := by
  refine con_of_wc (n := 73) Try.func83 rfl rfl (Nat.le_of_ble_eq_true rfl) ?_
  have hok := check_ok hck
  have hlh := hok.lh
  have hlc := hok.lc
  refine w_seq (fun K2 hK1 => ?_)
  refine w_region ?_
  refine w_pure want_none (y_assign (v := _) rfl rfl) rfl ?_
  refine w_nil ?_
  refine q_then (hK1 _ _ ?_)
  refine w_seq (fun K4 hK3 => ?_)
  refine w_region ?_
  refine w_pure want_none (y_loadN (vs := [_, _, _]) Try.isAgg25 Try.sizeOf25 hs rfl rfl h1) rfl ?_
  refine w_call want_none Try.call84 rfl rfl rfl rfl (c84 b p hs) ?_
  rintro _ w6 ⟨bb, mm, rfl, hs7⟩
  replace hs7 := (show St _ _ (_ :: _ :: F) from hs7)
  refine w_pure want_none (y_assign (v := .pointer _) rfl rfl) rfl ?_
  refine w_nil ?_
  refine q_then (hK3 _ _ ?_)
  refine w_seq (fun K9 hK8 => ?_)
  refine w_region ?_
  refine w_pure want_none (y_move (v := .pointer _) rfl rfl) rfl ?_
  refine w_pure want_none (y_fieldAddr (o := 2) (i := 2) Try.underlying25 rfl Try.sizeOf23 rfl rfl rfl) rfl ?_
  refine w_pure want_none (y_load1 Try.isAgg23 hs7.tail.tail rfl rfl (show Ats _ _ _ _ [_] from Ats.part h1 2 1)) rfl ?_
  refine w_call want_none Try.call85 rfl rfl rfl rfl (c85 _ _ b.ctrs p.pc (by omega) hm.c.cons.cons hs7) ?_
  rintro _ w11 ⟨aC, cC, B1, rfl, hown, hs12⟩
  have hs13 := (show St _ _ (B1 ++ ([_, _] ++ F)) from hs12).perm (perm_mid B1 [_, _] F)
  replace hs13 := (show St _ _ (_ :: _ :: B1 ++ (F)) from hs13)
  refine w_pure want_none (y_nilCheck rfl rfl) rfl ?_
  refine w_pure want_none (y_fieldAddr (o := 0) (i := 0) Try.underlying129 rfl Try.sizeOf25 rfl rfl rfl) rfl ?_
  refine w_pure want_none (y_fieldAddr (o := 2) (i := 2) Try.underlying25 rfl Try.sizeOf23 rfl rfl rfl) rfl ?_
  refine w_store (i := 0) (v := .slice _ _ _) (vs := [_]) want_none Try.sizeOf23 rfl rfl rfl rfl rfl (by simp [Value.oneCell']) hs13 rfl (Nat.le_of_ble_eq_true rfl) (fun w14 hs15 => ?_)
  refine w_nil ?_
  refine q_then (hK8 _ _ ?_)
  refine w_seq (fun K17 hK16 => ?_)
  refine w_seq (fun K19 hK18 => ?_)
  refine w_region ?_
  refine w_pure want_none (y_move (v := .pointer _) rfl rfl) rfl ?_
  refine w_pure want_none (y_nilCheck rfl rfl) rfl ?_
  refine w_pure want_none (y_fieldAddr (o := 0) (i := 0) Try.underlying129 rfl Try.sizeOf25 rfl rfl rfl) rfl ?_
  refine w_pure want_none (y_fieldAddr (o := 2) (i := 2) Try.underlying25 rfl Try.sizeOf23 rfl rfl rfl) rfl ?_
  refine w_pure want_none (y_load1 Try.isAgg23 hs15 rfl rfl (ats_own (i := 0) (vs := [_]) rfl rfl)) rfl ?_
  refine w_pure want_none (y_lenS Try.underlying23 rfl rfl) rfl ?_
  refine w_pure want_none (y_move (v := _) rfl rfl) rfl ?_
  refine w_nil ?_
  refine q_then (hK18 _ _ ?_)
  refine w_block ?_
  refine w_loop [4, 6, 7, 8, 24, 25, 26, 27, 28, 29, 30, 31, 32, 33, 34, 35, 36, 37, 38, 39, 40, 41, 42, 43, 44, 45, 46, 47, 48, 49, 50, 51, 52, 53, 54, 55, 56, 57, 58, 59, 60, 61, 62, 63, 64, 65, 66, 67, 68, 69, 70] [24] (fun kk vs w => ∃ (i : Nat) (B1 DB : List (Nat × Obj)) (qc : Nat → AtC), vs = [.int .i64 i] ∧ i ≤ b.ctrs.length ∧ kk = b.ctrs.length - i ∧ Rt.Own (.slice aC b.ctrs.length cC) 76 6 b.ctrs.length (krows (BL b s i) qc).flatten B1 ∧ QC p qc i ∧ DS w0 DB b s qc i ∧ WOK b s (i * b.hours.length + 0) ∧ St w0 w ((bb, blk 129 [.int .i64 b.holds, .slice p.ah b.hours.length p.ch, .slice aC b.ctrs.length cC, .map (some mm)]) :: (mm, .map #[] 0) :: (B1 ++ (DB ++ F)))) (b.ctrs.length) ?_ ?_
  ·
   exact ⟨0, B1, [], p.pc, rfl, by omega, by omega, by rw [BL_zero]; exact hown, qc_zero p, ds_zero w0 b s _, (fun j hj => by omega), hs15⟩
  ·
   intro k vs μ w22 hI K21 hN20
   clear hs hown
   obtain ⟨i, B1, DB, qc, rfl, hia, rfl, hown, hqc, hds, hwk, hs⟩ := hI
   refine w_seq (fun K24 hK23 => ?_)
   refine w_region ?_
   refine w_pure want_none (y_lss rfl rfl rfl rfl) rfl ?_
   refine w_nil ?_
   refine q_then (hK23 _ _ ?_)
   refine w_seq (fun K26 hK25 => ?_)
   refine w_cond rfl rfl (fun h27 => ?_) (fun h27 => ?_)
   ·
    try simp only [Bool.not_eq_true', Bool.not_eq_false', decide_eq_true_eq, decide_eq_false_iff_not, Int.not_lt, Int.not_le] at h27
    refine w_skip ?_
    refine q_then (hK25 _ _ ?_)
    refine w_seq (fun K29 hK28 => ?_)
    refine w_block ?_
    refine w_seq (fun K31 hK30 => ?_)
    refine w_region ?_
    refine w_pure want_none (y_move (v := .int _ _) rfl rfl) rfl ?_
    refine w_pure want_none (y_assign (v := .int _ _) rfl rfl) rfl ?_
    refine w_nil ?_
    refine q_then (hK30 _ _ ?_)
    refine w_seq (fun K33 hK32 => ?_)
    have hi2 : i < b.ctrs.length := by omega
    have hci := hok.ctr _ (List.getElem_mem hi2)
    have hlz := hci.ls
    obtain ⟨bc, cs, rfl, rfl, hcap, hcapm, hcl, htk⟩ := own_some2 hown (by omega)
    replace hs := (show St _ _ (_ :: _ :: _ :: DB ++ (F)) from hs)
    obtain ⟨bx, ox, hbx2, hrow⟩ := sl_krows (sl_own (w0 := w0) (L := (bc, blk 76 cs) :: (DB ++ F)) (i := 0) rfl (krows_row (BL b s i) qc) (by rw [krows_len, BL_len (by omega)]; exact htk)) (i := i) (by rw [BL_len (by omega)]; exact hi2)
    cases hbx2
    rw [BL_get hi2, hqc.1 i (Nat.le_refl _)] at hrow
    refine w_region ?_
    refine w_pure want_none (y_move (v := .pointer _) rfl rfl) rfl ?_
    refine w_pure want_none (y_nilCheck rfl rfl) rfl ?_
    refine w_pure want_none (y_fieldAddr (o := 0) (i := 0) Try.underlying129 rfl Try.sizeOf25 rfl rfl rfl) rfl ?_
    refine w_pure want_none (y_fieldAddr (o := 2) (i := 2) Try.underlying25 rfl Try.sizeOf23 rfl rfl rfl) rfl ?_
    refine w_pure want_none (y_load1 Try.isAgg23 hs rfl rfl (ats_own (i := 0) (vs := [_]) rfl rfl)) rfl ?_
    refine w_pure want_none (y_move (v := .int _ _) rfl rfl) rfl ?_
    refine w_pure want_none (y_indexS Try.underlying23 Try.sizeOf76 rfl rfl rfl rfl (i := i) rfl hi2) rfl ?_
    refine w_pure want_none (y_assign (v := .pointer _) rfl rfl) rfl ?_
    refine w_nil ?_
    refine q_then (hK32 _ _ ?_)
    refine w_seq (fun K35 hK34 => ?_)
    refine w_region ?_
    refine w_pure want_none (y_move (v := .pointer _) rfl rfl) rfl ?_
    refine w_pure want_none (y_move (v := .pointer _) rfl rfl) rfl ?_
    refine w_pure want_none (y_nilCheck rfl rfl) rfl ?_
    refine w_pure want_none (y_fieldAddr (o := 5) (i := 5) Try.underlying76 rfl Try.sizeOf39 rfl rfl rfl) rfl ?_
    refine w_pure want_none (y_load1 Try.isAgg39 hs.tail.tail rfl rfl (show Ats _ _ _ _ [_] from Ats.part hrow 5 1)) rfl ?_
    refine w_call want_none Try.call86 rfl rfl rfl rfl (c86 _ _ (b.ctrs[i]'hi2).shown (by omega) (hm.s i hi2).app.cons.cons.cons hs) ?_
    rintro _ w37 ⟨a2, c2, B2, rfl, hown2, hs38⟩
    have hs39 := (show St _ _ (B2 ++ ([_, _, _] ++ (DB ++ F))) from hs38).perm (perm_mid B2 [_, _, _] (DB ++ F))
    replace hs39 := (show St _ _ (_ :: _ :: _ :: B2 ++ (DB ++ (F))) from hs39)
    refine w_pure want_none (y_nilCheck rfl rfl) rfl ?_
    refine w_pure want_none (y_fieldAddr (o := 5) (i := 5) Try.underlying76 rfl Try.sizeOf39 rfl rfl rfl) rfl ?_
    refine w_store (i := 2) (v := .slice _ _ _) (vs := [_]) want_none Try.sizeOf39 rfl rfl rfl rfl rfl (by simp [Value.oneCell']) hs39 rfl (by show 0 + i * 6 + 5 + 1 ≤ cs.length; omega) (fun w40 hs41 => ?_)
    replace hs41 := (show St _ _ (_ :: _ :: (bc, blk 76 (setMany cs (0 + i * 6 + 5) [(Value.slice a2 (b.ctrs[i]'hi2).shown.length c2)])) :: (B2 ++ (DB ++ F))) from hs41)
    have he0 : setMany cs (0 + i * 6 + 5) [(Value.slice a2 (b.ctrs[i]'hi2).shown.length c2)] = cs.set (i * 6 + 5) (Value.slice a2 (b.ctrs[i]'hi2).shown.length c2) := by simp only [setMany, Nat.zero_add]
    rw [he0] at hs41
    obtain ⟨cs1, hcs1⟩ : ∃ cs1, cs1 = cs.set (i * 6 + 5) (Value.slice a2 (b.ctrs[i]'hi2).shown.length c2) := ⟨_, rfl⟩
    rw [← hcs1] at hs41
    have hcell : (cs1.drop (0 + i * 6 + 5)).take [(Value.slice a2 (b.ctrs[i]'hi2).shown.length c2)].length = [(Value.slice a2 (b.ctrs[i]'hi2).shown.length c2)] := by rw [hcs1, Nat.zero_add]; exact drop_set_cell (by omega)
    refine w_nil ?_
    refine q_then (hK34 _ _ ?_)
    refine w_seq (fun K43 hK42 => ?_)
    refine w_region ?_
    refine w_pure want_none (y_load1 Try.isAgg3 hs41.tail.tail.tail.drop.drop rfl rfl h2) rfl ?_
    refine w_pure want_none (y_move (v := _) rfl rfl) rfl ?_
    refine w_nil ?_
    refine q_then (hK42 _ _ ?_)
    refine w_block ?_
    refine w_loop [4, 8, 43, 44, 45, 46, 47, 48, 49, 50, 51, 52, 53, 54, 55, 56, 57, 58, 59, 60, 61, 62, 63, 64, 65, 66, 67, 68, 69] [43] (fun kk vs w => ∃ (k : Nat) (B2 : List (Nat × Obj)), vs = [.int .i64 k] ∧ k ≤ b.hours.length ∧ kk = b.hours.length - k ∧ Rt.Own (Value.slice a2 (b.ctrs[i]'hi2).shown.length c2) 3 1 (b.ctrs[i]'hi2).shown.length (iv (shPart b.hours.length s i k (b.ctrs[i]'hi2).shown)) B2 ∧ WOK b s (i * b.hours.length + k) ∧ St w0 w ((bb, blk 129 [.int .i64 b.holds, .slice p.ah b.hours.length p.ch, .slice (some ⟨bc, 0, none⟩) b.ctrs.length cC, .map (some mm)]) :: (mm, .map #[] 0) :: (bc, blk 76 cs1) :: (B2 ++ (DB ++ F)))) (b.hours.length) ?_ ?_
    ·
     exact ⟨0, B2, rfl, by omega, by omega, by rw [shPart_zero]; exact hown2, hwk, hs41⟩
    ·
     intro k vs μ w46 hI K45 hN44
     clear hs hown2
     obtain ⟨k, B2, rfl, hka, rfl, hown2, hwk2, hs⟩ := hI
     refine w_seq (fun K48 hK47 => ?_)
     refine w_region ?_
     refine w_pure want_none (y_lss rfl rfl rfl rfl) rfl ?_
     refine w_nil ?_
     refine q_then (hK47 _ _ ?_)
     refine w_seq (fun K50 hK49 => ?_)
     refine w_cond rfl rfl (fun h51 => ?_) (fun h51 => ?_)
     ·
      try simp only [Bool.not_eq_true', Bool.not_eq_false', decide_eq_true_eq, decide_eq_false_iff_not, Int.not_lt, Int.not_le] at h51
      refine w_skip ?_
      refine q_then (hK49 _ _ ?_)
      refine w_seq (fun K53 hK52 => ?_)
      refine w_block ?_
      refine w_seq (fun K55 hK54 => ?_)
      refine w_region ?_
      refine w_pure want_none (y_move (v := .int _ _) rfl rfl) rfl ?_
      refine w_pure want_none (y_assign (v := .int _ _) rfl rfl) rfl ?_
      refine w_nil ?_
      refine q_then (hK54 _ _ ?_)
      refine w_seq (fun K57 hK56 => ?_)
      refine w_seq (fun K59 hK58 => ?_)
      have hk2 : k < b.hours.length := by omega
      have hm8 := mul_in8 hlh hlc hi2 hk2
      have hmi : ((i : Int) * (b.hours.length : Int)) = ((i * b.hours.length : Nat) : Int) := by push_cast; rfl
      refine w_region ?_
      refine w_pure want_none (y_move (v := .int _ _) rfl rfl) rfl ?_
      refine w_pure want_none (y_move (v := .int _ _) rfl rfl) rfl ?_
      refine w_pure want_none (y_load1 Try.isAgg3 hs.tail.tail.tail.drop.drop rfl rfl h2) rfl ?_
      refine w_pure want_none (yd_cast (z' := ((i * b.hours.length : Nat) : Int)) hmi (y_mul rfl rfl rfl rfl (by omega) (by omega))) rfl ?_
      refine w_pure want_none (y_move (v := .int _ _) rfl rfl) rfl ?_
      refine w_pure want_none (yd_cast (z' := ((i * b.hours.length + k : Nat) : Int)) (by omega) (y_add rfl rfl rfl rfl (by omega) (by omega))) rfl ?_
      refine w_pure want_none (y_shr (x := s) (y := i * b.hours.length + k) rfl rfl rfl rfl (by first | rfl | omega) (by first | rfl | omega) (by first | omega | exact shr_lt (by omega))) rfl ?_
      refine w_pure want_none (show Yd _ _ _ _ (.int .i64 ((bit s (i * b.hours.length + k) : Nat) : Int)) from (y_and (x := _) (y := 1) rfl rfl rfl rfl rfl rfl (by first | omega | exact shr_lt (by omega)) (by first | omega | exact shr_lt (by omega)))) rfl ?_
      refine w_pure want_none (y_eql rfl rfl rfl rfl) rfl ?_
      refine w_nil ?_
      refine q_then (hK58 _ _ ?_)
      refine w_cond rfl rfl (fun h60 => ?_) (fun h60 => ?_)
      ·
       try simp only [Bool.not_eq_true', Bool.not_eq_false', decide_eq_true_eq, decide_eq_false_iff_not, Int.not_lt, Int.not_le] at h60
       refine w_exit ?_
       refine q_then_exit ?_
       refine q_blk_this ?_
       refine q_then (hK52 _ _ ?_)
       refine w_region ?_
       refine w_pure want_none (y_add rfl rfl rfl rfl (by omega) (by omega)) rfl ?_
       refine w_pure want_none (y_move (v := .int _ _) rfl rfl) rfl ?_
       refine w_nil ?_
       refine q_then (hN44 _ _ (Nx.intro (b.hours.length - (k + 1)) (by omega) (by repeat (first | exact agree_mix | refine agree_upd rfl ?_ | refine agree_updL rfl ?_ _ | refine agree_mixin rfl ?_)) ?_))
       exact ⟨k + 1, B2, rfl, by omega, rfl, by rw [← shPart_no (by omega)]; exact hown2, wok_no hwk2 (by omega), hs⟩
      ·
       try simp only [Bool.not_eq_true', Bool.not_eq_false', decide_eq_true_eq, decide_eq_false_iff_not, Int.not_lt, Int.not_le] at h60
       refine w_skip ?_
       refine q_then (hK56 _ _ ?_)
       refine w_seq (fun K62 hK61 => ?_)
       refine w_seq (fun K64 hK63 => ?_)
       have hk2 : k < b.hours.length := by omega
       obtain ⟨d, cs2, rfl, rfl, hcap2, hcapm2, hcl2, htk2⟩ := own_some2 hown2 (by omega)
       replace hs := (show St _ _ (_ :: _ :: _ :: _ :: DB ++ (F)) from hs)
       refine w_region ?_
       refine w_pure want_none (y_move (v := .pointer _) rfl rfl) rfl ?_
       refine w_pure want_none (y_nilCheck rfl rfl) rfl ?_
       refine w_pure want_none (y_fieldAddr (o := 5) (i := 5) Try.underlying76 rfl Try.sizeOf39 rfl rfl rfl) rfl ?_
       refine w_pure want_none (y_load1 Try.isAgg39 hs rfl rfl (ats_own (i := 2) (vs := [_]) rfl hcell)) rfl ?_
       refine w_pure want_none (y_move (v := .int _ _) rfl rfl) rfl ?_
       refine w_pure want_none (y_indexS Try.underlying39 Try.sizeOf3 rfl rfl rfl rfl (i := k) rfl (by omega)) rfl ?_
       refine w_pure want_none (y_load1 Try.isAgg3 hs rfl rfl (ats_own (i := 3) (vs := [_]) rfl (take_get htk2 (by rw [shPart_len]) (by omega)))) rfl ?_
       refine w_pure want_none (y_eql rfl rfl rfl rfl) rfl ?_
       refine w_nil ?_
       refine q_then (hK63 _ _ ?_)
       refine w_cond rfl rfl (fun h65 => ?_) (fun h65 => ?_)
       ·
        try simp only [Bool.not_eq_true', Bool.not_eq_false', decide_eq_true_eq, decide_eq_false_iff_not, Int.not_lt, Int.not_le] at h65
        refine w_seq (fun K67 hK66 => ?_)
        refine w_region ?_
        refine w_pure want_none (y_assign (v := _) rfl rfl) rfl ?_
        refine w_nil ?_
        refine q_then (hK66 _ _ ?_)
        refine w_ret ?_
        refine q_then_ret ?_
        refine q_blk_ret ?_
        refine q_then_ret ?_
        refine q_then_ret ?_
        refine q_blk_ret ?_
        refine q_blk_ret ?_
        refine q_then_ret ?_
        refine q_then_ret ?_
        refine q_blk_ret ?_
        refine q_then_ret ?_
        refine q_ret (l := [.tmp 4]) (vs := [_]) rfl ⟨⟨rfl, show _ = (.bool _ : Value) from rfl⟩, trivial⟩ ?_
        exact ⟨congrArg Value.bool (wrongS_no hi2 hk2 (by have := bit_lt2 s (i * b.hours.length + k); omega) (by rw [← shPart_get (n := b.hours.length) (s := s) (i := i) (by omega)]; assumption)).symm, hs.tail.tail.tail.tail.drop⟩
       ·
        try simp only [Bool.not_eq_true', Bool.not_eq_false', decide_eq_true_eq, decide_eq_false_iff_not, Int.not_lt, Int.not_le] at h65
        refine w_skip ?_
        refine q_then (hK61 _ _ ?_)
        refine w_region ?_
        refine w_pure want_none (y_move (v := .pointer _) rfl rfl) rfl ?_
        refine w_pure want_none (y_nilCheck rfl rfl) rfl ?_
        refine w_pure want_none (y_fieldAddr (o := 5) (i := 5) Try.underlying76 rfl Try.sizeOf39 rfl rfl rfl) rfl ?_
        refine w_pure want_none (y_load1 Try.isAgg39 hs rfl rfl (ats_own (i := 2) (vs := [_]) rfl hcell)) rfl ?_
        refine w_pure want_none (y_move (v := .int _ _) rfl rfl) rfl ?_
        refine w_pure want_none (y_indexS Try.underlying39 Try.sizeOf3 rfl rfl rfl rfl (i := k) rfl (by omega)) rfl ?_
        refine w_store (i := 3) (v := .int _ _) (vs := [_]) want_none Try.sizeOf3 rfl rfl rfl rfl rfl (by simp [Value.oneCell']) hs rfl (by show 0 + k * 1 + 1 ≤ cs2.length; omega) (fun w68 hs69 => ?_)
        refine w_nil ?_
        refine q_blk_normal ?_
        refine q_then (hK52 _ _ ?_)
        refine w_region ?_
        refine w_pure want_none (y_add rfl rfl rfl rfl (by omega) (by omega)) rfl ?_
        refine w_pure want_none (y_move (v := .int _ _) rfl rfl) rfl ?_
        refine w_nil ?_
        refine q_then (hN44 _ _ (Nx.intro (b.hours.length - (k + 1)) (by omega) (by repeat (first | exact agree_mix | refine agree_upd rfl ?_ | refine agree_updL rfl ?_ _ | refine agree_mixin rfl ?_)) ?_))
        exact ⟨k + 1, [(d, blk 3 (setMany cs2 (0 + k * 1) [.int .i64 (-1)]))], rfl, by omega, rfl, own_mk (by rw [List.length_map, shPart_len]; omega) hcap2 hcapm2 (by rw [setMany_len]; exact hcl2) (by rw [← shPart_yes (by omega) (by have := bit_lt2 s (i * b.hours.length + k); omega)]; exact take_put htk2), wok_yes hi2 hk2 hwk2 (by rw [← shPart_get (n := b.hours.length) (s := s) (i := i) (by omega)]; assumption), hs69⟩
     ·
      try simp only [Bool.not_eq_true', Bool.not_eq_false', decide_eq_true_eq, decide_eq_false_iff_not, Int.not_lt, Int.not_le] at h51
      refine w_exit ?_
      refine q_then_exit ?_
      refine q_then_exit ?_
      refine q_blk_this ?_
      refine q_blk_normal ?_
      refine q_then (hK28 _ _ ?_)
      refine w_region ?_
      refine w_pure want_none (y_add rfl rfl rfl rfl (by omega) (by omega)) rfl ?_
      refine w_pure want_none (y_move (v := .int _ _) rfl rfl) rfl ?_
      refine w_nil ?_
      refine q_then (hN20 _ _ (Nx.intro (b.ctrs.length - (i + 1)) (by omega) (by repeat (first | exact agree_mix | refine agree_upd rfl ?_ | refine agree_updL rfl ?_ _ | refine agree_mixin rfl ?_)) ?_))
      have hsl2 := own_int_sl (w0 := w0) hown2 (shPart_len _ _ _ _ _)
      rw [shPart_all (by omega)] at hsl2
      exact ⟨i + 1, [(bc, blk 76 cs1)], B2 ++ DB, setPc qc i a2 c2, rfl, by omega, rfl, own_mk (by rw [flat_len_sz (krows_row _ _), krows_len, BL_len (by omega)]) hcap hcapm (by rw [hcs1, List.length_set]; exact hcl) (by
        rw [hcs1, take_cell (by omega) (krows_row (BL b s i) qc) (by rw [krows_len, BL_len (by omega)]; exact hi2) htk, BL_set hi2, ← krows_set (by rw [BL_len (by omega)]; exact hi2) (by simp only [BL_get hi2]; exact but_cells)]
        simp only [krows, List.getElem_mapIdx, BL_get hi2]), hqc.next _ _, hds.next hi2 hsl2.1 hsl2.2, wok_row (by omega) (by omega) hwk2, (by rw [List.append_assoc]; exact hs)⟩
   ·
    try simp only [Bool.not_eq_true', Bool.not_eq_false', decide_eq_true_eq, decide_eq_false_iff_not, Int.not_lt, Int.not_le] at h27
    refine w_exit ?_
    refine q_then_exit ?_
    refine q_then_exit ?_
    refine q_blk_this ?_
    refine q_then (hK16 _ _ ?_)
    refine w_seq (fun K71 hK70 => ?_)
    have hs72 := swp2 hs
    replace hs72 := (show St _ _ (_ :: _ :: B1 ++ (DB ++ (F))) from hs72)
    have hkb : BK w0 ((bb, blk 129 [.int .i64 b.holds, .slice p.ah b.hours.length p.ch, .slice aC b.ctrs.length cC, .map (some mm)]) :: (B1 ++ (DB ++ F))) (butB b s) ⟨p.ah, p.ch, aC, cC, qc⟩ bb mm := ⟨(but_bin hm (by omega) hown hqc hds).cons, ats_own (i := 0) rfl (by simp only [butB_len]; rfl), butB_ok hok s⟩
    refine w_region ?_
    refine w_pure want_none (y_move (v := .pointer _) rfl rfl) rfl ?_
    refine w_call want_none Try.call87 rfl rfl rfl rfl (c87 (X := []) (M := [(mm, .map #[] 0)]) (butB b s) _ bb mm hkb (memo_new w0 _ mm) hs72) ?_
    rintro _ w74 ⟨rfl, M2, hM2, hs75⟩
    replace hs75 := (show St _ _ (M2 ++ (_ :: B1 ++ (DB ++ (F)))) from hs75)
    refine w_pure want_none (y_assign (v := .bool _) rfl rfl) rfl ?_
    refine w_nil ?_
    refine q_then (hK70 _ _ ?_)
    refine w_ret ?_
    refine q_ret (l := [.tmp 4]) (vs := [_]) rfl ⟨⟨rfl, show _ = (.bool _ : Value) from rfl⟩, trivial⟩ ?_
    exact ⟨congrArg Value.bool (wrongS_yes (by omega) hwk).symm, hs75.drop.tail.drop.drop⟩

end Go.Proofs
/- Walks of this seat, printed by gen.py over the engine: what each function returns, in whatever world. No conditions but those of each contract. -/
set_option linter.unusedVariables false
set_option linter.unusedSimpArgs false
set_option maxRecDepth 20000
namespace Go.Proofs
open Go.Rt Go.Rt.Ch
open Go.Rt.Ha (firstE firstE_step firstE_stop firstE_end failE nameE felt spanL upto span_mem listL fewest fewTo bit before fewStep drop_lt drop_get drop_next drop_done drop_notin set_take set_zero take_less)
attribute [local irreducible] WL WC Con Yd At Ats Sl Agree DW

theorem wrongP_e {b : Board} (h : ¬ (check b).2.2 = 0) : wrongP b = ([], (check b).2.2) := by unfold wrongP; rw [if_pos h]
theorem wrongP_y {b : Board} (h : (check b).2.2 = 0) : wrongP b = ((fewest (wrongS b) (b.hours.length * b.ctrs.length)).1, 0) := by unfold wrongP; rw [if_neg (by simp [h])]
theorem many_8 {b : Board} (h : b.Ok) : b.hours.length * b.ctrs.length ≤ 8 := by
  have h1 := Nat.mul_le_mul h.lh h.lc
  omega
theorem c30 {w0 w : World} {F : List (Nat × Obj)} (b : Board) (p : AtB) (hm : BIn w0 F b p)  (hs : St w0 w F) :
  Con Try.prog 30 [.agg (b.cells p).toArray] w fun v w' => ∃ B a' c, v = .tuple #[.slice a' (wrongP b).1.length c, .int .i64 (wrongP b).2] ∧ Sl w0 B a' 1 ((wrongP b).1.map fun x => [Value.int .i64 x]) ∧ St w0 w' (B ++ F) := by
  refine con_of_wc (n := 27) Try.func30 rfl rfl (Nat.le_of_ble_eq_true rfl) ?_
  have hlh0 := hm.lh
  have hlc0 := hm.lc
  refine w_seq (fun K2 hK1 => ?_)
  refine w_region ?_
  refine w_box (v := .agg #[.int _ _, .slice _ _ _, .slice _ _ _]) (cs := [_, _, _]) want_none rfl rfl rfl hs (fun b3 w4 hs5 => ?_)
  refine w_pure want_none (y_assign (v := _) rfl rfl) rfl ?_
  refine w_pure want_none (y_assign (v := _) rfl rfl) rfl ?_
  refine w_nil ?_
  refine q_then (hK1 _ _ ?_)
  refine w_seq (fun K7 hK6 => ?_)
  refine w_seq (fun K9 hK8 => ?_)
  refine w_region ?_
  refine w_pure want_none (y_loadN (vs := [_, _, _]) Try.isAgg25 Try.sizeOf25 hs5 rfl rfl (ats_own (i := 0) (vs := [_, _, _]) rfl rfl)) rfl ?_
  refine w_call want_none Try.call16 rfl rfl rfl rfl (c16 b _ hm.cons hs5) ?_
  rintro _ w11 ⟨rfl, hs12⟩
  refine w_pure want_none (y_move (v := .tuple _) rfl rfl) rfl ?_
  refine w_pure want_none (y_extract (v := .int _ _) rfl rfl rfl) rfl ?_
  refine w_pure want_none (y_extract (v := .int _ _) rfl rfl rfl) rfl ?_
  refine w_pure want_none (y_extract (v := .int _ _) rfl rfl rfl) rfl ?_
  refine w_pure want_none (y_assign (v := .int _ _) rfl rfl) rfl ?_
  refine w_pure want_none (y_assign (v := .int _ _) rfl rfl) rfl ?_
  refine w_pure want_none (y_assign (v := .int _ _) rfl rfl) rfl ?_
  refine w_nil ?_
  refine q_then (hK8 _ _ ?_)
  refine w_seq (fun K14 hK13 => ?_)
  refine w_region ?_
  refine w_pure want_none (y_move (v := .int _ _) rfl rfl) rfl ?_
  refine w_pure want_none (y_neq rfl rfl rfl rfl) rfl ?_
  refine w_nil ?_
  refine q_then (hK13 _ _ ?_)
  refine w_cond rfl rfl (fun h15 => ?_) (fun h15 => ?_)
  ·
   try simp only [Bool.not_eq_true', Bool.not_eq_false', decide_eq_true_eq, decide_eq_false_iff_not, Int.not_lt, Int.not_le] at h15
   refine w_seq (fun K17 hK16 => ?_)
   refine w_region ?_
   refine w_pure want_none (y_move (v := .int _ _) rfl rfl) rfl ?_
   refine w_pure want_none (y_assign (v := _) rfl rfl) rfl ?_
   refine w_pure want_none (y_assign (v := .int _ _) rfl rfl) rfl ?_
   refine w_nil ?_
   refine q_then (hK16 _ _ ?_)
   refine w_ret ?_
   refine q_then_ret ?_
   refine q_ret (l := [.tmp 2, .tmp 3]) (vs := [_, _]) rfl ⟨⟨rfl, show _ = (.slice _ _ _ : Value) from rfl⟩, ⟨rfl, show _ = (.int _ _ : Value) from rfl⟩, trivial⟩ ?_
   exact ⟨[], none, 0, by rw [wrongP_e (by assumption)]; rfl, by rw [wrongP_e (by assumption)]; exact Sl.nil _ _, hs12.tail⟩
  ·
   try simp only [Bool.not_eq_true', Bool.not_eq_false', decide_eq_true_eq, decide_eq_false_iff_not, Int.not_lt, Int.not_le] at h15
   refine w_skip ?_
   refine q_then (hK6 _ _ ?_)
   refine w_seq (fun K19 hK18 => ?_)
   have hck : (check b).2.2 = 0 := by assumption
   have hok := check_ok hck
   have h8 := many_8 hok
   have hmi : ((b.hours.length : Int) * (b.ctrs.length : Int)) = ((b.hours.length * b.ctrs.length : Nat) : Int) := by push_cast; rfl
   refine w_region ?_
   refine w_pure want_none (y_fieldAddr (o := 1) (i := 1) Try.underlying25 rfl Try.sizeOf22 rfl rfl rfl) rfl ?_
   refine w_pure want_none (y_load1 Try.isAgg22 hs12 rfl rfl (ats_own (i := 0) (vs := [_]) rfl rfl)) rfl ?_
   refine w_pure want_none (y_lenS Try.underlying22 rfl rfl) rfl ?_
   refine w_alloc (cs := [_]) want_none Try.zeroValue3 rfl hs12 (fun b20 w21 hs22 => ?_)
   refine w_store (i := 0) (v := .int _ _) (vs := [_]) want_none Try.sizeOf3 rfl rfl rfl rfl rfl (by simp [Value.oneCell']) hs22 rfl (Nat.le_of_ble_eq_true rfl) (fun w23 hs24 => ?_)
   refine w_nil ?_
   refine q_then (hK18 _ _ ?_)
   refine w_seq (fun K26 hK25 => ?_)
   refine w_region ?_
   refine w_pure want_none (y_load1 Try.isAgg3 hs24 rfl rfl (ats_own (i := 0) (vs := [_]) rfl rfl)) rfl ?_
   refine w_pure want_none (y_fieldAddr (o := 2) (i := 2) Try.underlying25 rfl Try.sizeOf23 rfl rfl rfl) rfl ?_
   refine w_pure want_none (y_load1 Try.isAgg23 hs24 rfl rfl (ats_own (i := 1) (vs := [_]) rfl rfl)) rfl ?_
   refine w_pure want_none (y_lenS Try.underlying23 rfl rfl) rfl ?_
   refine w_pure want_none (yd_cast (z' := ((b.hours.length * b.ctrs.length : Nat) : Int)) hmi (y_mul rfl rfl rfl rfl (by omega) (by omega))) rfl ?_
   refine w_pure want_none (y_makeFunc (fv := []) (cv := [_, _]) rfl rfl rfl rfl) rfl ?_
   refine w_call want_none Try.call78 rfl rfl rfl rfl (c78 (M := []) (F := (b20, blk 3 [.int .i64 (b.hours.length : Int)]) :: (b3, blk 25 (b.cells p)) :: F) (b.hours.length * b.ctrs.length) (many_8 hok) _ (wrongS b) (fun M => M = []) (fun s M X w hs1 hM hs => by subst hM; exact fcon_fn Try.call83 ((c83 b p hm.cons.cons.app hck s (by have := (shl_256 (many_8 hok)).2; omega) _ _ (Ats.app (ats_own (i := 1) (vs := b.cells p) rfl rfl)) (Ats.app (ats_own (i := 0) (vs := [_]) rfl rfl)) hs).mono fun v w h => ⟨h.1, [], rfl, h.2⟩)) rfl hs24) ?_
   rintro _ w28 ⟨B, M2, a2, c2, rfl, hslB, rfl, hs29⟩
   refine w_pure want_none (y_assign (v := .slice _ _ _) rfl rfl) rfl ?_
   refine w_pure want_none (y_assign (v := _) rfl rfl) rfl ?_
   refine w_nil ?_
   refine q_then (hK25 _ _ ?_)
   refine w_ret ?_
   refine q_ret (l := [.tmp 2, .tmp 3]) (vs := [_, _]) rfl ⟨⟨rfl, show _ = (.slice _ _ _ : Value) from rfl⟩, ⟨rfl, show _ = (.int _ _ : Value) from rfl⟩, trivial⟩ ?_
   exact ⟨B, a2, c2, by rw [wrongP_y hck]; rfl, by rw [wrongP_y hck]; exact hslB, keep_front (M := []) (P := [_, _]) hs29⟩

end Go.Proofs
/- Plain words of the chain layer: the document's example. No conditions. -/
set_option linter.unusedSimpArgs false
set_option linter.unusedVariables false
namespace Go.Rt.Ch
open Go.Rt.Ha
def nShip : ByteArray := ⟨#[115, 104, 105, 112]⟩
def nShore : ByteArray := ⟨#[115, 104, 111, 114, 101]⟩
def exB (n : Int) : Board := ⟨2, [⟨0, 10, 13⟩, ⟨0, 8, 11⟩, ⟨1, 10, 12⟩], [⟨nShip, 1, 0, 90, [0, 0, 0], [1, -1, 22]⟩, ⟨nShore, 0, 2, 0, [0, 2, 0], [13, 10, n]⟩]⟩
theorem ex_went1 : wentP (exB 21) 0 = ((11, 12), 0) := by decide +kernel
theorem ex_hold1 : holdP (exB 21) 0 = ((21, 22), 0) := by decide +kernel
theorem ex_right1 : rightP (exB 21) 0 = (0, 0) := by decide +kernel
theorem ex_right2 : rightP (exB 21) 1 = (2, 0) := by decide +kernel
theorem ex_zero1 : zeroP (exB 21) 1 1 = (1, 0) := by decide +kernel
theorem ex_looks1 : looksP (exB 21) 0 0 = ([0], 0) := by decide +kernel
theorem ex_looks2 : looksP (exB 21) 0 1 = ([], 0) := by decide +kernel
theorem ex_wrong1 : wrongP (exB 30) = ([5], 0) := by decide +kernel
theorem ex_went2 : wentP (exB 30) 0 = ((0, 0), 8) := by decide +kernel
theorem ex_looks3 : looksP (exB 21) 0 (-1) = ([], 7) := by decide +kernel
theorem ex_went3 : wentP (exB 21) 1 = ((10, 10), 0) := by decide +kernel
theorem ex_went4 : wentP (exB 21) 2 = ((11, 11), 0) := by decide +kernel
theorem ex_hold2 : holdP (exB 21) 1 = ((11, 11), 0) := by decide +kernel
theorem ex_zero2 : zeroP (exB 21) 1 2 = (2, 0) := by decide +kernel
theorem ex_looks4 : looksP (exB 21) 1 0 = ([], 0) := by decide +kernel
theorem ex_wrong2 : wrongP (exB 21) = ([], 0) := by decide +kernel
end Go.Rt.Ch
