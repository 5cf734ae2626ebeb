/- Walks of this seat, printed by gen.py over the engine: what each function returns, in whatever world. No conditions but those of each contract. -/
import Derived.Test.YtofoabifbkhkfaaV
set_option linter.unusedVariables false
set_option linter.unusedSimpArgs false
set_option maxRecDepth 20000
namespace Go.Proofs
open Go.Rt
attribute [local irreducible] WL WC Con Yd At Ats Sl Agree DW
theorem Try_W_fb9 (x0 : Option Addr) (l0 c0 : Nat) (w : World) : (Instr.buildSlice 62 1 [(0, .slice x0 l0 c0)].toArray).run Try.prog w = .ok (.slice (some ⟨w.heap.size, 0, none⟩) 1 1) (w.alloc (Go.Rt.blk 27 [.slice x0 l0 c0])) := by kernel_rfl
theorem all_call {w0 w : World} {F : List (Nat × Obj)} (n : Nat) (z : Int) (hn : n ≤ 3) (below : Nat) (hbe : below ≤ 11) (hz : z = (below : Int) - 1) (hs : St w0 w F) :
    Con Try.prog 68 [.int .i64 (n : Int), .int .i64 0, .int .i64 z] w fun v w' => ∃ (B : List (Nat × Obj)) (vs : List Value) (a : Option Addr) (c : Nat), v = .slice a (allC below n).length c ∧ Sl w0 (B ++ F) a 1 (vs.map fun v => [v]) ∧ EL w0 (B ++ F) vs (allC below n) ∧ St w0 w' (B ++ F) := by
  subst hz; exact c68 n below hn hbe hs
theorem does_full {p : Port} {l : List Int} (h : does p l = 1) : full p l = true := by
  unfold does at h
  split at h
  · assumption
  · split at h <;> omega
theorem does_not {p : Port} {l : List Int} (h : ¬ does p l = 1) : full p l = false := by
  unfold does at h
  split at h
  · omega
  · rename_i h2; simpa using h2
theorem filter_snoc {α : Type} {f : α → Bool} {l : List α} {i : Nat} (hi : i < l.length) (hf : f l[i] = true) : (l.take (i + 1)).filter f = (l.take i).filter f ++ [l[i]] := by
  rw [List.take_succ_eq_append_getElem hi, List.filter_append, List.filter_cons_of_pos hf]; rfl
theorem filter_same {α : Type} {f : α → Bool} {l : List α} {i : Nat} (hi : i < l.length) (hf : f l[i] = false) : (l.take (i + 1)).filter f = (l.take i).filter f := by
  rw [List.take_succ_eq_append_getElem hi, List.filter_append, List.filter_cons_of_neg (by simp [hf])]; simp
theorem all_small (below n : Nat) (hb : below ≤ 11) (hn : n ≤ 3) : (allC below n).length ≤ 1728 := by
  unfold allC
  rw [seg_count, dys_len]
  have h1 : (below + 1) ^ n ≤ 12 ^ n := Nat.pow_le_pow_left (by omega) n
  have h2 : 12 ^ n ≤ 12 ^ 3 := Nat.pow_le_pow_right (by omega) hn
  omega
theorem do_end {w0 w : World} {NB BA F : List (Nat × Obj)} {x : Nat × Obj} : NB ++ (BA ++ (x :: F)) = (NB ++ (BA ++ [x])) ++ F := by simp
theorem c47 {w0 w : World} {F : List (Nat × Obj)} (p : Port) (a : Option Addr) (c : Nat) (ha : Sl w0 F a 6 (rows p.farms)) (hok : p.Ok)  (hs : St w0 w F) :
  Con Try.prog 47 [.agg (p.cells a c).toArray] w fun v w' => ∃ (B : List (Nat × Obj)) (vs : List Value) (ad : Option Addr) (cd : Nat), v = .slice ad (doC p).length cd ∧ Sl w0 (B ++ F) ad 1 (vs.map fun v => [v]) ∧ EL w0 (B ++ F) vs (doC p) ∧ St w0 w' (B ++ F) := by
  refine con_of_wc (n := 31) Try.func47 rfl rfl (Nat.le_of_ble_eq_true rfl) ?_
  have hlen3 := hok.len
  have hsm := all_small 11 p.farms.length (by omega) hlen3
  refine w_seq (fun K2 hK1 => ?_)
  refine w_region ?_
  refine w_box (v := .agg #[.int _ _, .int _ _, .int _ _, .slice _ _ _]) (cs := [_, _, _, _]) want_none rfl rfl rfl hs (fun b3 w4 hs5 => ?_)
  refine w_pure want_none (y_assign (v := _) rfl rfl) rfl ?_
  refine w_nil ?_
  refine q_then (hK1 _ _ ?_)
  refine w_seq (fun K7 hK6 => ?_)
  refine w_region ?_
  refine w_pure want_none (y_fieldAddr (o := 3) (i := 2) Try.underlying26 rfl Try.sizeOf24 rfl rfl rfl) rfl ?_
  refine w_pure want_none (y_load1 Try.isAgg24 hs5 rfl rfl (ats_own (i := 0) (vs := [_]) rfl rfl)) rfl ?_
  refine w_pure want_none (y_lenS Try.underlying24 rfl rfl) rfl ?_
  refine w_call want_none Try.call68 rfl rfl rfl rfl (all_call p.farms.length _ hlen3 11 (by omega) (by omega) hs5) ?_
  rintro _ w9 ⟨BA, va, aa, ca, rfl, hsa, hea, hs10⟩
  replace hs10 := (show St _ _ (BA ++ (_ :: F)) from hs10)
  have hbx : Ats w0 ((b3, blk 26 (p.cells a c)) :: F) b3 0 (p.cells a c) := ats_own (i := 0) (vs := p.cells a c) rfl rfl
  refine w_pure want_none (y_assign (v := .slice _ _ _) rfl rfl) rfl ?_
  refine w_nil ?_
  refine q_then (hK6 _ _ ?_)
  refine w_seq (fun K12 hK11 => ?_)
  refine w_region ?_
  refine w_pure want_none (y_assign (v := _) rfl rfl) rfl ?_
  refine w_nil ?_
  refine q_then (hK11 _ _ ?_)
  refine w_seq (fun K14 hK13 => ?_)
  refine w_seq (fun K16 hK15 => ?_)
  refine w_region ?_
  refine w_pure want_none (y_assign (v := _) rfl rfl) rfl ?_
  refine w_nil ?_
  refine q_then (hK15 _ _ ?_)
  refine w_block ?_
  refine w_loop [4, 5, 10, 11, 12, 13, 14, 15, 16, 17, 18, 19, 20, 21, 22, 23, 24, 25, 26, 27, 28, 29] [4, 5] (fun kk vs0 w => ∃ (i : Nat) (v : Value) (NB : List (Nat × Obj)) (ws : List Value), vs0 = [v, .int .i64 i] ∧ i ≤ (allC 11 p.farms.length).length ∧ kk = (allC 11 p.farms.length).length - i ∧ Rt.Own v 27 1 (((allC 11 p.farms.length).take i).filter fun l => full p l).length ws NB ∧ EL w0 (BA ++ ((b3, blk 26 (p.cells a c)) :: F)) ws (((allC 11 p.farms.length).take i).filter fun l => full p l) ∧ St w0 w (NB ++ (BA ++ ((b3, blk 26 (p.cells a c)) :: F)))) ((allC 11 p.farms.length).length) ?_ ?_
  ·
    exact ⟨0, _, [], [], rfl, by omega, by omega, own_nil 27 1, EL.nil _ _, hs10⟩
  ·
    intro k vs μ w19 hI K18 hN17
    obtain ⟨i, v, NB, ws, rfl, hia, rfl, hown, hel, hs⟩ := hI
    refine w_seq (fun K21 hK20 => ?_)
    refine w_seq (fun K23 hK22 => ?_)
    refine w_region ?_
    refine w_pure want_none (y_move (v := .int _ _) rfl rfl) rfl ?_
    refine w_pure want_none (y_move (v := .slice _ _ _) rfl rfl) rfl ?_
    refine w_pure want_none (y_lenS Try.underlying62 rfl rfl) rfl ?_
    refine w_pure want_none (y_lss rfl rfl rfl rfl) rfl ?_
    refine w_nil ?_
    refine q_then (hK22 _ _ ?_)
    refine w_cond rfl rfl (fun h24 => ?_) (fun h24 => ?_)
    ·
      try simp only [Bool.not_eq_true', Bool.not_eq_false', decide_eq_true_eq, decide_eq_false_iff_not, Int.not_lt, Int.not_le] at h24
      refine w_skip ?_
      refine q_then (hK20 _ _ ?_)
      refine w_seq (fun K26 hK25 => ?_)
      refine w_block ?_
      refine w_seq (fun K28 hK27 => ?_)
      have hi2 : i < (allC 11 p.farms.length).length := by omega
      obtain ⟨bx, ox, b2, c2, rfl, hx, hsx0, hnx⟩ := el_at hsa hea hi2
      have hfl : (((allC 11 p.farms.length).take i).filter fun l => full p l).length ≤ 1728 := Nat.le_trans (List.length_filter_le _ _) (by rw [List.length_take]; omega)
      refine w_draw [] [(0, 1), (1, 0), (2, 0), (3, 0), (4, 1), (5, 2), (6, 0)] Try_mo (by kernel_rfl) hs (fun w29 hs30 => ?_)
      refine d_take rfl want_none rfl hs30 (fun _ hq => (y_loadN (vs := [_, _, _, _]) Try.isAgg26 Try.sizeOf26 hq.drop.drop rfl rfl hbx)) ?_
      refine d_any rfl want_none rfl (fun _ => (y_move (v := .slice _ _ _) rfl rfl)) ?_
      refine d_any rfl want_none rfl (fun _ => (y_move (v := .int _ _) rfl rfl)) ?_
      refine d_any rfl want_none rfl (fun _ => (y_indexS Try.underlying62 Try.sizeOf27 rfl rfl rfl rfl (i := _) rfl (by omega))) ?_
      refine d_take rfl want_none rfl hs30 (fun _ hq => (y_load1 Try.isAgg27 hq.drop rfl rfl hx)) ?_
      refine d_eff rfl ?_
      refine w_call want_none Try.call42 rfl rfl rfl rfl (c42 p _ _ ha.cons.app.app hok _ _ ((allC 11 p.farms.length)[i]'hi2) (all_len2 hi2) hsx0.app (fun y hy => by have := all_in (List.getElem_mem hi2) y hy; omega) hs30) ?_
      rintro _ w32 ⟨rfl, hs33⟩
      refine w_nil ?_
      refine qn ⟨hs33, ?_⟩
      refine d_any rfl want_none rfl (fun _ => (y_eql rfl rfl rfl rfl)) ?_
      refine d_nil ?_
      refine q_then (hK27 _ _ ?_)
      refine w_cond rfl rfl (fun h34 => ?_) (fun h34 => ?_)
      ·
        try simp only [Bool.not_eq_true', Bool.not_eq_false', decide_eq_true_eq, decide_eq_false_iff_not, Int.not_lt, Int.not_le] at h34
        refine w_region ?_
        refine w_pure want_none (y_move (v := v) rfl rfl) rfl ?_
        refine w_pure want_none (y_move (v := .slice _ _ _) rfl rfl) rfl ?_
        refine w_pure want_none (y_move (v := .int _ _) rfl rfl) rfl ?_
        refine w_pure want_none (y_indexS Try.underlying62 Try.sizeOf27 rfl rfl rfl rfl (i := _) rfl (by omega)) rfl ?_
        refine w_pure want_none (y_load1 Try.isAgg27 hs33.drop rfl rfl hx) rfl ?_
        refine w_bslice (ps := [(0, _)]) (pv := [(0, .slice _ _ _)]) (cs := [_]) want_none rfl rfl (fun w => Try_W_fb9 _ _ _ w) hs33 (fun b35 w36 hs37 => ?_)
        refine w_append (X := (_ :: [])) (B := NB) (rows := [[_]]) (sz := 1) (bytes := 24) want_none Try.underlying62 Try_info27 rfl rfl rfl rfl rfl rfl rfl rfl rfl hs37 hown (sl_own (i := 0) rfl (by simp) rfl) rfl (by simp) (by simp [Value.oneCell']) (by simp only [maxLen]; omega) (by omega) (fun v38 w39 B40 ho41 hs42 => ?_)
        replace hs42 := (show St _ _ (_ :: B40 ++ (BA ++ (_ :: F))) from hs42)
        refine w_pure want_none (y_assign (v := v38) rfl rfl) rfl ?_
        refine w_nil ?_
        refine q_blk_normal ?_
        refine q_then (hK25 _ _ ?_)
        refine w_region ?_
        refine w_pure want_none (y_move (v := .int _ _) rfl rfl) rfl ?_
        refine w_pure want_none (y_add rfl rfl rfl rfl (by omega) (by omega)) rfl ?_
        refine w_pure want_none (y_assign (v := .int _ _) rfl rfl) rfl ?_
        refine w_nil ?_
        refine q_then (hN17 _ _ (Nx.intro ((allC 11 p.farms.length).length - (i + 1)) (by omega) (by repeat (first | exact agree_mix | refine agree_upd rfl ?_ | refine agree_updL rfl ?_ _ | refine agree_mixin rfl ?_)) ?_))
        first
          | exact ⟨i + 1, _, _, _, rfl, by omega, by omega, by rw [filter_snoc hi2 (does_full (by assumption))]; exact own_more ho41, by rw [filter_snoc hi2 (does_full (by assumption))]; exact hel.snoc hsx0 hnx, hs42.tail⟩
          | exact ⟨i + 1, _, _, _, rfl, by omega, by omega, by rw [filter_same hi2 (does_not (by assumption))]; exact hown, by rw [filter_same hi2 (does_not (by assumption))]; exact hel, hs42⟩
      ·
        try simp only [Bool.not_eq_true', Bool.not_eq_false', decide_eq_true_eq, decide_eq_false_iff_not, Int.not_lt, Int.not_le] at h34
        refine w_skip ?_
        refine q_blk_normal ?_
        refine q_then (hK25 _ _ ?_)
        refine w_region ?_
        refine w_pure want_none (y_move (v := .int _ _) rfl rfl) rfl ?_
        refine w_pure want_none (y_add rfl rfl rfl rfl (by omega) (by omega)) rfl ?_
        refine w_pure want_none (y_assign (v := .int _ _) rfl rfl) rfl ?_
        refine w_nil ?_
        refine q_then (hN17 _ _ (Nx.intro ((allC 11 p.farms.length).length - (i + 1)) (by omega) (by repeat (first | exact agree_mix | refine agree_upd rfl ?_ | refine agree_updL rfl ?_ _ | refine agree_mixin rfl ?_)) ?_))
        first
          | exact ⟨i + 1, _, _, _, rfl, by omega, by omega, by rw [filter_snoc hi2 (does_full (by assumption))]; exact own_more , by rw [filter_snoc hi2 (does_full (by assumption))]; exact hel.snoc hsx0 hnx, hs33.tail⟩
          | exact ⟨i + 1, _, _, _, rfl, by omega, by omega, by rw [filter_same hi2 (does_not (by assumption))]; exact hown, by rw [filter_same hi2 (does_not (by assumption))]; exact hel, hs33⟩
    ·
      try simp only [Bool.not_eq_true', Bool.not_eq_false', decide_eq_true_eq, decide_eq_false_iff_not, Int.not_lt, Int.not_le] at h24
      refine w_exit ?_
      refine q_then_exit ?_
      refine q_then_exit ?_
      refine q_blk_this ?_
      refine q_then (hK13 _ _ ?_)
      refine w_seq (fun K44 hK43 => ?_)
      refine w_region ?_
      refine w_pure want_none (y_move (v := v) rfl rfl) rfl ?_
      refine w_pure want_none (y_assign (v := v) rfl rfl) rfl ?_
      refine w_nil ?_
      refine q_then (hK43 _ _ ?_)
      refine w_ret ?_
      refine q_ret (l := [.tmp 2]) (vs := [_]) rfl ⟨⟨rfl, show _ = (v : Value) from rfl⟩, trivial⟩ ?_
      rw [List.take_of_length_le (by omega)] at hown hel
      obtain ⟨ad, cd, rfl, hsd⟩ := own_sl_id (w0 := w0) hown hel.1 _
      exact ⟨NB ++ (BA ++ [_]), ws, ad, cd, rfl, hsd.mono fun _ h => St.cast (do_end (w0 := w0) (w := w0)).symm h, (hel.mono fun _ h => h.drop).mono fun _ h => St.cast (do_end (w0 := w0) (w := w0)).symm h, St.cast (do_end (w0 := w0) (w := w0)) hs⟩

theorem c44 {w0 w : World} {F : List (Nat × Obj)} (p : Port) (a : Option Addr) (c : Nat) (ha : Sl w0 F a 6 (rows p.farms)) (hok : p.Ok) (ax : Option Addr) (cx : Nat) (x : List Int) (hxn : x.length = p.farms.length) (hxs : Sl w0 F ax 1 (x.map fun x => [Value.int .i64 x])) (hxi : ∀ z ∈ x, -1 ≤ z ∧ z ≤ 10) (ay : Option Addr) (cy : Nat) (y : List Int) (hyn : y.length = p.farms.length) (hys : Sl w0 F ay 1 (y.map fun x => [Value.int .i64 x])) (hyi : ∀ z ∈ y, -1 ≤ z ∧ z ≤ 10) (hs : St w0 w F) :
  Con Try.prog 44 [.agg (p.cells a c).toArray, .slice ax x.length cx, .slice ay y.length cy] w fun v w' => v = .bool (before p x y) ∧ St w0 w' F := by
  refine con_of_wc (n := 74) Try.func44 rfl rfl (Nat.le_of_ble_eq_true rfl) ?_
  have hlen3 := hok.len
  refine w_seq (fun K2 hK1 => ?_)
  refine w_region ?_
  refine w_box (v := .agg #[.int _ _, .int _ _, .int _ _, .slice _ _ _]) (cs := [_, _, _, _]) want_none rfl rfl rfl hs (fun b3 w4 hs5 => ?_)
  refine w_pure want_none (y_assign (v := _) rfl rfl) rfl ?_
  refine w_nil ?_
  refine q_then (hK1 _ _ ?_)
  refine w_seq (fun K7 hK6 => ?_)
  refine w_seq (fun K9 hK8 => ?_)
  refine w_draw [] [(0, 1), (1, 0), (3, 1), (4, 0), (2, 2), (5, 2), (6, 0)] Try_mo (by kernel_rfl) hs5 (fun w10 hs11 => ?_)
  refine d_take rfl want_none rfl hs11 (fun _ hq => (y_loadN (vs := [_, _, _, _]) Try.isAgg26 Try.sizeOf26 hq rfl rfl (ats_own (i := 0) (vs := [_, _, _, _]) rfl rfl))) ?_
  refine d_any rfl want_none rfl (fun _ => (y_move (v := .slice _ _ _) rfl rfl)) ?_
  refine d_take rfl want_none rfl hs11 (fun _ hq => (y_loadN (vs := [_, _, _, _]) Try.isAgg26 Try.sizeOf26 hq rfl rfl (ats_own (i := 0) (vs := [_, _, _, _]) rfl rfl))) ?_
  refine d_any rfl want_none rfl (fun _ => (y_move (v := .slice _ _ _) rfl rfl)) ?_
  refine d_eff rfl ?_
  refine w_call want_none Try.call43 rfl rfl rfl rfl (c43 p _ _ ha.cons hok _ _ x hxn hxs.cons hxi hs11) ?_
  rintro _ w13 ⟨rfl, hs14⟩
  refine w_nil ?_
  refine qn ⟨hs14, ?_⟩
  refine d_eff rfl ?_
  refine w_call want_none Try.call43 rfl rfl rfl rfl (c43 p _ _ ha.cons hok _ _ y hyn hys.cons hyi hs14) ?_
  rintro _ w16 ⟨rfl, hs17⟩
  refine w_nil ?_
  refine qn ⟨hs17, ?_⟩
  refine d_any rfl want_none rfl (fun _ => (y_neq rfl rfl rfl rfl)) ?_
  refine d_nil ?_
  refine q_then (hK8 _ _ ?_)
  refine w_cond rfl rfl (fun h18 => ?_) (fun h18 => ?_)
  ·
    try simp only [Bool.not_eq_true', Bool.not_eq_false', decide_eq_true_eq, decide_eq_false_iff_not, Int.not_lt, Int.not_le] at h18
    refine w_seq (fun K20 hK19 => ?_)
    refine w_draw [] [(0, 1), (1, 0), (3, 1), (4, 0), (2, 2), (5, 2), (6, 0), (7, 0)] Try_mo (by kernel_rfl) hs17 (fun w21 hs22 => ?_)
    refine d_take rfl want_none rfl hs22 (fun _ hq => (y_loadN (vs := [_, _, _, _]) Try.isAgg26 Try.sizeOf26 hq rfl rfl (ats_own (i := 0) (vs := [_, _, _, _]) rfl rfl))) ?_
    refine d_any rfl want_none rfl (fun _ => (y_move (v := .slice _ _ _) rfl rfl)) ?_
    refine d_take rfl want_none rfl hs22 (fun _ hq => (y_loadN (vs := [_, _, _, _]) Try.isAgg26 Try.sizeOf26 hq rfl rfl (ats_own (i := 0) (vs := [_, _, _, _]) rfl rfl))) ?_
    refine d_any rfl want_none rfl (fun _ => (y_move (v := .slice _ _ _) rfl rfl)) ?_
    refine d_eff rfl ?_
    refine w_call want_none Try.call43 rfl rfl rfl rfl (c43 p _ _ ha.cons hok _ _ x hxn hxs.cons hxi hs22) ?_
    rintro _ w24 ⟨rfl, hs25⟩
    refine w_nil ?_
    refine qn ⟨hs25, ?_⟩
    refine d_eff rfl ?_
    refine w_call want_none Try.call43 rfl rfl rfl rfl (c43 p _ _ ha.cons hok _ _ y hyn hys.cons hyi hs25) ?_
    rintro _ w27 ⟨rfl, hs28⟩
    refine w_nil ?_
    refine qn ⟨hs28, ?_⟩
    refine d_any rfl want_none rfl (fun _ => (y_lss rfl rfl rfl rfl)) ?_
    refine d_any rfl want_none rfl (fun _ => (y_assign (v := .bool _) rfl rfl)) ?_
    refine d_nil ?_
    refine q_then (hK19 _ _ ?_)
    refine w_ret ?_
    refine q_then_ret ?_
    refine q_ret (l := [.tmp 6]) (vs := [_]) rfl ⟨⟨rfl, show _ = (.bool _ : Value) from rfl⟩, trivial⟩ ?_
    first
      | exact ⟨congrArg Value.bool (by unfold before; rw [if_neg (by assumption)]), hs28.tail⟩
      | exact ⟨congrArg Value.bool (by unfold before; rw [if_pos (by assumption), if_neg (by assumption)]), hs28.tail⟩
      | exact ⟨congrArg Value.bool (by unfold before; rw [if_pos (by assumption), if_pos (by assumption), beforeL_end hpre (by omega) (by omega)]), hs28.tail⟩
      | (refine ⟨congrArg Value.bool ?_, hs28.tail⟩; unfold before; rw [if_pos (by assumption), if_pos (by assumption), beforeL_here hpre hi2 hi3 (by assumption)]; simp [h18])
  ·
    try simp only [Bool.not_eq_true', Bool.not_eq_false', decide_eq_true_eq, decide_eq_false_iff_not, Int.not_lt, Int.not_le] at h18
    refine w_skip ?_
    refine q_then (hK6 _ _ ?_)
    refine w_seq (fun K30 hK29 => ?_)
    refine w_seq (fun K32 hK31 => ?_)
    refine w_draw [] [(0, 1), (1, 0), (3, 1), (4, 0), (2, 2), (5, 2), (6, 0)] Try_mo (by kernel_rfl) hs17 (fun w33 hs34 => ?_)
    refine d_take rfl want_none rfl hs34 (fun _ hq => (y_loadN (vs := [_, _, _, _]) Try.isAgg26 Try.sizeOf26 hq rfl rfl (ats_own (i := 0) (vs := [_, _, _, _]) rfl rfl))) ?_
    refine d_any rfl want_none rfl (fun _ => (y_move (v := .slice _ _ _) rfl rfl)) ?_
    refine d_take rfl want_none rfl hs34 (fun _ hq => (y_loadN (vs := [_, _, _, _]) Try.isAgg26 Try.sizeOf26 hq rfl rfl (ats_own (i := 0) (vs := [_, _, _, _]) rfl rfl))) ?_
    refine d_any rfl want_none rfl (fun _ => (y_move (v := .slice _ _ _) rfl rfl)) ?_
    refine d_eff rfl ?_
    refine w_call want_none Try.call72 rfl rfl rfl rfl (c72 p _ _ ha.cons hok _ _ x hxn hxs.cons hxi hs34) ?_
    rintro _ w36 ⟨rfl, hs37⟩
    refine w_nil ?_
    refine qn ⟨hs37, ?_⟩
    refine d_eff rfl ?_
    refine w_call want_none Try.call72 rfl rfl rfl rfl (c72 p _ _ ha.cons hok _ _ y hyn hys.cons hyi hs37) ?_
    rintro _ w39 ⟨rfl, hs40⟩
    refine w_nil ?_
    refine qn ⟨hs40, ?_⟩
    refine d_any rfl want_none rfl (fun _ => (y_neq rfl rfl rfl rfl)) ?_
    refine d_nil ?_
    refine q_then (hK31 _ _ ?_)
    refine w_cond rfl rfl (fun h41 => ?_) (fun h41 => ?_)
    ·
      try simp only [Bool.not_eq_true', Bool.not_eq_false', decide_eq_true_eq, decide_eq_false_iff_not, Int.not_lt, Int.not_le] at h41
      refine w_seq (fun K43 hK42 => ?_)
      refine w_draw [] [(0, 1), (1, 0), (3, 1), (4, 0), (2, 2), (5, 2), (6, 0), (7, 0)] Try_mo (by kernel_rfl) hs40 (fun w44 hs45 => ?_)
      refine d_take rfl want_none rfl hs45 (fun _ hq => (y_loadN (vs := [_, _, _, _]) Try.isAgg26 Try.sizeOf26 hq rfl rfl (ats_own (i := 0) (vs := [_, _, _, _]) rfl rfl))) ?_
      refine d_any rfl want_none rfl (fun _ => (y_move (v := .slice _ _ _) rfl rfl)) ?_
      refine d_take rfl want_none rfl hs45 (fun _ hq => (y_loadN (vs := [_, _, _, _]) Try.isAgg26 Try.sizeOf26 hq rfl rfl (ats_own (i := 0) (vs := [_, _, _, _]) rfl rfl))) ?_
      refine d_any rfl want_none rfl (fun _ => (y_move (v := .slice _ _ _) rfl rfl)) ?_
      refine d_eff rfl ?_
      refine w_call want_none Try.call72 rfl rfl rfl rfl (c72 p _ _ ha.cons hok _ _ x hxn hxs.cons hxi hs45) ?_
      rintro _ w47 ⟨rfl, hs48⟩
      refine w_nil ?_
      refine qn ⟨hs48, ?_⟩
      refine d_eff rfl ?_
      refine w_call want_none Try.call72 rfl rfl rfl rfl (c72 p _ _ ha.cons hok _ _ y hyn hys.cons hyi hs48) ?_
      rintro _ w50 ⟨rfl, hs51⟩
      refine w_nil ?_
      refine qn ⟨hs51, ?_⟩
      refine d_any rfl want_none rfl (fun _ => (y_lss rfl rfl rfl rfl)) ?_
      refine d_any rfl want_none rfl (fun _ => (y_assign (v := .bool _) rfl rfl)) ?_
      refine d_nil ?_
      refine q_then (hK42 _ _ ?_)
      refine w_ret ?_
      refine q_then_ret ?_
      refine q_ret (l := [.tmp 6]) (vs := [_]) rfl ⟨⟨rfl, show _ = (.bool _ : Value) from rfl⟩, trivial⟩ ?_
      first
        | exact ⟨congrArg Value.bool (by unfold before; rw [if_neg (by assumption)]), hs51.tail⟩
        | exact ⟨congrArg Value.bool (by unfold before; rw [if_pos (by assumption), if_neg (by assumption)]), hs51.tail⟩
        | exact ⟨congrArg Value.bool (by unfold before; rw [if_pos (by assumption), if_pos (by assumption), beforeL_end hpre (by omega) (by omega)]), hs51.tail⟩
        | (refine ⟨congrArg Value.bool ?_, hs51.tail⟩; unfold before; rw [if_pos (by assumption), if_pos (by assumption), beforeL_here hpre hi2 hi3 (by assumption)]; simp [h18, h41])
    ·
      try simp only [Bool.not_eq_true', Bool.not_eq_false', decide_eq_true_eq, decide_eq_false_iff_not, Int.not_lt, Int.not_le] at h41
      refine w_skip ?_
      refine q_then (hK29 _ _ ?_)
      refine w_seq (fun K53 hK52 => ?_)
      refine w_seq (fun K55 hK54 => ?_)
      refine w_region ?_
      refine w_pure want_none (y_assign (v := _) rfl rfl) rfl ?_
      refine w_nil ?_
      refine q_then (hK54 _ _ ?_)
      refine w_block ?_
      refine w_loop [6, 7, 36, 37, 38, 39, 40, 41, 42, 43, 44, 45, 46, 47, 48, 49, 50, 51, 52, 53, 54, 55, 56, 57, 58, 59, 60, 61, 62, 63, 64, 65, 66, 67, 68, 69, 70, 71, 72, 73] [7] (fun k vs w => ∃ i : Nat, vs = [.int .i64 i] ∧ i ≤ x.length ∧ k = x.length - i ∧ x.take i = y.take i ∧ St w0 w ((b3, blk 26 (p.cells a c)) :: F)) (x.length) ?_ ?_
      ·
        exact ⟨0, rfl, by omega, by omega, rfl, hs40⟩
      ·
        intro k vs μ w58 hI K57 hN56
        obtain ⟨i, rfl, hia, rfl, hpre, hs⟩ := hI
        refine w_seq (fun K60 hK59 => ?_)
        refine w_seq (fun K62 hK61 => ?_)
        refine w_region ?_
        refine w_pure want_none (y_move (v := .int _ _) rfl rfl) rfl ?_
        refine w_pure want_none (y_move (v := .slice _ _ _) rfl rfl) rfl ?_
        refine w_pure want_none (y_lenS Try.underlying27 rfl rfl) rfl ?_
        refine w_pure want_none (y_lss rfl rfl rfl rfl) rfl ?_
        refine w_nil ?_
        refine q_then (hK61 _ _ ?_)
        refine w_cond rfl rfl (fun h63 => ?_) (fun h63 => ?_)
        ·
          try simp only [Bool.not_eq_true', Bool.not_eq_false', decide_eq_true_eq, decide_eq_false_iff_not, Int.not_lt, Int.not_le] at h63
          refine w_skip ?_
          refine q_then (hK59 _ _ ?_)
          refine w_seq (fun K65 hK64 => ?_)
          refine w_block ?_
          refine w_seq (fun K67 hK66 => ?_)
          have hi2 : i < x.length := by omega
          have hi3 : i < y.length := by omega
          obtain ⟨bx, ox, rfl, hx⟩ := sl_ints hxs hi2
          obtain ⟨by_, oy, rfl, hy⟩ := sl_ints hys hi3
          refine w_draw [] [(0, 0), (1, 0), (2, 0), (3, 1), (4, 0), (5, 0), (6, 0), (7, 1), (8, 0)] Try_mo (by kernel_rfl) hs (fun w68 hs69 => ?_)
          refine d_any rfl want_none rfl (fun _ => (y_move (v := .slice _ _ _) rfl rfl)) ?_
          refine d_any rfl want_none rfl (fun _ => (y_move (v := .int _ _) rfl rfl)) ?_
          refine d_any rfl want_none rfl (fun _ => (y_indexS Try.underlying27 Try.sizeOf3 rfl rfl rfl rfl (i := _) rfl (by omega))) ?_
          refine d_take rfl want_none rfl hs69 (fun _ hq => (y_load1 Try.isAgg3 hq.tail rfl rfl hx)) ?_
          refine d_any rfl want_none rfl (fun _ => (y_move (v := .slice _ _ _) rfl rfl)) ?_
          refine d_any rfl want_none rfl (fun _ => (y_move (v := .int _ _) rfl rfl)) ?_
          refine d_any rfl want_none rfl (fun _ => (y_indexS Try.underlying27 Try.sizeOf3 rfl rfl rfl rfl (i := _) rfl (by omega))) ?_
          refine d_take rfl want_none rfl hs69 (fun _ hq => (y_load1 Try.isAgg3 hq.tail rfl rfl hy)) ?_
          refine d_any rfl want_none rfl (fun _ => (y_neq rfl rfl rfl rfl)) ?_
          refine d_nil ?_
          refine q_then (hK66 _ _ ?_)
          refine w_cond rfl rfl (fun h70 => ?_) (fun h70 => ?_)
          ·
            try simp only [Bool.not_eq_true', Bool.not_eq_false', decide_eq_true_eq, decide_eq_false_iff_not, Int.not_lt, Int.not_le] at h70
            refine w_seq (fun K72 hK71 => ?_)
            refine w_draw [] [(0, 0), (1, 0), (2, 0), (3, 1), (4, 0), (5, 0), (6, 0), (7, 0), (8, 0), (9, 1), (10, 0), (11, 0), (12, 0), (13, 0), (14, 0), (15, 1), (16, 0), (17, 0), (18, 0), (19, 1), (20, 0), (21, 0), (22, 0), (23, 0)] Try_mo (by kernel_rfl) hs69 (fun w73 hs74 => ?_)
            refine d_any rfl want_none rfl (fun _ => (y_move (v := .slice _ _ _) rfl rfl)) ?_
            refine d_any rfl want_none rfl (fun _ => (y_move (v := .int _ _) rfl rfl)) ?_
            refine d_any rfl want_none rfl (fun _ => (y_indexS Try.underlying27 Try.sizeOf3 rfl rfl rfl rfl (i := _) rfl (by omega))) ?_
            refine d_take rfl want_none rfl hs74 (fun _ hq => (y_load1 Try.isAgg3 hq.tail rfl rfl hy)) ?_
            refine d_any rfl want_none rfl (fun _ => (y_eql rfl rfl rfl rfl)) ?_
            refine d_any rfl want_none rfl (fun _ => (y_move (v := .bool _) rfl rfl)) ?_
            refine d_split (fun h75 => ?_) (fun h75 => ?_)
            ·
              try simp only [Bool.not_eq_true', Bool.not_eq_false', decide_eq_true_eq, decide_eq_false_iff_not, Int.not_lt, Int.not_le] at h75
              refine d_skip rfl rfl rfl rfl ?_
              refine d_skip rfl rfl rfl rfl ?_
              refine d_skip rfl rfl rfl rfl ?_
              refine d_skip1 rfl rfl rfl rfl hs74 ?_
              refine d_skip rfl rfl rfl rfl ?_
              refine d_skip rfl rfl rfl rfl ?_
              refine d_skip' rfl rfl rfl rfl ?_
              refine d_skip' rfl rfl rfl rfl ?_
              refine d_skip' rfl rfl rfl rfl ?_
              refine d_skip1' rfl rfl rfl rfl hs74 ?_
              refine d_skip' rfl rfl rfl rfl ?_
              refine d_skip' rfl rfl rfl rfl ?_
              refine d_skip' rfl rfl rfl rfl ?_
              refine d_skip1' rfl rfl rfl rfl hs74 ?_
              refine d_skip' rfl rfl rfl rfl ?_
              refine d_skip rfl rfl rfl rfl ?_
              refine d_any rfl want_none rfl (fun _ => (y_pickT (v := _) rfl rfl rfl rfl)) ?_
              refine d_any rfl want_none rfl (fun _ => (y_assign (v := .bool _) rfl rfl)) ?_
              refine d_nil ?_
              refine q_then (hK71 _ _ ?_)
              refine w_ret ?_
              refine q_blk_ret ?_
              refine q_then_ret ?_
              refine q_then_ret ?_
              refine q_blk_ret ?_
              refine q_then_ret ?_
              refine q_ret (l := [.tmp 6]) (vs := [_]) rfl ⟨⟨rfl, show _ = (.bool _ : Value) from rfl⟩, trivial⟩ ?_
              first
                | exact ⟨congrArg Value.bool (by unfold before; rw [if_neg (by assumption)]), hs74.tail⟩
                | exact ⟨congrArg Value.bool (by unfold before; rw [if_pos (by assumption), if_neg (by assumption)]), hs74.tail⟩
                | exact ⟨congrArg Value.bool (by unfold before; rw [if_pos (by assumption), if_pos (by assumption), beforeL_end hpre (by omega) (by omega)]), hs74.tail⟩
                | (refine ⟨congrArg Value.bool ?_, hs74.tail⟩; unfold before; rw [if_pos (by assumption), if_pos (by assumption), beforeL_here hpre hi2 hi3 (by assumption)]; simp [h18, h41, h63, h70, h75])
            ·
              try simp only [Bool.not_eq_true', Bool.not_eq_false', decide_eq_true_eq, decide_eq_false_iff_not, Int.not_lt, Int.not_le] at h75
              refine d_any rfl (want_yes rfl rfl rfl) rfl (fun _ => (y_move (v := .slice _ _ _) rfl rfl)) ?_
              refine d_any rfl (want_yes rfl rfl rfl) rfl (fun _ => (y_move (v := .int _ _) rfl rfl)) ?_
              refine d_any rfl (want_yes rfl rfl rfl) rfl (fun _ => (y_indexS Try.underlying27 Try.sizeOf3 rfl rfl rfl rfl (i := _) rfl (by omega))) ?_
              refine d_take rfl (want_yes rfl rfl rfl) rfl hs74 (fun _ hq => (y_load1 Try.isAgg3 hq.tail rfl rfl hx)) ?_
              refine d_any rfl (want_yes rfl rfl rfl) rfl (fun _ => (y_neq rfl rfl rfl rfl)) ?_
              refine d_any rfl (want_yes rfl rfl rfl) rfl (fun _ => (y_move (v := .bool _) rfl rfl)) ?_
              refine d_split (fun h76 => ?_) (fun h76 => ?_)
              ·
                try simp only [Bool.not_eq_true', Bool.not_eq_false', decide_eq_true_eq, decide_eq_false_iff_not, Int.not_lt, Int.not_le] at h76
                refine d_any rfl (want_yes rfl rfl rfl) rfl (fun _ => (y_move (v := .slice _ _ _) rfl rfl)) ?_
                refine d_any rfl (want_yes rfl rfl rfl) rfl (fun _ => (y_move (v := .int _ _) rfl rfl)) ?_
                refine d_any rfl (want_yes rfl rfl rfl) rfl (fun _ => (y_indexS Try.underlying27 Try.sizeOf3 rfl rfl rfl rfl (i := _) rfl (by omega))) ?_
                refine d_take rfl (want_yes rfl rfl rfl) rfl hs74 (fun _ hq => (y_load1 Try.isAgg3 hq.tail rfl rfl hx)) ?_
                refine d_any rfl (want_yes rfl rfl rfl) rfl (fun _ => (y_move (v := .slice _ _ _) rfl rfl)) ?_
                refine d_any rfl (want_yes rfl rfl rfl) rfl (fun _ => (y_move (v := .int _ _) rfl rfl)) ?_
                refine d_any rfl (want_yes rfl rfl rfl) rfl (fun _ => (y_indexS Try.underlying27 Try.sizeOf3 rfl rfl rfl rfl (i := _) rfl (by omega))) ?_
                refine d_take rfl (want_yes rfl rfl rfl) rfl hs74 (fun _ hq => (y_load1 Try.isAgg3 hq.tail rfl rfl hy)) ?_
                refine d_any rfl (want_yes rfl rfl rfl) rfl (fun _ => (y_lss rfl rfl rfl rfl)) ?_
                refine d_any rfl (want_yes rfl rfl rfl) rfl (fun _ => (y_pickT (v := .bool _) rfl rfl rfl rfl)) ?_
                refine d_any rfl want_none rfl (fun _ => (y_pickF (v := .bool _) rfl rfl rfl rfl)) ?_
                refine d_any rfl want_none rfl (fun _ => (y_assign (v := .bool _) rfl rfl)) ?_
                refine d_nil ?_
                refine q_then (hK71 _ _ ?_)
                refine w_ret ?_
                refine q_blk_ret ?_
                refine q_then_ret ?_
                refine q_then_ret ?_
                refine q_blk_ret ?_
                refine q_then_ret ?_
                refine q_ret (l := [.tmp 6]) (vs := [_]) rfl ⟨⟨rfl, show _ = (.bool _ : Value) from rfl⟩, trivial⟩ ?_
                first
                  | exact ⟨congrArg Value.bool (by unfold before; rw [if_neg (by assumption)]), hs74.tail⟩
                  | exact ⟨congrArg Value.bool (by unfold before; rw [if_pos (by assumption), if_neg (by assumption)]), hs74.tail⟩
                  | exact ⟨congrArg Value.bool (by unfold before; rw [if_pos (by assumption), if_pos (by assumption), beforeL_end hpre (by omega) (by omega)]), hs74.tail⟩
                  | (refine ⟨congrArg Value.bool ?_, hs74.tail⟩; unfold before; rw [if_pos (by assumption), if_pos (by assumption), beforeL_here hpre hi2 hi3 (by assumption)]; simp [h18, h41, h63, h70, h75, h76])
              ·
                try simp only [Bool.not_eq_true', Bool.not_eq_false', decide_eq_true_eq, decide_eq_false_iff_not, Int.not_lt, Int.not_le] at h76
                refine d_skip rfl rfl rfl rfl ?_
                refine d_skip rfl rfl rfl rfl ?_
                refine d_skip rfl rfl rfl rfl ?_
                refine d_skip1 rfl rfl rfl rfl hs74 ?_
                refine d_skip rfl rfl rfl rfl ?_
                refine d_skip rfl rfl rfl rfl ?_
                refine d_skip rfl rfl rfl rfl ?_
                refine d_skip1 rfl rfl rfl rfl hs74 ?_
                refine d_skip rfl rfl rfl rfl ?_
                refine d_any rfl (want_yes rfl rfl rfl) rfl (fun _ => (y_pickF (v := _) rfl rfl rfl rfl)) ?_
                refine d_any rfl want_none rfl (fun _ => (y_pickF (v := .bool _) rfl rfl rfl rfl)) ?_
                refine d_any rfl want_none rfl (fun _ => (y_assign (v := .bool _) rfl rfl)) ?_
                refine d_nil ?_
                refine q_then (hK71 _ _ ?_)
                refine w_ret ?_
                refine q_blk_ret ?_
                refine q_then_ret ?_
                refine q_then_ret ?_
                refine q_blk_ret ?_
                refine q_then_ret ?_
                refine q_ret (l := [.tmp 6]) (vs := [_]) rfl ⟨⟨rfl, show _ = (.bool _ : Value) from rfl⟩, trivial⟩ ?_
                first
                  | exact ⟨congrArg Value.bool (by unfold before; rw [if_neg (by assumption)]), hs74.tail⟩
                  | exact ⟨congrArg Value.bool (by unfold before; rw [if_pos (by assumption), if_neg (by assumption)]), hs74.tail⟩
                  | exact ⟨congrArg Value.bool (by unfold before; rw [if_pos (by assumption), if_pos (by assumption), beforeL_end hpre (by omega) (by omega)]), hs74.tail⟩
                  | (refine ⟨congrArg Value.bool ?_, hs74.tail⟩; unfold before; rw [if_pos (by assumption), if_pos (by assumption), beforeL_here hpre hi2 hi3 (by assumption)]; simp [h18, h41, h63, h70, h75, h76])
          ·
            try simp only [Bool.not_eq_true', Bool.not_eq_false', decide_eq_true_eq, decide_eq_false_iff_not, Int.not_lt, Int.not_le] at h70
            refine w_skip ?_
            refine q_blk_normal ?_
            refine q_then (hK64 _ _ ?_)
            refine w_region ?_
            refine w_pure want_none (y_move (v := .int _ _) rfl rfl) rfl ?_
            refine w_pure want_none (y_add rfl rfl rfl rfl (by omega) (by omega)) rfl ?_
            refine w_pure want_none (y_assign (v := .int _ _) rfl rfl) rfl ?_
            refine w_nil ?_
            refine q_then (hN56 _ _ (Nx.intro (x.length - (i + 1)) (by omega) (by repeat (first | exact agree_mix | refine agree_upd rfl ?_ | refine agree_updL rfl ?_ _ | refine agree_mixin rfl ?_)) ?_))
            exact ⟨i + 1, rfl, by omega, rfl, take_snoc_eq hpre hi2 hi3 (by assumption), hs69⟩
        ·
          try simp only [Bool.not_eq_true', Bool.not_eq_false', decide_eq_true_eq, decide_eq_false_iff_not, Int.not_lt, Int.not_le] at h63
          refine w_exit ?_
          refine q_then_exit ?_
          refine q_then_exit ?_
          refine q_blk_this ?_
          refine q_then (hK52 _ _ ?_)
          refine w_seq (fun K78 hK77 => ?_)
          refine w_region ?_
          refine w_pure want_none (y_assign (v := _) rfl rfl) rfl ?_
          refine w_nil ?_
          refine q_then (hK77 _ _ ?_)
          refine w_ret ?_
          refine q_ret (l := [.tmp 6]) (vs := [_]) rfl ⟨⟨rfl, show _ = (.bool _ : Value) from rfl⟩, trivial⟩ ?_
          first
            | exact ⟨congrArg Value.bool (by unfold before; rw [if_neg (by assumption)]), hs.tail⟩
            | exact ⟨congrArg Value.bool (by unfold before; rw [if_pos (by assumption), if_neg (by assumption)]), hs.tail⟩
            | exact ⟨congrArg Value.bool (by unfold before; rw [if_pos (by assumption), if_pos (by assumption), beforeL_end hpre (by omega) (by omega)]), hs.tail⟩
            | (refine ⟨congrArg Value.bool ?_, hs.tail⟩; unfold before; rw [if_pos (by assumption), if_pos (by assumption), beforeL_here hpre hi2 hi3 (by assumption)]; simp [h18, h41, h63])

end Go.Proofs
