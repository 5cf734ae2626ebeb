/- Walks of this seat, printed by gen.py over the engine: what each function returns, in whatever world. No conditions but those of each contract. -/
import Derived.Test.YtofoabifbkhkfaaZc
set_option linter.unusedVariables false
set_option linter.unusedSimpArgs false
set_option maxRecDepth 20000
namespace Go.Proofs
open Go.Rt
attribute [local irreducible] WL WC Con Yd At Ats Sl Agree DW
theorem Try_Zk_fb9 (x0 : Int) (w : World) : (Instr.buildSlice 27 1 [(0, .int .i64 x0)].toArray).run Try.prog w = .ok (.slice (some ⟨w.heap.size, 0, none⟩) 1 1) (w.alloc (Go.Rt.blk 3 [.int .i64 x0])) := by kernel_rfl
theorem enter_fine {p : Port} {l : List Int} (h : (check p).2.2 = 0) (hf : (decide (l.length = p.farms.length) && !l.any (out (-1) 10)) = true) : enterErr p l = 0 := by
  simp only [Bool.and_eq_true, decide_eq_true_eq, Bool.not_eq_true'] at hf
  unfold enterErr
  rw [if_neg (by simp [h]), if_neg (by simp [hf.1]), hf.2]; rfl
theorem move_next {v : Value} {l : List Int} {n d : Int} {i : Nat} {B : List (Nat × Obj)} (hi : i < l.length) (h : Rt.Own v 3 1 (i + 1) (iv ((l.map (lateD n)).take i) ++ [[Value.int .i64 d]].flatten) B) (hd : d = lateD n l[i]) : Rt.Own v 3 1 (i + 1) (iv ((l.map (lateD n)).take (i + 1))) B := by
  subst hd
  rw [List.take_succ_eq_append_getElem (by simpa using hi)]
  simpa [iv] using h
theorem late_yes {n z : Int} (h : ¬ z = -1) : z + n = lateD n z := by unfold lateD; rw [if_neg h]
theorem late_no {n z : Int} (h : z = -1) : z = lateD n z := by unfold lateD; rw [if_pos h, h]
theorem c15 {w0 w : World} {F : List (Nat × Obj)} (p : Port) (a : Option Addr) (c : Nat) (hl3 : p.farms.length ≤ 9223372036854775807) (hc : p.farms.length ≤ c) (ha : Sl w0 F a 6 (rows p.farms)) (hnm : ∀ f ∈ p.farms, f.name.size ≤ 9223372036854775807) (d : Int) (hd : 0 ≤ d ∧ d ≤ 255) (ay : Option Addr) (cy : Nat) (y : List Int) (hyl : y.length ≤ 9223372036854775807) (hys : Sl w0 F ay 1 (y.map fun n => [Value.int .u8 n])) (hyr : ∀ z ∈ y, 0 ≤ z ∧ z ≤ 255) (hs : St w0 w F) :
  Con Try.prog 15 [.agg (p.cells a c).toArray, .int .u8 d, .slice ay y.length cy] w fun v w' => v = .bool true ∧ St w0 w' F := by
  refine con_of_wc (n := 153) Try.func15 rfl rfl (Nat.le_of_ble_eq_true rfl) ?_
  refine w_seq (fun K2 hK1 => ?_)
  refine w_region ?_
  refine w_box (v := .agg #[.int _ _, .int _ _, .int _ _, .slice _ _ _]) (cs := [_, _, _, _]) want_none rfl rfl rfl hs (fun b3 w4 hs5 => ?_)
  refine w_pure want_none (y_assign (v := _) rfl rfl) rfl ?_
  refine w_nil ?_
  refine q_then (hK1 _ _ ?_)
  refine w_seq (fun K7 hK6 => ?_)
  refine w_seq (fun K9 hK8 => ?_)
  have hbx3 : Ats w0 ((b3, blk 26 (p.cells a c)) :: F) b3 0 (p.cells a c) := ats_own (i := 0) (vs := (p.cells a c)) rfl rfl
  refine w_region ?_
  refine w_pure want_none (y_loadN (vs := [_, _, _, _]) Try.isAgg26 Try.sizeOf26 hs5 rfl rfl hbx3) rfl ?_
  refine w_call want_none Try.call37 rfl rfl rfl rfl (c37 p _ _ (by omega) (by omega) ha.cons hnm hs5) ?_
  rintro _ w11 ⟨rfl, hs12⟩
  refine w_pure want_none (y_not rfl rfl) rfl ?_
  refine w_nil ?_
  refine q_then (hK8 _ _ ?_)
  refine w_cond rfl rfl (fun h13 => ?_) (fun h13 => ?_)
  ·
    try simp only [Bool.not_eq_true', Bool.not_eq_false', decide_eq_true_eq, decide_eq_false_iff_not, Int.not_lt, Int.not_le] at h13
    refine w_seq (fun K15 hK14 => ?_)
    refine w_region ?_
    refine w_call want_none Try.call23 rfl rfl rfl rfl (c23 hs12) ?_
    rintro _ w17 ⟨rfl, hs18⟩
    refine w_pure want_none (y_assign (v := .bool _) rfl rfl) rfl ?_
    refine w_nil ?_
    refine q_then (hK14 _ _ ?_)
    refine w_ret ?_
    refine q_then_ret ?_
    refine q_ret (l := [.tmp 6]) (vs := [_]) rfl ⟨⟨rfl, show _ = (.bool _ : Value) from rfl⟩, trivial⟩ ?_
    exact ⟨rfl, hs18.tail⟩
  ·
    try simp only [Bool.not_eq_true', Bool.not_eq_false', decide_eq_true_eq, decide_eq_false_iff_not, Int.not_lt, Int.not_le] at h13
    refine w_skip ?_
    refine q_then (hK6 _ _ ?_)
    refine w_seq (fun K20 hK19 => ?_)
    have hck : (check p).2.2 = 0 := by assumption
    have hok := check_ok hck
    have hlen3 := hok.len
    have hcome := hok.come
    refine w_region ?_
    refine w_pure want_none (y_move (v := .int _ _) rfl rfl) rfl ?_
    refine w_pure want_none (y_u8int (by rw [Try.underlying5]; rfl) Try.underlying3 rfl rfl (by omega) (by omega)) rfl ?_
    refine w_pure want_none (y_rem rfl rfl rfl rfl (by omega) (by omega)) rfl ?_
    refine w_pure want_none (y_assign (v := .int _ _) rfl rfl) rfl ?_
    refine w_nil ?_
    refine q_then (hK19 _ _ ?_)
    refine w_seq (fun K22 hK21 => ?_)
    have hn : 0 ≤ d % 4 ∧ d % 4 < 4 := by omega
    generalize d % 4 = n at hn ⊢
    refine w_region ?_
    refine w_pure want_none (y_loadN (vs := [_, _, _, _]) Try.isAgg26 Try.sizeOf26 hs12 rfl rfl hbx3) rfl ?_
    refine w_pure want_none (y_move (v := .slice _ _ _) rfl rfl) rfl ?_
    refine w_call want_none Try.call40 rfl rfl rfl rfl (c40 p _ _ (by omega) _ _ y hyl hys.cons hyr hs12) ?_
    rintro _ w24 ⟨B2, aq2, cq2, rfl, h_B2, hs25⟩
    replace hs25 := (show St _ _ (B2 ++ (_ :: F)) from hs25)
    have hol : (anyC p.farms.length y).length = p.farms.length := any_len _ _
    refine w_pure want_none (y_assign (v := .slice _ _ _) rfl rfl) rfl ?_
    refine w_nil ?_
    refine q_then (hK21 _ _ ?_)
    refine w_seq (fun K27 hK26 => ?_)
    refine w_region ?_
    refine w_pure want_none (y_loadN (vs := [_, _, _, _]) Try.isAgg26 Try.sizeOf26 hs25.drop rfl rfl hbx3) rfl ?_
    refine w_alloc (cs := [_, _, _, _]) want_none Try.zeroValue26 rfl hs25 (fun b28 w29 hs30 => ?_)
    refine w_store (i := 0) (v := .agg #[.int _ _, .int _ _, .int _ _, .slice _ _ _]) (vs := [_, _, _, _]) want_none Try.sizeOf26 rfl rfl rfl rfl rfl (by simp [Value.oneCell']) hs30 rfl (Nat.le_of_ble_eq_true rfl) (fun w31 hs32 => ?_)
    refine w_nil ?_
    refine q_then (hK26 _ _ ?_)
    refine w_seq (fun K34 hK33 => ?_)
    refine w_region ?_
    refine w_pure want_none (y_fieldAddr (o := 1) (i := 1) Try.underlying26 rfl Try.sizeOf23 rfl rfl rfl) rfl ?_
    refine w_pure want_none (y_fieldAddr (o := 0) (i := 0) Try.underlying23 rfl Try.sizeOf3 rfl rfl rfl) rfl ?_
    refine w_pure want_none (y_load1 Try.isAgg3 hs32.tail.drop rfl rfl (show Ats _ _ _ _ [_] from Ats.part hbx3 1 1)) rfl ?_
    refine w_pure want_none (y_move (v := .int _ _) rfl rfl) rfl ?_
    refine w_pure want_none (y_add rfl rfl rfl rfl (by omega) (by omega)) rfl ?_
    refine w_pure want_none (y_fieldAddr (o := 1) (i := 1) Try.underlying26 rfl Try.sizeOf23 rfl rfl rfl) rfl ?_
    refine w_pure want_none (y_fieldAddr (o := 1) (i := 1) Try.underlying23 rfl Try.sizeOf3 rfl rfl rfl) rfl ?_
    refine w_pure want_none (y_load1 Try.isAgg3 hs32.tail.drop rfl rfl (show Ats _ _ _ _ [_] from Ats.part hbx3 2 1)) rfl ?_
    refine w_pure want_none (y_move (v := .int _ _) rfl rfl) rfl ?_
    refine w_pure want_none (y_add rfl rfl rfl rfl (by omega) (by omega)) rfl ?_
    refine w_call want_none Try.call36 rfl rfl rfl rfl (c36 _ _ hs32) ?_
    rintro _ w36 ⟨rfl, hs37⟩
    refine w_pure want_none (y_fieldAddr (o := 1) (i := 1) Try.underlying26 rfl Try.sizeOf23 rfl rfl rfl) rfl ?_
    refine w_store (i := 0) (v := .agg #[.int _ _, .int _ _]) (vs := [_, _]) want_none Try.sizeOf23 rfl rfl rfl rfl rfl (by simp [Value.oneCell']) hs37 rfl (Nat.le_of_ble_eq_true rfl) (fun w38 hs39 => ?_)
    refine w_nil ?_
    refine q_then (hK33 _ _ ?_)
    refine w_seq (fun K41 hK40 => ?_)
    refine w_region ?_
    refine w_pure want_none (y_assign (v := _) rfl rfl) rfl ?_
    refine w_nil ?_
    refine q_then (hK40 _ _ ?_)
    refine w_seq (fun K43 hK42 => ?_)
    refine w_seq (fun K45 hK44 => ?_)
    refine w_region ?_
    refine w_pure want_none (y_assign (v := _) rfl rfl) rfl ?_
    refine w_nil ?_
    refine q_then (hK44 _ _ ?_)
    refine w_block ?_
    refine w_loop [10, 11, 12, 48, 49, 50, 51, 52, 53, 54, 55, 56, 57, 58, 59, 60, 61, 62, 63, 64, 65, 66] [10, 11] (fun kk vs w => ∃ (i : Nat) (v : Value) (B : List (Nat × Obj)), vs = [v, .int .i64 i] ∧ i ≤ (anyC p.farms.length y).length ∧ kk = (anyC p.farms.length y).length - i ∧ Rt.Own v 3 1 i (iv (((anyC p.farms.length y).map (lateD n)).take i)) B ∧ St w0 w ((b28, blk 26 ((lateP p n).cells a c)) :: (B ++ (B2 ++ ((b3, blk 26 (p.cells a c)) :: F))))) ((anyC p.farms.length y).length) ?_ ?_
    ·
      exact ⟨0, _, [], rfl, by omega, by omega, own_nil 3 1, hs39⟩
    ·
      intro k vs μ w48 hI K47 hN46
      obtain ⟨i, v, B, rfl, hia, rfl, hown, hs⟩ := hI
      refine w_seq (fun K50 hK49 => ?_)
      refine w_seq (fun K52 hK51 => ?_)
      refine w_region ?_
      refine w_pure want_none (y_move (v := .int _ _) rfl rfl) rfl ?_
      refine w_pure want_none (y_move (v := .slice _ _ _) rfl rfl) rfl ?_
      refine w_pure want_none (y_lenS Try.underlying27 rfl rfl) rfl ?_
      refine w_pure want_none (y_lss rfl rfl rfl rfl) rfl ?_
      refine w_nil ?_
      refine q_then (hK51 _ _ ?_)
      refine w_cond rfl rfl (fun h53 => ?_) (fun h53 => ?_)
      ·
        try simp only [Bool.not_eq_true', Bool.not_eq_false', decide_eq_true_eq, decide_eq_false_iff_not, Int.not_lt, Int.not_le] at h53
        refine w_skip ?_
        refine q_then (hK49 _ _ ?_)
        refine w_seq (fun K55 hK54 => ?_)
        refine w_block ?_
        refine w_seq (fun K57 hK56 => ?_)
        have hi2 : i < (anyC p.farms.length y).length := by omega
        have hin := any_in _ (List.getElem_mem hi2)
        obtain ⟨bo, oo, rfl, ho⟩ := sl_ints h_B2 hi2
        refine w_region ?_
        refine w_pure want_none (y_move (v := .slice _ _ _) rfl rfl) rfl ?_
        refine w_pure want_none (y_move (v := .int _ _) rfl rfl) rfl ?_
        refine w_pure want_none (y_indexS Try.underlying27 Try.sizeOf3 rfl rfl rfl rfl (i := _) rfl (by omega)) rfl ?_
        refine w_pure want_none (y_load1 Try.isAgg3 hs.tail.drop rfl rfl ho) rfl ?_
        refine w_pure want_none (y_assign (v := .int _ _) rfl rfl) rfl ?_
        refine w_nil ?_
        refine q_then (hK56 _ _ ?_)
        refine w_seq (fun K59 hK58 => ?_)
        refine w_seq (fun K61 hK60 => ?_)
        refine w_region ?_
        refine w_pure want_none (y_move (v := .int _ _) rfl rfl) rfl ?_
        refine w_pure want_none (y_neq rfl rfl rfl rfl) rfl ?_
        refine w_nil ?_
        refine q_then (hK60 _ _ ?_)
        refine w_cond rfl rfl (fun h62 => ?_) (fun h62 => ?_)
        ·
          try simp only [Bool.not_eq_true', Bool.not_eq_false', decide_eq_true_eq, decide_eq_false_iff_not, Int.not_lt, Int.not_le] at h62
          refine w_region ?_
          refine w_pure want_none (y_move (v := .int _ _) rfl rfl) rfl ?_
          refine w_pure want_none (y_move (v := .int _ _) rfl rfl) rfl ?_
          refine w_pure want_none (y_add rfl rfl rfl rfl (by omega) (by omega)) rfl ?_
          refine w_pure want_none (y_assign (v := .int _ _) rfl rfl) rfl ?_
          refine w_nil ?_
          refine q_then (hK58 _ _ ?_)
          refine w_region ?_
          refine w_pure want_none (y_move (v := v) rfl rfl) rfl ?_
          refine w_pure want_none (y_move (v := .int _ _) rfl rfl) rfl ?_
          refine w_bslice (ps := [(0, _)]) (pv := [(0, .int _ _)]) (cs := [_]) want_none rfl rfl (fun w => Try_Zk_fb9 _ w) hs (fun b63 w64 hs65 => ?_)
          refine w_append (X := (_ :: _ :: [])) (B := B) (rows := [[_]]) (sz := 1) (bytes := 8) want_none Try.underlying27 Try_info3 rfl rfl rfl rfl rfl rfl rfl rfl rfl hs65 hown (sl_own (i := 0) rfl (by simp) rfl) rfl (by simp) (by simp [Value.oneCell']) (by simp only [maxLen]; omega) (by omega) (fun v66 w67 B68 ho69 hs70 => ?_)
          replace hs70 := (show St _ _ (_ :: _ :: B68 ++ (B2 ++ (_ :: F))) from hs70)
          refine w_pure want_none (y_assign (v := v66) rfl rfl) rfl ?_
          refine w_nil ?_
          refine q_blk_normal ?_
          refine q_then (hK54 _ _ ?_)
          refine w_region ?_
          refine w_pure want_none (y_move (v := .int _ _) rfl rfl) rfl ?_
          refine w_pure want_none (y_add rfl rfl rfl rfl (by omega) (by omega)) rfl ?_
          refine w_pure want_none (y_assign (v := .int _ _) rfl rfl) rfl ?_
          refine w_nil ?_
          refine q_then (hN46 _ _ (Nx.intro ((anyC p.farms.length y).length - (i + 1)) (by omega) (by repeat (first | exact agree_mix | refine agree_upd rfl ?_ | refine agree_updL rfl ?_ _ | refine agree_mixin rfl ?_)) ?_))
          first
            | exact ⟨i + 1, _, _, rfl, by omega, rfl, move_next hi2 ho69 (late_yes (by assumption)), hs70.tail⟩
            | exact ⟨i + 1, _, _, rfl, by omega, rfl, move_next hi2 ho69 (late_no (by assumption)), hs70.tail⟩
        ·
          try simp only [Bool.not_eq_true', Bool.not_eq_false', decide_eq_true_eq, decide_eq_false_iff_not, Int.not_lt, Int.not_le] at h62
          refine w_skip ?_
          refine q_then (hK58 _ _ ?_)
          refine w_region ?_
          refine w_pure want_none (y_move (v := v) rfl rfl) rfl ?_
          refine w_pure want_none (y_move (v := .int _ _) rfl rfl) rfl ?_
          refine w_bslice (ps := [(0, _)]) (pv := [(0, .int _ _)]) (cs := [_]) want_none rfl rfl (fun w => Try_Zk_fb9 _ w) hs (fun b71 w72 hs73 => ?_)
          refine w_append (X := (_ :: _ :: [])) (B := B) (rows := [[_]]) (sz := 1) (bytes := 8) want_none Try.underlying27 Try_info3 rfl rfl rfl rfl rfl rfl rfl rfl rfl hs73 hown (sl_own (i := 0) rfl (by simp) rfl) rfl (by simp) (by simp [Value.oneCell']) (by simp only [maxLen]; omega) (by omega) (fun v74 w75 B76 ho77 hs78 => ?_)
          replace hs78 := (show St _ _ (_ :: _ :: B76 ++ (B2 ++ (_ :: F))) from hs78)
          refine w_pure want_none (y_assign (v := v74) rfl rfl) rfl ?_
          refine w_nil ?_
          refine q_blk_normal ?_
          refine q_then (hK54 _ _ ?_)
          refine w_region ?_
          refine w_pure want_none (y_move (v := .int _ _) rfl rfl) rfl ?_
          refine w_pure want_none (y_add rfl rfl rfl rfl (by omega) (by omega)) rfl ?_
          refine w_pure want_none (y_assign (v := .int _ _) rfl rfl) rfl ?_
          refine w_nil ?_
          refine q_then (hN46 _ _ (Nx.intro ((anyC p.farms.length y).length - (i + 1)) (by omega) (by repeat (first | exact agree_mix | refine agree_upd rfl ?_ | refine agree_updL rfl ?_ _ | refine agree_mixin rfl ?_)) ?_))
          first
            | exact ⟨i + 1, _, _, rfl, by omega, rfl, move_next hi2 ho77 (late_yes (by assumption)), hs78.tail⟩
            | exact ⟨i + 1, _, _, rfl, by omega, rfl, move_next hi2 ho77 (late_no (by assumption)), hs78.tail⟩
      ·
        try simp only [Bool.not_eq_true', Bool.not_eq_false', decide_eq_true_eq, decide_eq_false_iff_not, Int.not_lt, Int.not_le] at h53
        refine w_exit ?_
        refine q_then_exit ?_
        refine q_then_exit ?_
        refine q_blk_this ?_
        refine q_then (hK42 _ _ ?_)
        refine w_seq (fun K80 hK79 => ?_)
        refine w_seq (fun K82 hK81 => ?_)
        have hil : i = (anyC p.farms.length y).length := by omega
        subst hil
        rw [List.take_of_length_le (by rw [List.length_map]; omega)] at hown
        obtain ⟨am, cm, rfl, hsm⟩ := own_sl_map (w0 := w0) hown (by rw [List.length_map]) (B2 ++ ((b3, blk 26 (p.cells a c)) :: F))
        have hml : ((anyC p.farms.length y).map (lateD n)).length = p.farms.length := by rw [List.length_map, any_len]
        have hlf : (lateP p n).farms.length = p.farms.length := rfl
        refine w_region ?_
        refine w_pure want_none (y_loadN (vs := [_, _, _, _]) Try.isAgg26 Try.sizeOf26 hs rfl rfl (ats_own (i := 0) (vs := [_, _, _, _]) rfl rfl)) rfl ?_
        refine w_call want_none Try.call37 rfl rfl rfl rfl (c37 (lateP p n) _ _ (by omega) (by omega) ha.cons.app.app.cons hnm hs) ?_
        rintro _ w84 ⟨rfl, hs85⟩
        refine w_pure want_none (y_not rfl rfl) rfl ?_
        refine w_pure want_none (y_move (v := .bool _) rfl rfl) rfl ?_
        refine w_split (fun h86 => ?_) (fun h86 => ?_)
        ·
          try simp only [Bool.not_eq_true', Bool.not_eq_false', decide_eq_true_eq, decide_eq_false_iff_not, Int.not_lt, Int.not_le] at h86
          refine w_skipop rfl rfl rfl ?_
          refine w_skipop rfl rfl rfl ?_
          refine w_skipop rfl rfl rfl ?_
          refine w_skipop rfl rfl rfl ?_
          refine w_pure want_none (y_pickT (v := _) rfl rfl rfl rfl) rfl ?_
          refine w_nil ?_
          refine q_then (hK81 _ _ ?_)
          refine w_condT rfl rfl ?_
          refine w_seq (fun K88 hK87 => ?_)
          refine w_region ?_
          refine w_call want_none Try.call23 rfl rfl rfl rfl (c23 hs85) ?_
          rintro _ w90 ⟨rfl, hs91⟩
          refine w_pure want_none (y_assign (v := .bool _) rfl rfl) rfl ?_
          refine w_nil ?_
          refine q_then (hK87 _ _ ?_)
          refine w_ret ?_
          refine q_then_ret ?_
          refine q_ret (l := [.tmp 6]) (vs := [_]) rfl ⟨⟨rfl, show _ = (.bool _ : Value) from rfl⟩, trivial⟩ ?_
          exact ⟨rfl, hs91.tail.drop.drop.tail⟩
        ·
          try simp only [Bool.not_eq_true', Bool.not_eq_false', decide_eq_true_eq, decide_eq_false_iff_not, Int.not_lt, Int.not_le] at h86
          refine w_pure (want_yes rfl rfl rfl) (y_loadN (vs := [_, _, _, _]) Try.isAgg26 Try.sizeOf26 hs85 rfl rfl (ats_own (i := 0) (vs := [_, _, _, _]) rfl rfl)) rfl ?_
          refine w_pure (want_yes rfl rfl rfl) (y_move (v := .slice _ _ _) rfl rfl) rfl ?_
          refine w_call (want_yes rfl rfl rfl) Try.call38 rfl rfl rfl rfl (c38 (lateP p n) _ _ (by omega) _ _ ((anyC p.farms.length y).map (lateD n)) (by omega) hsm.cons hs85) ?_
          rintro _ w93 ⟨rfl, hs94⟩
          refine w_pure (want_yes rfl rfl rfl) (y_not rfl rfl) rfl ?_
          refine w_pure want_none (y_pickF (v := .bool _) rfl rfl rfl rfl) rfl ?_
          refine w_nil ?_
          refine q_then (hK81 _ _ ?_)
          refine w_cond rfl rfl (fun h95 => ?_) (fun h95 => ?_)
          ·
            try simp only [Bool.not_eq_true', Bool.not_eq_false', decide_eq_true_eq, decide_eq_false_iff_not, Int.not_lt, Int.not_le] at h95
            refine w_seq (fun K97 hK96 => ?_)
            refine w_region ?_
            refine w_call want_none Try.call23 rfl rfl rfl rfl (c23 hs94) ?_
            rintro _ w99 ⟨rfl, hs100⟩
            refine w_pure want_none (y_assign (v := .bool _) rfl rfl) rfl ?_
            refine w_nil ?_
            refine q_then (hK96 _ _ ?_)
            refine w_ret ?_
            refine q_then_ret ?_
            refine q_ret (l := [.tmp 6]) (vs := [_]) rfl ⟨⟨rfl, show _ = (.bool _ : Value) from rfl⟩, trivial⟩ ?_
            exact ⟨rfl, hs100.tail.drop.drop.tail⟩
          ·
            try simp only [Bool.not_eq_true', Bool.not_eq_false', decide_eq_true_eq, decide_eq_false_iff_not, Int.not_lt, Int.not_le] at h95
            refine w_skip ?_
            refine q_then (hK79 _ _ ?_)
            refine w_seq (fun K102 hK101 => ?_)
            have hb9 : Ats w0 ((b28, blk 26 ((lateP p n).cells a c)) :: (B ++ (B2 ++ ((b3, blk 26 (p.cells a c)) :: F)))) b28 0 ((lateP p n).cells a c) := ats_own (i := 0) (vs := (lateP p n).cells a c) rfl rfl
            have hee := enter_any hck (any_len _ y) any_in
            have hel := enter_fine (p := (lateP p n)) (l := ((anyC p.farms.length y).map (lateD n))) (by assumption) (by assumption)
            obtain ⟨hm1, hm2, hm3⟩ := moved_same (p := p) (l := (anyC p.farms.length y)) (n := n) (by omega) (fun z hz => (any_in z hz).1) hee hel
            refine w_region ?_
            refine w_pure want_none (y_loadN (vs := [_, _, _, _]) Try.isAgg26 Try.sizeOf26 hs94.tail.drop.drop rfl rfl hbx3) rfl ?_
            refine w_pure want_none (y_move (v := .slice _ _ _) rfl rfl) rfl ?_
            refine w_call want_none Try.call18 rfl rfl rfl rfl (c18 p _ _ (by omega) (by omega) ha.cons.app.app.cons hnm _ _ (anyC p.farms.length y) (by rw [any_len]; omega) h_B2.app.cons hs94) ?_
            rintro _ w104 ⟨B4, aq4, cq4, rfl, h_B4, hs105⟩
            replace hs105 := (show St _ _ (B4 ++ (_ :: B ++ (B2 ++ (_ :: F)))) from hs105)
            refine w_pure want_none (y_move (v := .tuple _) rfl rfl) rfl ?_
            refine w_pure want_none (y_extract (v := .slice _ _ _) rfl rfl rfl) rfl ?_
            refine w_pure want_none (y_extract (v := .int _ _) rfl rfl rfl) rfl ?_
            refine w_pure want_none (y_assign (v := .slice _ _ _) rfl rfl) rfl ?_
            refine w_pure want_none (y_assign (v := .int _ _) rfl rfl) rfl ?_
            refine w_nil ?_
            refine q_then (hK101 _ _ ?_)
            refine w_seq (fun K107 hK106 => ?_)
            refine w_region ?_
            refine w_pure want_none (y_loadN (vs := [_, _, _, _]) Try.isAgg26 Try.sizeOf26 hs105.drop rfl rfl hb9) rfl ?_
            refine w_pure want_none (y_move (v := .slice _ _ _) rfl rfl) rfl ?_
            refine w_call want_none Try.call18 rfl rfl rfl rfl (c18 (lateP p n) _ _ (by omega) (by omega) ha.cons.app.app.cons.app hnm _ _ ((anyC p.farms.length y).map (lateD n)) (by omega) hsm.cons.app hs105) ?_
            rintro _ w109 ⟨B5, aq5, cq5, rfl, h_B5, hs110⟩
            replace hs110 := (show St _ _ (B5 ++ (B4 ++ (_ :: B ++ (B2 ++ (_ :: F))))) from hs110)
            refine w_pure want_none (y_move (v := .tuple _) rfl rfl) rfl ?_
            refine w_pure want_none (y_extract (v := .slice _ _ _) rfl rfl rfl) rfl ?_
            refine w_pure want_none (y_extract (v := .int _ _) rfl rfl rfl) rfl ?_
            refine w_pure want_none (y_assign (v := .slice _ _ _) rfl rfl) rfl ?_
            refine w_pure want_none (y_assign (v := .int _ _) rfl rfl) rfl ?_
            refine w_nil ?_
            refine q_then (hK106 _ _ ?_)
            refine w_seq (fun K112 hK111 => ?_)
            refine w_region ?_
            refine w_pure want_none (y_loadN (vs := [_, _, _, _]) Try.isAgg26 Try.sizeOf26 hs110.drop.drop.tail.drop.drop rfl rfl hbx3) rfl ?_
            refine w_pure want_none (y_move (v := .slice _ _ _) rfl rfl) rfl ?_
            refine w_call want_none Try.call21 rfl rfl rfl rfl (c21 p _ _ (by omega) (by omega) ha.cons.app.app.cons.app.app hnm _ _ (anyC p.farms.length y) (by rw [any_len]; omega) h_B2.app.cons.app.app hs110) ?_
            rintro _ w114 ⟨rfl, hs115⟩
            refine w_pure want_none (y_move (v := .tuple _) rfl rfl) rfl ?_
            refine w_pure want_none (y_extract (v := .int _ _) rfl rfl rfl) rfl ?_
            refine w_pure want_none (y_extract (v := .int _ _) rfl rfl rfl) rfl ?_
            refine w_pure want_none (y_assign (v := .int _ _) rfl rfl) rfl ?_
            refine w_pure want_none (y_assign (v := .int _ _) rfl rfl) rfl ?_
            refine w_nil ?_
            refine q_then (hK111 _ _ ?_)
            refine w_seq (fun K117 hK116 => ?_)
            refine w_region ?_
            refine w_pure want_none (y_loadN (vs := [_, _, _, _]) Try.isAgg26 Try.sizeOf26 hs115.drop.drop rfl rfl hb9) rfl ?_
            refine w_pure want_none (y_move (v := .slice _ _ _) rfl rfl) rfl ?_
            refine w_call want_none Try.call21 rfl rfl rfl rfl (c21 (lateP p n) _ _ (by omega) (by omega) ha.cons.app.app.cons.app.app hnm _ _ ((anyC p.farms.length y).map (lateD n)) (by omega) hsm.cons.app.app hs115) ?_
            rintro _ w119 ⟨rfl, hs120⟩
            refine w_pure want_none (y_move (v := .tuple _) rfl rfl) rfl ?_
            refine w_pure want_none (y_extract (v := .int _ _) rfl rfl rfl) rfl ?_
            refine w_pure want_none (y_extract (v := .int _ _) rfl rfl rfl) rfl ?_
            refine w_pure want_none (y_assign (v := .int _ _) rfl rfl) rfl ?_
            refine w_pure want_none (y_assign (v := .int _ _) rfl rfl) rfl ?_
            refine w_nil ?_
            refine q_then (hK116 _ _ ?_)
            refine w_seq (fun K122 hK121 => ?_)
            refine w_region ?_
            refine w_pure want_none (y_loadN (vs := [_, _, _, _]) Try.isAgg26 Try.sizeOf26 hs120.drop.drop.tail.drop.drop rfl rfl hbx3) rfl ?_
            refine w_pure want_none (y_move (v := .slice _ _ _) rfl rfl) rfl ?_
            refine w_call want_none Try.call24 rfl rfl rfl rfl (c24 p _ _ (by omega) (by omega) ha.cons.app.app.cons.app.app hnm _ _ (anyC p.farms.length y) (by rw [any_len]; omega) h_B2.app.cons.app.app hs120) ?_
            rintro _ w124 ⟨rfl, hs125⟩
            refine w_pure want_none (y_move (v := .tuple _) rfl rfl) rfl ?_
            refine w_pure want_none (y_extract (v := .int _ _) rfl rfl rfl) rfl ?_
            refine w_pure want_none (y_extract (v := .int _ _) rfl rfl rfl) rfl ?_
            refine w_pure want_none (y_assign (v := .int _ _) rfl rfl) rfl ?_
            refine w_pure want_none (y_assign (v := .int _ _) rfl rfl) rfl ?_
            refine w_nil ?_
            refine q_then (hK121 _ _ ?_)
            refine w_seq (fun K127 hK126 => ?_)
            refine w_region ?_
            refine w_pure want_none (y_loadN (vs := [_, _, _, _]) Try.isAgg26 Try.sizeOf26 hs125.drop.drop rfl rfl hb9) rfl ?_
            refine w_pure want_none (y_move (v := .slice _ _ _) rfl rfl) rfl ?_
            refine w_call want_none Try.call24 rfl rfl rfl rfl (c24 (lateP p n) _ _ (by omega) (by omega) ha.cons.app.app.cons.app.app hnm _ _ ((anyC p.farms.length y).map (lateD n)) (by omega) hsm.cons.app.app hs125) ?_
            rintro _ w129 ⟨rfl, hs130⟩
            refine w_pure want_none (y_move (v := .tuple _) rfl rfl) rfl ?_
            refine w_pure want_none (y_extract (v := .int _ _) rfl rfl rfl) rfl ?_
            refine w_pure want_none (y_extract (v := .int _ _) rfl rfl rfl) rfl ?_
            refine w_pure want_none (y_assign (v := .int _ _) rfl rfl) rfl ?_
            refine w_pure want_none (y_assign (v := .int _ _) rfl rfl) rfl ?_
            refine w_nil ?_
            refine q_then (hK126 _ _ ?_)
            refine w_seq (fun K132 hK131 => ?_)
            refine w_region ?_
            refine w_pure want_none (y_move (v := .int _ _) rfl rfl) rfl ?_
            refine w_pure want_none (y_eql rfl rfl rfl rfl) rfl ?_
            refine w_pure want_none (y_move (v := .bool _) rfl rfl) rfl ?_
            refine w_split (fun h133 => ?_) (fun h133 => ?_)
            ·
              try simp only [Bool.not_eq_true', Bool.not_eq_false', decide_eq_true_eq, decide_eq_false_iff_not, Int.not_lt, Int.not_le] at h133
              refine w_pure (want_yes rfl rfl rfl) (y_move (v := .int _ _) rfl rfl) rfl ?_
              refine w_pure (want_yes rfl rfl rfl) (y_eql rfl rfl rfl rfl) rfl ?_
              refine w_pure want_none (y_pickT (v := .bool _) rfl rfl rfl rfl) rfl ?_
              refine w_pure want_none (y_move (v := .bool _) rfl rfl) rfl ?_
              refine w_split (fun h134 => ?_) (fun h134 => ?_)
              ·
                try simp only [Bool.not_eq_true', Bool.not_eq_false', decide_eq_true_eq, decide_eq_false_iff_not, Int.not_lt, Int.not_le] at h134
                refine w_pure (want_yes rfl rfl rfl) (y_move (v := .int _ _) rfl rfl) rfl ?_
                refine w_pure (want_yes rfl rfl rfl) (y_eql rfl rfl rfl rfl) rfl ?_
                refine w_pure want_none (y_pickT (v := .bool _) rfl rfl rfl rfl) rfl ?_
                refine w_pure want_none (y_move (v := .bool _) rfl rfl) rfl ?_
                refine w_split (fun h135 => ?_) (fun h135 => ?_)
                ·
                  try simp only [Bool.not_eq_true', Bool.not_eq_false', decide_eq_true_eq, decide_eq_false_iff_not, Int.not_lt, Int.not_le] at h135
                  refine w_pure (want_yes rfl rfl rfl) (y_move (v := .int _ _) rfl rfl) rfl ?_
                  refine w_pure (want_yes rfl rfl rfl) (y_eql rfl rfl rfl rfl) rfl ?_
                  refine w_pure want_none (y_pickT (v := .bool _) rfl rfl rfl rfl) rfl ?_
                  refine w_pure want_none (y_move (v := .bool _) rfl rfl) rfl ?_
                  refine w_split (fun h136 => ?_) (fun h136 => ?_)
                  ·
                    try simp only [Bool.not_eq_true', Bool.not_eq_false', decide_eq_true_eq, decide_eq_false_iff_not, Int.not_lt, Int.not_le] at h136
                    refine w_pure (want_yes rfl rfl rfl) (y_move (v := .int _ _) rfl rfl) rfl ?_
                    refine w_pure (want_yes rfl rfl rfl) (y_eql rfl rfl rfl rfl) rfl ?_
                    refine w_pure want_none (y_pickT (v := .bool _) rfl rfl rfl rfl) rfl ?_
                    refine w_pure want_none (y_move (v := .bool _) rfl rfl) rfl ?_
                    refine w_split (fun h137 => ?_) (fun h137 => ?_)
                    ·
                      try simp only [Bool.not_eq_true', Bool.not_eq_false', decide_eq_true_eq, decide_eq_false_iff_not, Int.not_lt, Int.not_le] at h137
                      refine w_pure (want_yes rfl rfl rfl) (y_move (v := .int _ _) rfl rfl) rfl ?_
                      refine w_pure (want_yes rfl rfl rfl) (y_eql rfl rfl rfl rfl) rfl ?_
                      refine w_pure want_none (y_pickT (v := .bool _) rfl rfl rfl rfl) rfl ?_
                      refine w_pure want_none (y_move (v := .bool _) rfl rfl) rfl ?_
                      refine w_split (fun h138 => ?_) (fun h138 => ?_)
                      ·
                        try simp only [Bool.not_eq_true', Bool.not_eq_false', decide_eq_true_eq, decide_eq_false_iff_not, Int.not_lt, Int.not_le] at h138
                        refine w_pure (want_yes rfl rfl rfl) (y_move (v := .slice _ _ _) rfl rfl) rfl ?_
                        refine w_pure (want_yes rfl rfl rfl) (y_move (v := .slice _ _ _) rfl rfl) rfl ?_
                        refine w_call (want_yes rfl rfl rfl) Try.call20 rfl rfl rfl rfl (c20 _ _ (quayR p (anyC p.farms.length y)) (quayR (lateP p n) ((anyC p.farms.length y).map (lateD n))) _ _ (by have := quay_short p (anyC p.farms.length y); omega) (by have := quay_short (lateP p n) ((anyC p.farms.length y).map (lateD n)); omega) h_B4.app h_B5 hs130) ?_
                        rintro _ w140 ⟨rfl, hs141⟩
                        refine w_pure want_none (y_pickT (v := .bool _) rfl rfl rfl rfl) rfl ?_
                        refine w_pure want_none (y_move (v := .bool _) rfl rfl) rfl ?_
                        refine w_split (fun h142 => ?_) (fun h142 => ?_)
                        ·
                          try simp only [Bool.not_eq_true', Bool.not_eq_false', decide_eq_true_eq, decide_eq_false_iff_not, Int.not_lt, Int.not_le] at h142
                          refine w_pure (want_yes rfl rfl rfl) (y_move (v := .int _ _) rfl rfl) rfl ?_
                          refine w_pure (want_yes rfl rfl rfl) (y_move (v := .int _ _) rfl rfl) rfl ?_
                          refine w_pure (want_yes rfl rfl rfl) (y_eql rfl rfl rfl rfl) rfl ?_
                          refine w_pure want_none (y_pickT (v := .bool _) rfl rfl rfl rfl) rfl ?_
                          refine w_pure want_none (y_move (v := .bool _) rfl rfl) rfl ?_
                          refine w_split (fun h143 => ?_) (fun h143 => ?_)
                          ·
                            try simp only [Bool.not_eq_true', Bool.not_eq_false', decide_eq_true_eq, decide_eq_false_iff_not, Int.not_lt, Int.not_le] at h143
                            refine w_pure (want_yes rfl rfl rfl) (y_move (v := .int _ _) rfl rfl) rfl ?_
                            refine w_pure (want_yes rfl rfl rfl) (y_move (v := .int _ _) rfl rfl) rfl ?_
                            refine w_pure (want_yes rfl rfl rfl) (y_eql rfl rfl rfl rfl) rfl ?_
                            refine w_pure want_none (y_pickT (v := .bool _) rfl rfl rfl rfl) rfl ?_
                            refine w_pure want_none (y_move (v := .bool _) rfl rfl) rfl ?_
                            refine w_split (fun h144 => ?_) (fun h144 => ?_)
                            ·
                              try simp only [Bool.not_eq_true', Bool.not_eq_false', decide_eq_true_eq, decide_eq_false_iff_not, Int.not_lt, Int.not_le] at h144
                              refine w_call (want_yes rfl rfl rfl) Try.call23 rfl rfl rfl rfl (c23 hs141) ?_
                              rintro _ w146 ⟨rfl, hs147⟩
                              refine w_pure want_none (y_pickT (v := .bool _) rfl rfl rfl rfl) rfl ?_
                              refine w_pure want_none (y_assign (v := .bool _) rfl rfl) rfl ?_
                              refine w_nil ?_
                              refine q_then (hK131 _ _ ?_)
                              refine w_ret ?_
                              refine q_ret (l := [.tmp 6]) (vs := [_]) rfl ⟨⟨rfl, show _ = (.bool _ : Value) from rfl⟩, trivial⟩ ?_
                              exact ⟨rfl, hs147.drop.drop.tail.drop.drop.tail⟩
                            ·
                              exfalso
                              try simp only [Bool.not_eq_true', Bool.not_eq_false', decide_eq_true_eq, decide_eq_false_iff_not, Int.not_lt, Int.not_le] at h144
                              omega
                          ·
                            exfalso
                            try simp only [Bool.not_eq_true', Bool.not_eq_false', decide_eq_true_eq, decide_eq_false_iff_not, Int.not_lt, Int.not_le] at h143
                            omega
                        ·
                          exfalso
                          try simp only [Bool.not_eq_true', Bool.not_eq_false', decide_eq_true_eq, decide_eq_false_iff_not, Int.not_lt, Int.not_le] at h142
                          simp [hm1] at h142
                      ·
                        exfalso
                        try simp only [Bool.not_eq_true', Bool.not_eq_false', decide_eq_true_eq, decide_eq_false_iff_not, Int.not_lt, Int.not_le] at h138
                        omega
                    ·
                      exfalso
                      try simp only [Bool.not_eq_true', Bool.not_eq_false', decide_eq_true_eq, decide_eq_false_iff_not, Int.not_lt, Int.not_le] at h137
                      omega
                  ·
                    exfalso
                    try simp only [Bool.not_eq_true', Bool.not_eq_false', decide_eq_true_eq, decide_eq_false_iff_not, Int.not_lt, Int.not_le] at h136
                    omega
                ·
                  exfalso
                  try simp only [Bool.not_eq_true', Bool.not_eq_false', decide_eq_true_eq, decide_eq_false_iff_not, Int.not_lt, Int.not_le] at h135
                  omega
              ·
                exfalso
                try simp only [Bool.not_eq_true', Bool.not_eq_false', decide_eq_true_eq, decide_eq_false_iff_not, Int.not_lt, Int.not_le] at h134
                omega
            ·
              exfalso
              try simp only [Bool.not_eq_true', Bool.not_eq_false', decide_eq_true_eq, decide_eq_false_iff_not, Int.not_lt, Int.not_le] at h133
              omega

end Go.Proofs
