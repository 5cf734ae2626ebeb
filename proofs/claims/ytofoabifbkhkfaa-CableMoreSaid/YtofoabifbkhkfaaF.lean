/- Walks of this seat, printed by gen.py over the engine: what each function returns, in whatever world. No conditions but those of each contract. -/
import Derived.Test.YtofoabifbkhkfaaE
set_option linter.unusedVariables false
set_option linter.unusedSimpArgs false
set_option maxRecDepth 20000
namespace Go.Proofs
open Go.Rt
attribute [local irreducible] WL WC Con Yd At Ats Sl Agree DW
theorem Try_F_fb3 (x0 : Int) (x1 : Int) (w : World) : (Instr.build 23 [(0, .int .i64 x0), (1, .int .i64 x1)].toArray).run Try.prog w = .ok (.agg #[.int .i64 x0, .int .i64 x1]) w := by kernel_rfl
theorem Try_F_fb4 (x0 : Int) (w : World) : (Instr.buildSlice 27 1 [(0, .int .i64 x0)].toArray).run Try.prog w = .ok (.slice (some ⟨w.heap.size, 0, none⟩) 1 1) (w.alloc (Go.Rt.blk 3 [.int .i64 x0])) := by kernel_rfl
theorem fresh_ref {f : Farm} {c day : Int} (hf : f.Ok) (hc : -1 ≤ c) : fresh f c day = (!decide (c = -1) && decide (c + f.notice + f.way ≤ day ∧ day ≤ c + f.notice + f.keep)) := by
  unfold fresh out
  unfold Farm.Ok at hf
  rw [Bool.eq_iff_iff]
  simp
  omega
theorem fresh_pos {f : Farm} {c day : Int} (h : fresh f c day = true) : ¬ c = -1 := by
  unfold fresh at h
  simp at h
  omega
theorem c71 {w0 w : World} {F : List (Nat × Obj)} (f : Farm) (c day : Int) (hf : f.Ok) (hc : -1 ≤ c) (hc2 : c ≤ 100) (hd : -100 ≤ day) (hd2 : day ≤ 100) (hs : St w0 w F) :
  Con Try.prog 71 [.agg f.cells.toArray, .int .i64 c, .int .i64 day] w fun v w' => v = .bool (fresh f c day) ∧ St w0 w' F := by
  refine con_of_wc (n := 26) Try.func71 rfl rfl (Nat.le_of_ble_eq_true rfl) ?_
  have hfo := hf
  unfold Farm.Ok at hfo
  refine w_seq (fun K2 hK1 => ?_)
  refine w_region ?_
  refine w_box (v := .agg #[.string _, .int _ _, .int _ _, .int _ _, .int _ _, .int _ _]) (cs := [_, _, _, _, _, _]) want_none rfl rfl rfl hs (fun b3 w4 hs5 => ?_)
  refine w_pure want_none (y_assign (v := _) rfl rfl) rfl ?_
  refine w_nil ?_
  refine q_then (hK1 _ _ ?_)
  refine w_seq (fun K7 hK6 => ?_)
  refine w_region ?_
  refine w_pure want_none (y_move (v := .int _ _) rfl rfl) rfl ?_
  refine w_pure want_none (y_fieldAddr (o := 2) (i := 2) Try.underlying60 rfl Try.sizeOf3 rfl rfl rfl) rfl ?_
  refine w_pure want_none (y_load1 Try.isAgg3 hs5 rfl rfl (ats_own (i := 0) (vs := [_]) rfl rfl)) rfl ?_
  refine w_pure want_none (y_add rfl rfl rfl rfl (by omega) (by omega)) rfl ?_
  refine w_pure want_none (y_assign (v := .int _ _) rfl rfl) rfl ?_
  refine w_nil ?_
  refine q_then (hK6 _ _ ?_)
  refine w_seq (fun K9 hK8 => ?_)
  refine w_region ?_
  refine w_pure want_none (y_move (v := .int _ _) rfl rfl) rfl ?_
  refine w_pure want_none (y_neq rfl rfl rfl rfl) rfl ?_
  refine w_pure want_none (y_move (v := .bool _) rfl rfl) rfl ?_
  refine w_split (fun h10 => ?_) (fun h10 => ?_)
  ·
    try simp only [Bool.not_eq_true', Bool.not_eq_false', decide_eq_true_eq, decide_eq_false_iff_not, Int.not_lt, Int.not_le] at h10
    refine w_pure (want_yes rfl rfl rfl) (y_move (v := .int _ _) rfl rfl) rfl ?_
    refine w_pure (want_yes rfl rfl rfl) (y_move (v := .int _ _) rfl rfl) rfl ?_
    refine w_pure (want_yes rfl rfl rfl) (y_fieldAddr (o := 1) (i := 1) Try.underlying60 rfl Try.sizeOf3 rfl rfl rfl) rfl ?_
    refine w_pure (want_yes rfl rfl rfl) (y_load1 Try.isAgg3 hs5 rfl rfl (ats_own (i := 0) (vs := [_]) rfl rfl)) rfl ?_
    refine w_pure (want_yes rfl rfl rfl) (y_add rfl rfl rfl rfl (by omega) (by omega)) rfl ?_
    refine w_pure (want_yes rfl rfl rfl) (y_move (v := .int _ _) rfl rfl) rfl ?_
    refine w_pure (want_yes rfl rfl rfl) (y_fieldAddr (o := 3) (i := 3) Try.underlying60 rfl Try.sizeOf3 rfl rfl rfl) rfl ?_
    refine w_pure (want_yes rfl rfl rfl) (y_load1 Try.isAgg3 hs5 rfl rfl (ats_own (i := 0) (vs := [_]) rfl rfl)) rfl ?_
    refine w_pure (want_yes rfl rfl rfl) (y_add rfl rfl rfl rfl (by omega) (by omega)) rfl ?_
    refine w_call (want_yes rfl rfl rfl) Try.call45 rfl rfl rfl rfl (c45 _ _ _ hs5) ?_
    rintro _ w12 ⟨rfl, hs13⟩
    refine w_pure want_none (y_pickT (v := .bool _) rfl rfl rfl rfl) rfl ?_
    refine w_pure want_none (y_assign (v := .bool _) rfl rfl) rfl ?_
    refine w_nil ?_
    refine q_then (hK8 _ _ ?_)
    refine w_ret ?_
    refine q_ret (l := [.tmp 6]) (vs := [_]) rfl ⟨⟨rfl, show _ = (.bool _ : Value) from rfl⟩, trivial⟩ ?_
    exact ⟨congrArg Value.bool (by rw [fresh_ref hf hc]; simp [h10] <;> omega), hs13.tail⟩
  ·
    try simp only [Bool.not_eq_true', Bool.not_eq_false', decide_eq_true_eq, decide_eq_false_iff_not, Int.not_lt, Int.not_le] at h10
    refine w_skipop rfl rfl rfl ?_
    refine w_skipop rfl rfl rfl ?_
    refine w_skipop rfl rfl rfl ?_
    refine w_skipop rfl rfl rfl ?_
    refine w_skipop rfl rfl rfl ?_
    refine w_skipop rfl rfl rfl ?_
    refine w_skipop rfl rfl rfl ?_
    refine w_skipop rfl rfl rfl ?_
    refine w_skipop rfl rfl rfl ?_
    refine w_skipop rfl rfl rfl ?_
    refine w_pure want_none (y_pickF (v := _) rfl rfl rfl rfl) rfl ?_
    refine w_pure want_none (y_assign (v := .bool _) rfl rfl) rfl ?_
    refine w_nil ?_
    refine q_then (hK8 _ _ ?_)
    refine w_ret ?_
    refine q_ret (l := [.tmp 6]) (vs := [_]) rfl ⟨⟨rfl, show _ = (.bool _ : Value) from rfl⟩, trivial⟩ ?_
    exact ⟨congrArg Value.bool (by rw [fresh_ref hf hc]; simp [h10] <;> omega), hs5.tail⟩

theorem c56 {w0 w : World} {F : List (Nat × Obj)} (p : Port) (a : Option Addr) (c : Nat) (ha : Sl w0 F a 6 (rows p.farms)) (hok : p.Ok) (al : Option Addr) (cl : Nat) (l : List Int) (hlen : l.length = p.farms.length) (hl : Sl w0 F al 1 (l.map fun x => [Value.int .i64 x])) (hl1 : ∀ x ∈ l, -1 ≤ x ∧ x ≤ 10) (day : Int) (hd : -100 ≤ day) (hd2 : day ≤ 100) (hs : St w0 w F) :
  Con Try.prog 56 [.agg (p.cells a c).toArray, .slice al l.length cl, .int .i64 day] w fun v w' => v = .tuple #[.agg #[.int .i64 (on p.farms l day).least, .int .i64 (on p.farms l day).most], .int .i64 (on p.farms l day).vain] ∧ St w0 w' F := by
  refine con_of_wc (n := 57) Try.func56 rfl rfl (Nat.le_of_ble_eq_true rfl) ?_
  have hlen3 := hok.len
  refine w_seq (fun K2 hK1 => ?_)
  refine w_region ?_
  refine w_box (v := .agg #[.int _ _, .int _ _, .int _ _, .slice _ _ _]) (cs := [_, _, _, _]) want_none rfl rfl rfl hs (fun b3 w4 hs5 => ?_)
  refine w_alloc (cs := [_, _]) want_none Try.zeroValue23 rfl hs5 (fun b6 w7 hs8 => ?_)
  refine w_pure want_none (y_assign (v := _) rfl rfl) rfl ?_
  refine w_nil ?_
  refine q_then (hK1 _ _ ?_)
  refine w_seq (fun K10 hK9 => ?_)
  refine w_region ?_
  refine w_alloc (cs := [_, _]) want_none Try.zeroValue23 rfl hs8 (fun b11 w12 hs13 => ?_)
  refine w_nil ?_
  refine q_then (hK9 _ _ ?_)
  refine w_seq (fun K15 hK14 => ?_)
  refine w_region ?_
  refine w_pure want_none (y_assign (v := _) rfl rfl) rfl ?_
  refine w_nil ?_
  refine q_then (hK14 _ _ ?_)
  refine w_seq (fun K17 hK16 => ?_)
  refine w_seq (fun K19 hK18 => ?_)
  refine w_region ?_
  refine w_pure want_none (y_assign (v := _) rfl rfl) rfl ?_
  refine w_nil ?_
  refine q_then (hK18 _ _ ?_)
  refine w_block ?_
  refine w_loop [9, 10, 11, 12, 13, 14, 15, 16, 17, 18, 19, 20, 21, 22, 23, 24, 25, 26, 27, 28, 29, 30, 31, 32, 33, 34, 35, 36, 37, 38, 39, 40, 41, 42, 43, 44, 45, 46, 47, 48, 49, 50, 51, 52, 53, 54] [9, 10] (fun k vs w => ∃ (i : Nat) (x : Load), x = onUpto p.farms l day i ∧ vs = [.int .i64 x.vain, .int .i64 i] ∧ i ≤ l.length ∧ k = l.length - i ∧ St w0 w ((b11, blk 23 [.int .i64 x.least, .int .i64 x.most]) :: (b6, blk 23 [.int .i64 0, .int .i64 0]) :: (b3, blk 26 (p.cells a c)) :: F)) (l.length) ?_ ?_
  ·
    exact ⟨0, ⟨0, 0, 0⟩, rfl, rfl, by omega, by omega, hs13⟩
  ·
    intro k vs μ w22 hI K21 hN20
    obtain ⟨i, x, hxx, rfl, hia, rfl, hs⟩ := hI
    refine w_seq (fun K24 hK23 => ?_)
    refine w_seq (fun K26 hK25 => ?_)
    refine w_region ?_
    refine w_pure want_none (y_move (v := .int _ _) rfl rfl) rfl ?_
    refine w_pure want_none (y_move (v := .slice _ _ _) rfl rfl) rfl ?_
    refine w_pure want_none (y_lenS Try.underlying27 rfl rfl) rfl ?_
    refine w_pure want_none (y_lss rfl rfl rfl rfl) rfl ?_
    refine w_nil ?_
    refine q_then (hK25 _ _ ?_)
    refine w_cond rfl rfl (fun h27 => ?_) (fun h27 => ?_)
    ·
      try simp only [Bool.not_eq_true', Bool.not_eq_false', decide_eq_true_eq, decide_eq_false_iff_not, Int.not_lt, Int.not_le] at h27
      refine w_skip ?_
      refine q_then (hK23 _ _ ?_)
      refine w_seq (fun K29 hK28 => ?_)
      refine w_block ?_
      refine w_seq (fun K31 hK30 => ?_)
      have hi2 : i < p.farms.length := by omega
      have hi3 : i < l.length := by omega
      obtain ⟨bx, ox, rfl, hx⟩ := sl_farm ha hi2
      have hfo := hok.farm _ (List.getElem_mem hi2)
      have hfo2 := hfo
      unfold Farm.Ok at hfo2
      have hb := onUpto_bound (fs := p.farms) (l := l) day i (by have := hok.len; omega) hok.farm
      rw [← hxx] at hb
      obtain ⟨bl, ol, rfl, hxl⟩ := sl_ints hl hi3
      have hgd : l[i] = l.getD i 0 := by simp [List.getD, hi3]
      rw [hgd] at hxl
      have hl2 := hl1 (l.getD i 0) (by rw [← hgd]; exact List.getElem_mem hi3)
      refine w_region ?_
      refine w_pure want_none (y_fieldAddr (o := 3) (i := 2) Try.underlying26 rfl Try.sizeOf24 rfl rfl rfl) rfl ?_
      refine w_pure want_none (y_load1 Try.isAgg24 hs rfl rfl (ats_own (i := 2) (vs := [_]) rfl rfl)) rfl ?_
      refine w_pure want_none (y_move (v := .int _ _) rfl rfl) rfl ?_
      refine w_pure want_none (y_indexS Try.underlying24 Try.sizeOf60 rfl rfl rfl rfl (i := _) rfl (by omega)) rfl ?_
      refine w_pure want_none (y_fieldAddr (o := 4) (i := 4) Try.underlying60 rfl Try.sizeOf23 rfl rfl rfl) rfl ?_
      refine w_pure want_none (y_loadN (vs := [_, _]) Try.isAgg23 Try.sizeOf23 hs.tail.tail.tail rfl rfl (show Ats _ _ _ _ [_, _] from Ats.part hx 4 2)) rfl ?_
      refine w_alloc (cs := [_, _]) want_none Try.zeroValue23 rfl hs (fun b32 w33 hs34 => ?_)
      refine w_store (i := 0) (v := .agg #[.int _ _, .int _ _]) (vs := [_, _]) want_none Try.sizeOf23 rfl rfl rfl rfl rfl (by simp [Value.oneCell']) hs34 rfl (Nat.le_of_ble_eq_true rfl) (fun w35 hs36 => ?_)
      refine w_nil ?_
      refine q_then (hK30 _ _ ?_)
      refine w_seq (fun K38 hK37 => ?_)
      refine w_seq (fun K40 hK39 => ?_)
      refine w_draw [] [(0, 0), (1, 1), (2, 0), (3, 0), (4, 1), (5, 0), (6, 0), (7, 0), (8, 1), (9, 0), (10, 2)] Try_mo (by kernel_rfl) hs36 (fun w41 hs42 => ?_)
      refine d_any rfl want_none rfl (fun _ => (y_fieldAddr (o := 3) (i := 2) Try.underlying26 rfl Try.sizeOf24 rfl rfl rfl)) ?_
      refine d_take rfl want_none rfl hs42 (fun _ hq => (y_load1 Try.isAgg24 hq rfl rfl (ats_own (i := 3) (vs := [_]) rfl rfl))) ?_
      refine d_any rfl want_none rfl (fun _ => (y_move (v := .int _ _) rfl rfl)) ?_
      refine d_any rfl want_none rfl (fun _ => (y_indexS Try.underlying24 Try.sizeOf60 rfl rfl rfl rfl (i := _) rfl (by omega))) ?_
      refine d_take rfl want_none rfl hs42 (fun _ hq => (y_loadN (vs := [_, _, _, _, _, _]) Try.isAgg60 Try.sizeOf60 hq.tail.tail.tail.tail rfl rfl hx)) ?_
      refine d_any rfl want_none rfl (fun _ => (y_move (v := .slice _ _ _) rfl rfl)) ?_
      refine d_any rfl want_none rfl (fun _ => (y_move (v := .int _ _) rfl rfl)) ?_
      refine d_any rfl want_none rfl (fun _ => (y_indexS Try.underlying27 Try.sizeOf3 rfl rfl rfl rfl (i := _) rfl (by omega))) ?_
      refine d_take rfl want_none rfl hs42 (fun _ hq => (y_load1 Try.isAgg3 hq.tail.tail.tail.tail rfl rfl hxl)) ?_
      refine d_any rfl want_none rfl (fun _ => (y_move (v := .int _ _) rfl rfl)) ?_
      refine d_eff rfl ?_
      refine w_call want_none Try.call71 rfl rfl rfl rfl (c71 _ _ _ (by assumption) (by omega) (by omega) (by omega) (by omega) hs42) ?_
      rintro _ w44 ⟨rfl, hs45⟩
      refine w_nil ?_
      refine qn ⟨hs45, ?_⟩
      refine d_nil ?_
      refine q_then (hK39 _ _ ?_)
      refine w_cond rfl rfl (fun h46 => ?_) (fun h46 => ?_)
      ·
        try simp only [Bool.not_eq_true', Bool.not_eq_false', decide_eq_true_eq, decide_eq_false_iff_not, Int.not_lt, Int.not_le] at h46
        refine w_seq (fun K48 hK47 => ?_)
        refine w_region ?_
        refine w_pure want_none (y_fieldAddr (o := 0) (i := 0) Try.underlying23 rfl Try.sizeOf3 rfl rfl rfl) rfl ?_
        refine w_pure want_none (y_load1 Try.isAgg3 hs45 rfl rfl (ats_own (i := 1) (vs := [_]) rfl rfl)) rfl ?_
        refine w_pure want_none (y_fieldAddr (o := 0) (i := 0) Try.underlying23 rfl Try.sizeOf3 rfl rfl rfl) rfl ?_
        refine w_pure want_none (y_load1 Try.isAgg3 hs45 rfl rfl (ats_own (i := 0) (vs := [_]) rfl rfl)) rfl ?_
        refine w_pure want_none (y_add rfl rfl rfl rfl (by omega) (by omega)) rfl ?_
        refine w_pure want_none (y_fieldAddr (o := 1) (i := 1) Try.underlying23 rfl Try.sizeOf3 rfl rfl rfl) rfl ?_
        refine w_pure want_none (y_load1 Try.isAgg3 hs45 rfl rfl (ats_own (i := 1) (vs := [_]) rfl rfl)) rfl ?_
        refine w_pure want_none (y_fieldAddr (o := 1) (i := 1) Try.underlying23 rfl Try.sizeOf3 rfl rfl rfl) rfl ?_
        refine w_pure want_none (y_load1 Try.isAgg3 hs45 rfl rfl (ats_own (i := 0) (vs := [_]) rfl rfl)) rfl ?_
        refine w_pure want_none (y_add rfl rfl rfl rfl (by omega) (by omega)) rfl ?_
        refine w_pure want_none (y_build (ps := [(0, _), (1, _)]) (pv := [(0, .int _ _), (1, .int _ _)]) rfl rfl (fun w => Try_F_fb3 _ _ w)) rfl ?_
        refine w_store (i := 1) (v := .agg #[.int _ _, .int _ _]) (vs := [_, _]) want_none Try.sizeOf23 rfl rfl rfl rfl rfl (by simp [Value.oneCell']) hs45 rfl (Nat.le_of_ble_eq_true rfl) (fun w49 hs50 => ?_)
        refine w_nil ?_
        refine q_then (hK47 _ _ ?_)
        refine w_exit ?_
        refine q_then_exit ?_
        refine q_blk_this ?_
        refine q_then (hK28 _ _ ?_)
        refine w_region ?_
        refine w_pure want_none (y_move (v := .int _ _) rfl rfl) rfl ?_
        refine w_pure want_none (y_add rfl rfl rfl rfl (by omega) (by omega)) rfl ?_
        refine w_pure want_none (y_assign (v := .int _ _) rfl rfl) rfl ?_
        refine w_nil ?_
        refine q_then (hN20 _ _ (Nx.intro (l.length - (i + 1)) (by omega) (by repeat (first | exact agree_mix | refine agree_upd rfl ?_ | refine agree_updL rfl ?_ _ | refine agree_mixin rfl ?_)) ?_))
        first
          | exact ⟨i + 1, ⟨x.least + p.farms[i].lo, x.most + p.farms[i].hi, x.vain⟩, (by rw [onUpto_succ day hi2 hi3, ← hxx]; exact (step_fresh (fresh_pos (by assumption)) (by assumption)).symm), rfl, by omega, rfl, hs50.tail⟩
          | exact ⟨i + 1, ⟨x.least, x.most, x.vain + p.farms[i].hi⟩, (by rw [onUpto_succ day hi2 hi3, ← hxx]; exact (step_vain (by assumption) (by assumption)).symm), rfl, by omega, rfl, hs50.tail⟩
          | exact ⟨i + 1, x, (by rw [onUpto_succ day hi2 hi3, ← hxx]; exact (step_never (by assumption)).symm), rfl, by omega, rfl, hs50.tail⟩
      ·
        try simp only [Bool.not_eq_true', Bool.not_eq_false', decide_eq_true_eq, decide_eq_false_iff_not, Int.not_lt, Int.not_le] at h46
        refine w_skip ?_
        refine q_then (hK37 _ _ ?_)
        refine w_seq (fun K52 hK51 => ?_)
        refine w_region ?_
        refine w_pure want_none (y_move (v := .slice _ _ _) rfl rfl) rfl ?_
        refine w_pure want_none (y_move (v := .int _ _) rfl rfl) rfl ?_
        refine w_pure want_none (y_indexS Try.underlying27 Try.sizeOf3 rfl rfl rfl rfl (i := _) rfl (by omega)) rfl ?_
        refine w_pure want_none (y_load1 Try.isAgg3 hs45.tail.tail.tail.tail rfl rfl hxl) rfl ?_
        refine w_pure want_none (y_neq rfl rfl rfl rfl) rfl ?_
        refine w_nil ?_
        refine q_then (hK51 _ _ ?_)
        refine w_cond rfl rfl (fun h53 => ?_) (fun h53 => ?_)
        ·
          try simp only [Bool.not_eq_true', Bool.not_eq_false', decide_eq_true_eq, decide_eq_false_iff_not, Int.not_lt, Int.not_le] at h53
          refine w_region ?_
          refine w_pure want_none (y_move (v := .int _ _) rfl rfl) rfl ?_
          refine w_pure want_none (y_fieldAddr (o := 1) (i := 1) Try.underlying23 rfl Try.sizeOf3 rfl rfl rfl) rfl ?_
          refine w_pure want_none (y_load1 Try.isAgg3 hs45 rfl rfl (ats_own (i := 0) (vs := [_]) rfl rfl)) rfl ?_
          refine w_pure want_none (y_add rfl rfl rfl rfl (by omega) (by omega)) rfl ?_
          refine w_pure want_none (y_assign (v := .int _ _) rfl rfl) rfl ?_
          refine w_nil ?_
          refine q_blk_normal ?_
          refine q_then (hK28 _ _ ?_)
          refine w_region ?_
          refine w_pure want_none (y_move (v := .int _ _) rfl rfl) rfl ?_
          refine w_pure want_none (y_add rfl rfl rfl rfl (by omega) (by omega)) rfl ?_
          refine w_pure want_none (y_assign (v := .int _ _) rfl rfl) rfl ?_
          refine w_nil ?_
          refine q_then (hN20 _ _ (Nx.intro (l.length - (i + 1)) (by omega) (by repeat (first | exact agree_mix | refine agree_upd rfl ?_ | refine agree_updL rfl ?_ _ | refine agree_mixin rfl ?_)) ?_))
          first
            | exact ⟨i + 1, ⟨x.least + p.farms[i].lo, x.most + p.farms[i].hi, x.vain⟩, (by rw [onUpto_succ day hi2 hi3, ← hxx]; exact (step_fresh (fresh_pos (by assumption)) (by assumption)).symm), rfl, by omega, rfl, hs45.tail⟩
            | exact ⟨i + 1, ⟨x.least, x.most, x.vain + p.farms[i].hi⟩, (by rw [onUpto_succ day hi2 hi3, ← hxx]; exact (step_vain (by assumption) (by assumption)).symm), rfl, by omega, rfl, hs45.tail⟩
            | exact ⟨i + 1, x, (by rw [onUpto_succ day hi2 hi3, ← hxx]; exact (step_never (by assumption)).symm), rfl, by omega, rfl, hs45.tail⟩
        ·
          try simp only [Bool.not_eq_true', Bool.not_eq_false', decide_eq_true_eq, decide_eq_false_iff_not, Int.not_lt, Int.not_le] at h53
          refine w_skip ?_
          refine q_blk_normal ?_
          refine q_then (hK28 _ _ ?_)
          refine w_region ?_
          refine w_pure want_none (y_move (v := .int _ _) rfl rfl) rfl ?_
          refine w_pure want_none (y_add rfl rfl rfl rfl (by omega) (by omega)) rfl ?_
          refine w_pure want_none (y_assign (v := .int _ _) rfl rfl) rfl ?_
          refine w_nil ?_
          refine q_then (hN20 _ _ (Nx.intro (l.length - (i + 1)) (by omega) (by repeat (first | exact agree_mix | refine agree_upd rfl ?_ | refine agree_updL rfl ?_ _ | refine agree_mixin rfl ?_)) ?_))
          first
            | exact ⟨i + 1, ⟨x.least + p.farms[i].lo, x.most + p.farms[i].hi, x.vain⟩, (by rw [onUpto_succ day hi2 hi3, ← hxx]; exact (step_fresh (fresh_pos (by assumption)) (by assumption)).symm), rfl, by omega, rfl, hs45.tail⟩
            | exact ⟨i + 1, ⟨x.least, x.most, x.vain + p.farms[i].hi⟩, (by rw [onUpto_succ day hi2 hi3, ← hxx]; exact (step_vain (by assumption) (by assumption)).symm), rfl, by omega, rfl, hs45.tail⟩
            | exact ⟨i + 1, x, (by rw [onUpto_succ day hi2 hi3, ← hxx]; exact (step_never (by assumption)).symm), rfl, by omega, rfl, hs45.tail⟩
    ·
      try simp only [Bool.not_eq_true', Bool.not_eq_false', decide_eq_true_eq, decide_eq_false_iff_not, Int.not_lt, Int.not_le] at h27
      refine w_exit ?_
      refine q_then_exit ?_
      refine q_then_exit ?_
      refine q_blk_this ?_
      refine q_then (hK16 _ _ ?_)
      refine w_seq (fun K55 hK54 => ?_)
      refine w_region ?_
      refine w_pure want_none (y_loadN (vs := [_, _]) Try.isAgg23 Try.sizeOf23 hs rfl rfl (ats_own (i := 0) (vs := [_, _]) rfl rfl)) rfl ?_
      refine w_pure want_none (y_move (v := .int _ _) rfl rfl) rfl ?_
      refine w_store (i := 1) (v := .agg #[.int _ _, .int _ _]) (vs := [_, _]) want_none Try.sizeOf23 rfl rfl rfl rfl rfl (by simp [Value.oneCell']) hs rfl (Nat.le_of_ble_eq_true rfl) (fun w56 hs57 => ?_)
      refine w_pure want_none (y_assign (v := .int _ _) rfl rfl) rfl ?_
      refine w_nil ?_
      refine q_then (hK54 _ _ ?_)
      refine w_ret ?_
      refine q_ret (l := [.cell 6 23, .tmp 7]) (vs := [_, _]) rfl ⟨⟨rfl, _, rfl, run_loadVarN (vs := [_, _]) Try.isAgg23 Try.sizeOf23 hs57 (ats_own (i := 1) (vs := [_, _]) rfl rfl)⟩, ⟨rfl, show _ = (.int _ _ : Value) from rfl⟩, trivial⟩ ?_
      have hfin := onUpto_all (fs := p.farms) (l := l) (i := i) day (by omega)
      exact ⟨by rw [← hfin, ← hxx]; rfl, hs57.tail.tail.tail⟩

theorem c89 {w0 w : World} {F : List (Nat × Obj)} (p : Port) (a : Option Addr) (c m pb : Nat) (hp : Ats w0 F pb 0 [.int .i64 p.hold, .int .i64 p.clo, .int .i64 p.chi, .slice a p.farms.length c, .map (some m)]) (ha : Sl w0 F a 6 (rows p.farms)) (hok : p.Ok) (i : Nat) (hi : i < p.farms.length) (q day : Int) (hq : -100 ≤ q) (hq2 : q ≤ 100) (hd : -100 ≤ day) (hd2 : day ≤ 100) (hs : St w0 w F) :
  Con Try.prog 89 [.pointer (some ⟨pb, 0, none⟩), .int .i64 (i : Int), .int .i64 q, .int .i64 day] w fun v w' => v = .bool (fresh p.farms[i] q day) ∧ St w0 w' F := by
  refine con_of_wc (n := 35) Try.func89 rfl rfl (Nat.le_of_ble_eq_true rfl) ?_
  obtain ⟨bx, ox, rfl, hx⟩ := sl_farm ha hi
  have hfo := hok.farm _ (List.getElem_mem hi)
  unfold Farm.Ok at hfo
  refine w_seq (fun K2 hK1 => ?_)
  refine w_region ?_
  refine w_pure want_none (y_assign (v := _) rfl rfl) rfl ?_
  refine w_nil ?_
  refine q_then (hK1 _ _ ?_)
  refine w_seq (fun K4 hK3 => ?_)
  refine w_region ?_
  refine w_pure want_none (y_move (v := .pointer _) rfl rfl) rfl ?_
  refine w_pure want_none (y_nilCheck rfl rfl) rfl ?_
  refine w_pure want_none (y_fieldAddr (o := 0) (i := 0) Try.underlying119 rfl Try.sizeOf26 rfl rfl rfl) rfl ?_
  refine w_pure want_none (y_fieldAddr (o := 3) (i := 2) Try.underlying26 rfl Try.sizeOf24 rfl rfl rfl) rfl ?_
  refine w_pure want_none (y_load1 Try.isAgg24 hs rfl rfl (show Ats _ _ _ _ [_] from Ats.part hp 3 1)) rfl ?_
  refine w_pure want_none (y_move (v := .int _ _) rfl rfl) rfl ?_
  refine w_pure want_none (y_indexS Try.underlying24 Try.sizeOf60 rfl rfl rfl rfl (i := _) rfl (by omega)) rfl ?_
  refine w_pure want_none (y_loadN (vs := [_, _, _, _, _, _]) Try.isAgg60 Try.sizeOf60 hs rfl rfl hx) rfl ?_
  refine w_alloc (cs := [_, _, _, _, _, _]) want_none Try.zeroValue60 rfl hs (fun b5 w6 hs7 => ?_)
  refine w_store (i := 0) (v := .agg #[.string _, .int _ _, .int _ _, .int _ _, .int _ _, .int _ _]) (vs := [_, _, _, _, _, _]) want_none Try.sizeOf60 rfl rfl rfl rfl rfl (by simp [Value.oneCell']) hs7 rfl (Nat.le_of_ble_eq_true rfl) (fun w8 hs9 => ?_)
  refine w_nil ?_
  refine q_then (hK3 _ _ ?_)
  refine w_seq (fun K11 hK10 => ?_)
  refine w_region ?_
  refine w_pure want_none (y_move (v := .int _ _) rfl rfl) rfl ?_
  refine w_pure want_none (y_geq rfl rfl rfl rfl) rfl ?_
  refine w_pure want_none (y_move (v := .bool _) rfl rfl) rfl ?_
  refine w_split (fun h12 => ?_) (fun h12 => ?_)
  ·
    try simp only [Bool.not_eq_true', Bool.not_eq_false', decide_eq_true_eq, decide_eq_false_iff_not, Int.not_lt, Int.not_le] at h12
    refine w_pure (want_yes rfl rfl rfl) (y_fieldAddr (o := 1) (i := 1) Try.underlying60 rfl Try.sizeOf3 rfl rfl rfl) rfl ?_
    refine w_pure (want_yes rfl rfl rfl) (y_load1 Try.isAgg3 hs9 rfl rfl (ats_own (i := 0) (vs := [_]) rfl rfl)) rfl ?_
    refine w_pure (want_yes rfl rfl rfl) (y_fieldAddr (o := 3) (i := 3) Try.underlying60 rfl Try.sizeOf3 rfl rfl rfl) rfl ?_
    refine w_pure (want_yes rfl rfl rfl) (y_load1 Try.isAgg3 hs9 rfl rfl (ats_own (i := 0) (vs := [_]) rfl rfl)) rfl ?_
    refine w_pure (want_yes rfl rfl rfl) (y_move (v := .int _ _) rfl rfl) rfl ?_
    refine w_pure (want_yes rfl rfl rfl) (y_move (v := .int _ _) rfl rfl) rfl ?_
    refine w_pure (want_yes rfl rfl rfl) (y_sub rfl rfl rfl rfl (by omega) (by omega)) rfl ?_
    refine w_pure (want_yes rfl rfl rfl) (y_fieldAddr (o := 2) (i := 2) Try.underlying60 rfl Try.sizeOf3 rfl rfl rfl) rfl ?_
    refine w_pure (want_yes rfl rfl rfl) (y_load1 Try.isAgg3 hs9 rfl rfl (ats_own (i := 0) (vs := [_]) rfl rfl)) rfl ?_
    refine w_pure (want_yes rfl rfl rfl) (y_sub rfl rfl rfl rfl (by omega) (by omega)) rfl ?_
    refine w_bslice (ps := [(0, _)]) (pv := [(0, .int _ _)]) (cs := [_]) (want_yes rfl rfl rfl) rfl rfl (fun w => Try_F_fb4 _ w) hs9 (fun b13 w14 hs15 => ?_)
    refine w_call (want_yes rfl rfl rfl) Try.call48 rfl rfl rfl rfl (c48 _ _ _ [_] _ (by simp) (sl_own (i := 0) (rows := [[_]]) rfl (by simp) rfl) hs15) ?_
    rintro _ w17 ⟨rfl, hs18⟩
    refine w_pure (want_yes rfl rfl rfl) (y_not rfl rfl) rfl ?_
    refine w_pure want_none (y_pickT (v := .bool _) rfl rfl rfl rfl) rfl ?_
    refine w_pure want_none (y_assign (v := .bool _) rfl rfl) rfl ?_
    refine w_nil ?_
    refine q_then (hK10 _ _ ?_)
    refine w_ret ?_
    refine q_ret (l := [.tmp 8]) (vs := [_]) rfl ⟨⟨rfl, show _ = (.bool _ : Value) from rfl⟩, trivial⟩ ?_
    try simp only [List.any_cons, List.any_nil, Bool.or_false, Bool.or_eq_false_iff] at h12
    exact ⟨congrArg Value.bool (by unfold fresh; rw [Bool.eq_iff_iff]; simp [h12] <;> omega), hs18.tail.tail⟩
  ·
    try simp only [Bool.not_eq_true', Bool.not_eq_false', decide_eq_true_eq, decide_eq_false_iff_not, Int.not_lt, Int.not_le] at h12
    refine w_skipop rfl rfl rfl ?_
    refine w_skipop rfl rfl rfl ?_
    refine w_skipop rfl rfl rfl ?_
    refine w_skipop rfl rfl rfl ?_
    refine w_skipop rfl rfl rfl ?_
    refine w_skipop rfl rfl rfl ?_
    refine w_skipop rfl rfl rfl ?_
    refine w_skipop rfl rfl rfl ?_
    refine w_skipop rfl rfl rfl ?_
    refine w_skipop rfl rfl rfl ?_
    refine w_skipop rfl rfl rfl ?_
    refine w_skipop rfl rfl rfl ?_
    refine w_skipop rfl rfl rfl ?_
    refine w_pure want_none (y_pickF (v := _) rfl rfl rfl rfl) rfl ?_
    refine w_pure want_none (y_assign (v := .bool _) rfl rfl) rfl ?_
    refine w_nil ?_
    refine q_then (hK10 _ _ ?_)
    refine w_ret ?_
    refine q_ret (l := [.tmp 8]) (vs := [_]) rfl ⟨⟨rfl, show _ = (.bool _ : Value) from rfl⟩, trivial⟩ ?_
    try simp only [List.any_cons, List.any_nil, Bool.or_false, Bool.or_eq_false_iff] at h12
    exact ⟨congrArg Value.bool (by unfold fresh; rw [Bool.eq_iff_iff]; simp [h12] <;> omega), hs9.tail⟩

theorem c84 {w0 w : World} {F : List (Nat × Obj)} (p : Port) (a : Option Addr) (c m pb : Nat) (hp : Ats w0 F pb 0 [.int .i64 p.hold, .int .i64 p.clo, .int .i64 p.chi, .slice a p.farms.length c, .map (some m)]) (ha : Sl w0 F a 6 (rows p.farms)) (hok : p.Ok) (l : List Int) (hlen : l.length = 3) (hl1 : ∀ x ∈ l, -1 ≤ x ∧ x ≤ 10) (day : Int) (hd : -100 ≤ day) (hd2 : day ≤ 100) (hs : St w0 w F) :
  Con Try.prog 84 [.pointer (some ⟨pb, 0, none⟩), ia l, .int .i64 day] w fun v w' => v = ia (on p.farms l day).ints ∧ St w0 w' F := by
  refine con_of_wc (n := 59) Try.func84 rfl rfl (Nat.le_of_ble_eq_true rfl) ?_
  have hlen3 := hok.len
  refine w_seq (fun K2 hK1 => ?_)
  refine w_region ?_
  refine w_boxI (l := _) want_none rfl rfl rfl hs (fun b3 w4 hs5 => ?_)
  refine w_alloc (cs := [_, _, _]) want_none Try.zeroValue89 rfl hs5 (fun b6 w7 hs8 => ?_)
  refine w_nil ?_
  refine q_then (hK1 _ _ ?_)
  refine w_scope ?_
  refine w_seq (fun K10 hK9 => ?_)
  refine w_region ?_
  refine w_pure want_none (y_move (v := .pointer _) rfl rfl) rfl ?_
  refine w_pure want_none (y_makeFunc (fv := [_]) (cv := []) rfl rfl rfl rfl) rfl ?_
  refine w_pure want_none (y_assign (v := .func _ _ _) rfl rfl) rfl ?_
  refine w_nil ?_
  refine q_then (hK9 _ _ ?_)
  refine w_seq (fun K12 hK11 => ?_)
  refine w_label ?_
  refine q_then (hK11 _ _ ?_)
  refine w_seq (fun K14 hK13 => ?_)
  refine w_seq (fun K16 hK15 => ?_)
  refine w_region ?_
  refine w_pure want_none (y_move (v := .pointer _) rfl rfl) rfl ?_
  refine w_pure want_none (y_nilCheck rfl rfl) rfl ?_
  refine w_pure want_none (y_fieldAddr (o := 0) (i := 0) Try.underlying119 rfl Try.sizeOf26 rfl rfl rfl) rfl ?_
  refine w_pure want_none (y_fieldAddr (o := 3) (i := 2) Try.underlying26 rfl Try.sizeOf24 rfl rfl rfl) rfl ?_
  refine w_pure want_none (y_load1 Try.isAgg24 hs8.tail.tail rfl rfl (show Ats _ _ _ _ [_] from Ats.part hp 3 1)) rfl ?_
  refine w_pure want_none (y_lenS Try.underlying24 rfl rfl) rfl ?_
  refine w_pure want_none (y_move (v := _) rfl rfl) rfl ?_
  refine w_nil ?_
  refine q_then (hK15 _ _ ?_)
  refine w_block ?_
  refine w_loop [8, 9, 18, 19, 20, 21, 22, 23, 24, 25, 26, 27, 28, 29, 30, 31, 32, 33, 34, 35, 36, 37, 38, 39, 40, 41, 42, 43, 44, 45, 46, 47, 48, 49, 50, 51, 52, 53, 54, 55, 56, 57] [18] (fun k vs w => ∃ (i : Nat) (x : Load), x = onUpto p.farms l day i ∧ vs = [.int .i64 i] ∧ i ≤ p.farms.length ∧ k = p.farms.length - i ∧ St w0 w ((b6, blk 89 [.int .i64 x.least, .int .i64 x.most, .int .i64 x.vain]) :: (b3, blk 83 (iv l)) :: F)) (p.farms.length) ?_ ?_
  ·
    exact ⟨0, ⟨0, 0, 0⟩, rfl, rfl, by omega, by omega, hs8⟩
  ·
    intro k vs μ w19 hI K18 hN17
    obtain ⟨i, x, hxx, rfl, hia, rfl, hs⟩ := hI
    refine w_seq (fun K21 hK20 => ?_)
    refine w_region ?_
    refine w_pure want_none (y_lss rfl rfl rfl rfl) rfl ?_
    refine w_nil ?_
    refine q_then (hK20 _ _ ?_)
    refine w_seq (fun K23 hK22 => ?_)
    refine w_cond rfl rfl (fun h24 => ?_) (fun h24 => ?_)
    ·
      try simp only [Bool.not_eq_true', Bool.not_eq_false', decide_eq_true_eq, decide_eq_false_iff_not, Int.not_lt, Int.not_le] at h24
      refine w_skip ?_
      refine q_then (hK22 _ _ ?_)
      refine w_seq (fun K26 hK25 => ?_)
      refine w_block ?_
      refine w_seq (fun K28 hK27 => ?_)
      have hi2 : i < p.farms.length := by omega
      have hi3 : i < l.length := by omega
      obtain ⟨bx, ox, rfl, hx⟩ := sl_farm ha hi2
      have hfo := hok.farm _ (List.getElem_mem hi2)
      have hfo2 := hfo
      unfold Farm.Ok at hfo2
      have hb := onUpto_bound (fs := p.farms) (l := l) day i (by have := hok.len; omega) hok.farm
      rw [← hxx] at hb
      have hgd : l[i] = l.getD i 0 := by simp [List.getD, hi3]
      have hl2 := hl1 (l.getD i 0) (by rw [← hgd]; exact List.getElem_mem hi3)
      refine w_region ?_
      refine w_pure want_none (y_move (v := .int _ _) rfl rfl) rfl ?_
      refine w_pure want_none (y_indexS Try.underlying24 Try.sizeOf60 rfl rfl rfl rfl (i := _) rfl (by omega)) rfl ?_
      refine w_pure want_none (y_loadN (vs := [_, _, _, _, _, _]) Try.isAgg60 Try.sizeOf60 hs.tail.tail rfl rfl hx) rfl ?_
      refine w_alloc (cs := [_, _, _, _, _, _]) want_none Try.zeroValue60 rfl hs (fun b29 w30 hs31 => ?_)
      refine w_pure want_none (y_assign (v := .int _ _) rfl rfl) rfl ?_
      refine w_store (i := 0) (v := .agg #[.string _, .int _ _, .int _ _, .int _ _, .int _ _, .int _ _]) (vs := [_, _, _, _, _, _]) want_none Try.sizeOf60 rfl rfl rfl rfl rfl (by simp [Value.oneCell']) hs31 rfl (Nat.le_of_ble_eq_true rfl) (fun w32 hs33 => ?_)
      refine w_nil ?_
      refine q_then (hK27 _ _ ?_)
      refine w_block ?_
      refine w_seq (fun K35 hK34 => ?_)
      refine w_region ?_
      refine w_pure want_none (y_move (v := .int _ _) rfl rfl) rfl ?_
      refine w_pure want_none (y_indexA Try.underlying83 Try.sizeOf3 rfl rfl rfl rfl (i := i) rfl (by omega)) rfl ?_
      refine w_pure want_none (y_load1 Try.isAgg3 hs33 rfl rfl (ats_ints (i := 2) (j := i) rfl (by first | omega | rfl | (simp only [List.length_map, List.length_set, List.length_append, List.length_take, List.length_drop, List.length_replicate, List.length_cons, List.length_nil] <;> omega)))) rfl ?_
      refine w_pure want_none (y_eql rfl rfl rfl rfl) rfl ?_
      refine w_pure want_none (y_assign (v := .bool _) rfl rfl) rfl ?_
      refine w_nil ?_
      refine q_then (hK34 _ _ ?_)
      refine w_cond rfl rfl (fun h36 => ?_) (fun h36 => ?_)
      ·
        try simp only [Bool.not_eq_true', Bool.not_eq_false', decide_eq_true_eq, decide_eq_false_iff_not, Int.not_lt, Int.not_le] at h36
        refine w_exit ?_
        refine q_blk_other rfl ?_
        refine q_blk_this ?_
        refine q_then (hK25 _ _ ?_)
        refine w_region ?_
        refine w_pure want_none (y_add rfl rfl rfl rfl (by omega) (by omega)) rfl ?_
        refine w_pure want_none (y_move (v := .int _ _) rfl rfl) rfl ?_
        refine w_nil ?_
        refine q_then (hN17 _ _ (Nx.intro (p.farms.length - (i + 1)) (by omega) (by repeat (first | exact agree_mix | refine agree_upd rfl ?_ | refine agree_updL rfl ?_ _ | refine agree_mixin rfl ?_)) ?_))
        first
          | exact ⟨i + 1, ⟨x.least + p.farms[i].lo, x.most + p.farms[i].hi, x.vain⟩, (by rw [onUpto_succ day hi2 hi3, ← hxx]; exact (step_fresh (fresh_pos (by assumption)) (by assumption)).symm), rfl, by omega, rfl, hs33.tail⟩
          | exact ⟨i + 1, ⟨x.least, x.most, x.vain + p.farms[i].hi⟩, (by rw [onUpto_succ day hi2 hi3, ← hxx]; exact (step_vain (by assumption) (by assumption)).symm), rfl, by omega, rfl, hs33.tail⟩
          | exact ⟨i + 1, x, (by rw [onUpto_succ day hi2 hi3, ← hxx]; exact (step_never (by assumption)).symm), rfl, by omega, rfl, hs33.tail⟩
      ·
        try simp only [Bool.not_eq_true', Bool.not_eq_false', decide_eq_true_eq, decide_eq_false_iff_not, Int.not_lt, Int.not_le] at h36
        refine w_seq (fun K38 hK37 => ?_)
        refine w_region ?_
        refine w_pure want_none (y_move (v := .func _ _ _) rfl rfl) rfl ?_
        refine w_pure want_none (y_move (v := .int _ _) rfl rfl) rfl ?_
        refine w_pure want_none (y_move (v := .int _ _) rfl rfl) rfl ?_
        refine w_pure want_none (y_indexA Try.underlying83 Try.sizeOf3 rfl rfl rfl rfl (i := i) rfl (by omega)) rfl ?_
        refine w_pure want_none (y_load1 Try.isAgg3 hs33 rfl rfl (ats_ints (i := 2) (j := i) rfl (by first | omega | rfl | (simp only [List.length_map, List.length_set, List.length_append, List.length_take, List.length_drop, List.length_replicate, List.length_cons, List.length_nil] <;> omega)))) rfl ?_
        refine w_pure want_none (y_move (v := .int _ _) rfl rfl) rfl ?_
        refine w_call want_none Try.call89 rfl rfl rfl rfl (c89 p _ c m pb hp.cons.cons.cons ha.cons.cons.cons hok i hi2 _ _ (by omega) (by omega) (by omega) (by omega) hs33) ?_
        rintro _ w40 ⟨rfl, hs41⟩
        refine w_pure want_none (y_assign (v := .bool _) rfl rfl) rfl ?_
        refine w_nil ?_
        refine q_then (hK37 _ _ ?_)
        refine w_cond rfl rfl (fun h42 => ?_) (fun h42 => ?_)
        ·
          try simp only [Bool.not_eq_true', Bool.not_eq_false', decide_eq_true_eq, decide_eq_false_iff_not, Int.not_lt, Int.not_le] at h42
          refine w_seq (fun K44 hK43 => ?_)
          refine w_region ?_
          refine w_pure want_none (y_fieldAddr (o := 0) (i := 0) Try.underlying89 rfl Try.sizeOf3 rfl rfl rfl) rfl ?_
          refine w_pure want_none (y_load1 Try.isAgg3 hs41 rfl rfl (ats_own (i := 1) (vs := [_]) rfl rfl)) rfl ?_
          refine w_pure want_none (y_fieldAddr (o := 4) (i := 4) Try.underlying60 rfl Try.sizeOf23 rfl rfl rfl) rfl ?_
          refine w_pure want_none (y_fieldAddr (o := 0) (i := 0) Try.underlying23 rfl Try.sizeOf3 rfl rfl rfl) rfl ?_
          refine w_pure want_none (y_load1 Try.isAgg3 hs41 rfl rfl (ats_own (i := 0) (vs := [_]) rfl rfl)) rfl ?_
          refine w_pure want_none (y_add rfl rfl rfl rfl (by omega) (by omega)) rfl ?_
          refine w_pure want_none (y_fieldAddr (o := 0) (i := 0) Try.underlying89 rfl Try.sizeOf3 rfl rfl rfl) rfl ?_
          refine w_store (i := 1) (v := .int _ _) (vs := [_]) want_none Try.sizeOf3 rfl rfl rfl rfl rfl (by simp [Value.oneCell']) hs41 rfl (Nat.le_of_ble_eq_true rfl) (fun w45 hs46 => ?_)
          refine w_nil ?_
          refine q_then (hK43 _ _ ?_)
          refine w_region ?_
          refine w_pure want_none (y_fieldAddr (o := 1) (i := 1) Try.underlying89 rfl Try.sizeOf3 rfl rfl rfl) rfl ?_
          refine w_pure want_none (y_load1 Try.isAgg3 hs46 rfl rfl (ats_own (i := 1) (vs := [_]) rfl rfl)) rfl ?_
          refine w_pure want_none (y_fieldAddr (o := 4) (i := 4) Try.underlying60 rfl Try.sizeOf23 rfl rfl rfl) rfl ?_
          refine w_pure want_none (y_fieldAddr (o := 1) (i := 1) Try.underlying23 rfl Try.sizeOf3 rfl rfl rfl) rfl ?_
          refine w_pure want_none (y_load1 Try.isAgg3 hs46 rfl rfl (ats_own (i := 0) (vs := [_]) rfl rfl)) rfl ?_
          refine w_pure want_none (y_add rfl rfl rfl rfl (by omega) (by omega)) rfl ?_
          refine w_pure want_none (y_fieldAddr (o := 1) (i := 1) Try.underlying89 rfl Try.sizeOf3 rfl rfl rfl) rfl ?_
          refine w_store (i := 1) (v := .int _ _) (vs := [_]) want_none Try.sizeOf3 rfl rfl rfl rfl rfl (by simp [Value.oneCell']) hs46 rfl (Nat.le_of_ble_eq_true rfl) (fun w47 hs48 => ?_)
          refine w_nil ?_
          refine q_blk_normal ?_
          refine q_blk_normal ?_
          refine q_then (hK25 _ _ ?_)
          refine w_region ?_
          refine w_pure want_none (y_add rfl rfl rfl rfl (by omega) (by omega)) rfl ?_
          refine w_pure want_none (y_move (v := .int _ _) rfl rfl) rfl ?_
          refine w_nil ?_
          refine q_then (hN17 _ _ (Nx.intro (p.farms.length - (i + 1)) (by omega) (by repeat (first | exact agree_mix | refine agree_upd rfl ?_ | refine agree_updL rfl ?_ _ | refine agree_mixin rfl ?_)) ?_))
          first
            | exact ⟨i + 1, ⟨x.least + p.farms[i].lo, x.most + p.farms[i].hi, x.vain⟩, (by rw [onUpto_succ day hi2 hi3, ← hxx]; exact (step_fresh (fresh_pos (by assumption)) (by assumption)).symm), rfl, by omega, rfl, hs48.tail⟩
            | exact ⟨i + 1, ⟨x.least, x.most, x.vain + p.farms[i].hi⟩, (by rw [onUpto_succ day hi2 hi3, ← hxx]; exact (step_vain (by assumption) (by assumption)).symm), rfl, by omega, rfl, hs48.tail⟩
            | exact ⟨i + 1, x, (by rw [onUpto_succ day hi2 hi3, ← hxx]; exact (step_never (by assumption)).symm), rfl, by omega, rfl, hs48.tail⟩
        ·
          try simp only [Bool.not_eq_true', Bool.not_eq_false', decide_eq_true_eq, decide_eq_false_iff_not, Int.not_lt, Int.not_le] at h42
          refine w_region ?_
          refine w_pure want_none (y_fieldAddr (o := 2) (i := 2) Try.underlying89 rfl Try.sizeOf3 rfl rfl rfl) rfl ?_
          refine w_pure want_none (y_load1 Try.isAgg3 hs41 rfl rfl (ats_own (i := 1) (vs := [_]) rfl rfl)) rfl ?_
          refine w_pure want_none (y_fieldAddr (o := 4) (i := 4) Try.underlying60 rfl Try.sizeOf23 rfl rfl rfl) rfl ?_
          refine w_pure want_none (y_fieldAddr (o := 1) (i := 1) Try.underlying23 rfl Try.sizeOf3 rfl rfl rfl) rfl ?_
          refine w_pure want_none (y_load1 Try.isAgg3 hs41 rfl rfl (ats_own (i := 0) (vs := [_]) rfl rfl)) rfl ?_
          refine w_pure want_none (y_add rfl rfl rfl rfl (by omega) (by omega)) rfl ?_
          refine w_pure want_none (y_fieldAddr (o := 2) (i := 2) Try.underlying89 rfl Try.sizeOf3 rfl rfl rfl) rfl ?_
          refine w_store (i := 1) (v := .int _ _) (vs := [_]) want_none Try.sizeOf3 rfl rfl rfl rfl rfl (by simp [Value.oneCell']) hs41 rfl (Nat.le_of_ble_eq_true rfl) (fun w49 hs50 => ?_)
          refine w_nil ?_
          refine q_blk_normal ?_
          refine q_blk_normal ?_
          refine q_then (hK25 _ _ ?_)
          refine w_region ?_
          refine w_pure want_none (y_add rfl rfl rfl rfl (by omega) (by omega)) rfl ?_
          refine w_pure want_none (y_move (v := .int _ _) rfl rfl) rfl ?_
          refine w_nil ?_
          refine q_then (hN17 _ _ (Nx.intro (p.farms.length - (i + 1)) (by omega) (by repeat (first | exact agree_mix | refine agree_upd rfl ?_ | refine agree_updL rfl ?_ _ | refine agree_mixin rfl ?_)) ?_))
          first
            | exact ⟨i + 1, ⟨x.least + p.farms[i].lo, x.most + p.farms[i].hi, x.vain⟩, (by rw [onUpto_succ day hi2 hi3, ← hxx]; exact (step_fresh (fresh_pos (by assumption)) (by assumption)).symm), rfl, by omega, rfl, hs50.tail⟩
            | exact ⟨i + 1, ⟨x.least, x.most, x.vain + p.farms[i].hi⟩, (by rw [onUpto_succ day hi2 hi3, ← hxx]; exact (step_vain (by assumption) (by assumption)).symm), rfl, by omega, rfl, hs50.tail⟩
            | exact ⟨i + 1, x, (by rw [onUpto_succ day hi2 hi3, ← hxx]; exact (step_never (by assumption)).symm), rfl, by omega, rfl, hs50.tail⟩
    ·
      try simp only [Bool.not_eq_true', Bool.not_eq_false', decide_eq_true_eq, decide_eq_false_iff_not, Int.not_lt, Int.not_le] at h24
      refine w_exit ?_
      refine q_then_exit ?_
      refine q_then_exit ?_
      refine q_blk_this ?_
      refine q_then (hK13 _ _ ?_)
      refine w_seq (fun K52 hK51 => ?_)
      refine w_region ?_
      refine w_pure want_none (y_loadN (vs := [_, _, _]) Try.isAgg89 Try.sizeOf89 hs rfl rfl (ats_own (i := 0) (vs := [_, _, _]) rfl rfl)) rfl ?_
      refine w_store (i := 0) (v := .agg #[.int _ _, .int _ _, .int _ _]) (vs := [_, _, _]) want_none Try.sizeOf89 rfl rfl rfl rfl rfl (by simp [Value.oneCell']) hs rfl (Nat.le_of_ble_eq_true rfl) (fun w53 hs54 => ?_)
      refine w_nil ?_
      refine q_then (hK51 _ _ ?_)
      refine w_ret ?_
      refine q_ng_ret ?_
      refine q_ret (l := [.cell 6 89]) (vs := [_]) rfl ⟨⟨rfl, _, rfl, run_loadVarN (vs := [_, _, _]) Try.isAgg89 Try.sizeOf89 hs54 (ats_own (i := 0) (vs := [_, _, _]) rfl rfl)⟩, trivial⟩ ?_
      have hfin := onUpto_all (fs := p.farms) (l := l) (i := i) day (by omega)
      exact ⟨by rw [← hfin, ← hxx]; rfl, hs54.tail.tail⟩

end Go.Proofs
