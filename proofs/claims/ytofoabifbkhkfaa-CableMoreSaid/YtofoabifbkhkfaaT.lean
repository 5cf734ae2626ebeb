/- Walks of this seat, printed by gen.py over the engine: what each function returns, in whatever world. No conditions but those of each contract. -/
import Derived.Test.YtofoabifbkhkfaaS
set_option linter.unusedVariables false
set_option linter.unusedSimpArgs false
set_option maxRecDepth 20000
namespace Go.Proofs
open Go.Rt
attribute [local irreducible] WL WC Con Yd At Ats Sl Agree DW
theorem Try_T_fb8 (x0 : Int) (x1 : Int) (w : World) : (Instr.buildSlice 31 1 [(0, .agg #[.int .i64 x0, .int .i64 x1])].toArray).run Try.prog w = .ok (.slice (some ⟨w.heap.size, 0, none⟩) 1 1) (w.alloc (Go.Rt.blk 23 [.int .i64 x0, .int .i64 x1])) := by kernel_rfl
theorem any_take_succ {l : List Int} {f : Int → Bool} {i : Nat} (hi : i < l.length) : (l.take (i + 1)).any f = ((l.take i).any f || f l[i]) := by
  rw [List.take_succ_eq_append_getElem hi, List.any_append]; simp
theorem in_out {lo hi n : Int} : (¬ (lo ≤ n ∧ n ≤ hi)) ↔ out lo hi n = true := by
  rw [← out_iff]; simp
theorem any_stop {l : List Int} {f : Int → Bool} {i : Nat} (h : (l.take i).any f = true) : l.any f = true := by
  rw [List.any_eq_true] at h ⊢
  obtain ⟨x, hx, h⟩ := h
  exact ⟨x, List.mem_of_mem_take hx, h⟩
theorem c55 {w0 w : World} {F : List (Nat × Obj)} (p : Port) (a : Option Addr) (c : Nat) (hl3 : p.farms.length ≤ 9223372036854775807) (hc : p.farms.length ≤ c) (ha : Sl w0 F a 6 (rows p.farms)) (hnm : ∀ f ∈ p.farms, f.name.size ≤ 9223372036854775807) (al : Option Addr) (cl : Nat) (l : List Int) (hll : l.length ≤ 9223372036854775807) (hl : Sl w0 F al 1 (l.map fun x => [Value.int .i64 x])) (hs : St w0 w F) :
  Con Try.prog 55 [.agg (p.cells a c).toArray, .slice al l.length cl] w fun v w' => v = .int .i64 (enterErr p l) ∧ St w0 w' F := by
  refine con_of_wc (n := 42) Try.func55 rfl rfl (Nat.le_of_ble_eq_true rfl) ?_
  refine w_seq (fun K2 hK1 => ?_)
  refine w_region ?_
  refine w_box (v := .agg #[.int _ _, .int _ _, .int _ _, .slice _ _ _]) (cs := [_, _, _, _]) want_none rfl rfl rfl hs (fun b3 w4 hs5 => ?_)
  refine w_pure want_none (y_assign (v := _) rfl rfl) rfl ?_
  refine w_nil ?_
  refine q_then (hK1 _ _ ?_)
  refine w_seq (fun K7 hK6 => ?_)
  refine w_region ?_
  refine w_pure want_none (y_loadN (vs := [_, _, _, _]) Try.isAgg26 Try.sizeOf26 hs5 rfl rfl (ats_own (i := 0) (vs := [_, _, _, _]) rfl rfl)) rfl ?_
  refine w_call want_none Try.call17 rfl rfl rfl rfl (c17 p _ _ (by omega) (by omega) ha.cons hnm hs5) ?_
  rintro _ w9 ⟨rfl, hs10⟩
  refine w_pure want_none (y_move (v := .tuple _) rfl rfl) rfl ?_
  refine w_pure want_none (y_extract (v := .int _ _) rfl rfl rfl) rfl ?_
  refine w_pure want_none (y_extract (v := .int _ _) rfl rfl rfl) rfl ?_
  refine w_pure want_none (y_extract (v := .int _ _) rfl rfl rfl) rfl ?_
  refine w_pure want_none (y_assign (v := .int _ _) rfl rfl) rfl ?_
  refine w_pure want_none (y_assign (v := .int _ _) rfl rfl) rfl ?_
  refine w_pure want_none (y_assign (v := .int _ _) rfl rfl) rfl ?_
  refine w_nil ?_
  refine q_then (hK6 _ _ ?_)
  refine w_seq (fun K12 hK11 => ?_)
  refine w_seq (fun K14 hK13 => ?_)
  refine w_region ?_
  refine w_pure want_none (y_move (v := .int _ _) rfl rfl) rfl ?_
  refine w_pure want_none (y_eql rfl rfl rfl rfl) rfl ?_
  refine w_pure want_none (y_move (v := .bool _) rfl rfl) rfl ?_
  refine w_split (fun h15 => ?_) (fun h15 => ?_)
  ·
    try simp only [Bool.not_eq_true', Bool.not_eq_false', decide_eq_true_eq, decide_eq_false_iff_not, Int.not_lt, Int.not_le] at h15
    refine w_pure (want_yes rfl rfl rfl) (y_move (v := .slice _ _ _) rfl rfl) rfl ?_
    refine w_pure (want_yes rfl rfl rfl) (y_lenS Try.underlying27 rfl rfl) rfl ?_
    refine w_pure (want_yes rfl rfl rfl) (y_fieldAddr (o := 3) (i := 2) Try.underlying26 rfl Try.sizeOf24 rfl rfl rfl) rfl ?_
    refine w_pure (want_yes rfl rfl rfl) (y_load1 Try.isAgg24 hs10 rfl rfl (ats_own (i := 0) (vs := [_]) rfl rfl)) rfl ?_
    refine w_pure (want_yes rfl rfl rfl) (y_lenS Try.underlying24 rfl rfl) rfl ?_
    refine w_pure (want_yes rfl rfl rfl) (y_neq rfl rfl rfl rfl) rfl ?_
    refine w_pure want_none (y_pickT (v := .bool _) rfl rfl rfl rfl) rfl ?_
    refine w_nil ?_
    refine q_then (hK13 _ _ ?_)
    refine w_cond rfl rfl (fun h16 => ?_) (fun h16 => ?_)
    ·
      try simp only [Bool.not_eq_true', Bool.not_eq_false', decide_eq_true_eq, decide_eq_false_iff_not, Int.not_lt, Int.not_le] at h16
      refine w_region ?_
      refine w_pure want_none (y_assign (v := _) rfl rfl) rfl ?_
      refine w_nil ?_
      refine q_then (hK11 _ _ ?_)
      refine w_seq (fun K18 hK17 => ?_)
      refine w_seq (fun K20 hK19 => ?_)
      refine w_region ?_
      refine w_pure want_none (y_assign (v := _) rfl rfl) rfl ?_
      refine w_nil ?_
      refine q_then (hK19 _ _ ?_)
      refine w_block ?_
      refine w_loop [7, 8, 25, 26, 27, 28, 29, 30, 31, 32, 33, 34, 35, 36, 37, 38, 39, 40] [7, 8] (fun k vs w => ∃ (i : Nat) (e : Int), vs = [.int .i64 e, .int .i64 i] ∧ i ≤ l.length ∧ k = l.length - i ∧ ((e ≠ 0 → e = enterErr p l) ∧ (e = 0 → (check p).2.2 = 0 ∧ l.length = p.farms.length ∧ (l.take i).any (out (-1) 10) = false)) ∧ St w0 w ((b3, blk 26 (p.cells a c)) :: F)) (l.length) ?_ ?_
      ·
        first
          | exact ⟨0, _, rfl, by omega, by omega, ⟨fun _ => (enter_e2 (by assumption) (by omega)).symm, fun h => absurd h (by decide)⟩, hs10⟩
          | exact ⟨0, _, rfl, by omega, by omega, ⟨fun h => absurd (by assumption) h, fun _ => ⟨by assumption, by omega, rfl⟩⟩, hs10⟩
          | exact ⟨0, _, rfl, by omega, by omega, ⟨fun h => (enter_e1 h).symm, fun h => absurd h (by assumption)⟩, hs10⟩
      ·
        intro k vs μ w23 hI K22 hN21
        obtain ⟨i, e, rfl, hia, rfl, ⟨he1, he2⟩, hs⟩ := hI
        refine w_seq (fun K25 hK24 => ?_)
        refine w_seq (fun K27 hK26 => ?_)
        refine w_region ?_
        refine w_pure want_none (y_move (v := .int _ _) rfl rfl) rfl ?_
        refine w_pure want_none (y_move (v := .slice _ _ _) rfl rfl) rfl ?_
        refine w_pure want_none (y_lenS Try.underlying27 rfl rfl) rfl ?_
        refine w_pure want_none (y_lss rfl rfl rfl rfl) rfl ?_
        refine w_pure want_none (y_move (v := .bool _) rfl rfl) rfl ?_
        refine w_split (fun h28 => ?_) (fun h28 => ?_)
        ·
          try simp only [Bool.not_eq_true', Bool.not_eq_false', decide_eq_true_eq, decide_eq_false_iff_not, Int.not_lt, Int.not_le] at h28
          refine w_pure (want_yes rfl rfl rfl) (y_move (v := .int _ _) rfl rfl) rfl ?_
          refine w_pure (want_yes rfl rfl rfl) (y_eql rfl rfl rfl rfl) rfl ?_
          refine w_pure want_none (y_pickT (v := .bool _) rfl rfl rfl rfl) rfl ?_
          refine w_nil ?_
          refine q_then (hK26 _ _ ?_)
          refine w_cond rfl rfl (fun h29 => ?_) (fun h29 => ?_)
          ·
            try simp only [Bool.not_eq_true', Bool.not_eq_false', decide_eq_true_eq, decide_eq_false_iff_not, Int.not_lt, Int.not_le] at h29
            refine w_skip ?_
            refine q_then (hK24 _ _ ?_)
            refine w_seq (fun K31 hK30 => ?_)
            refine w_block ?_
            refine w_seq (fun K33 hK32 => ?_)
            have hi2 : i < l.length := by omega
            obtain ⟨bl, ol, rfl, hxl⟩ := sl_ints hl hi2
            refine w_region ?_
            refine w_pure want_none (y_move (v := .slice _ _ _) rfl rfl) rfl ?_
            refine w_pure want_none (y_move (v := .int _ _) rfl rfl) rfl ?_
            refine w_pure want_none (y_indexS Try.underlying27 Try.sizeOf3 rfl rfl rfl rfl (i := _) rfl (by omega)) rfl ?_
            refine w_pure want_none (y_load1 Try.isAgg3 hs.tail rfl rfl hxl) rfl ?_
            refine w_call want_none Try.call45 rfl rfl rfl rfl (c45 _ _ _ hs) ?_
            rintro _ w35 ⟨rfl, hs36⟩
            refine w_pure want_none (y_not rfl rfl) rfl ?_
            refine w_nil ?_
            refine q_then (hK32 _ _ ?_)
            refine w_cond rfl rfl (fun h37 => ?_) (fun h37 => ?_)
            ·
              try simp only [Bool.not_eq_true', Bool.not_eq_false', decide_eq_true_eq, decide_eq_false_iff_not, Int.not_lt, Int.not_le] at h37
              refine w_region ?_
              refine w_pure want_none (y_assign (v := _) rfl rfl) rfl ?_
              refine w_nil ?_
              refine q_blk_normal ?_
              refine q_then (hK30 _ _ ?_)
              refine w_region ?_
              refine w_pure want_none (y_move (v := .int _ _) rfl rfl) rfl ?_
              refine w_pure want_none (y_add rfl rfl rfl rfl (by omega) (by omega)) rfl ?_
              refine w_pure want_none (y_assign (v := .int _ _) rfl rfl) rfl ?_
              refine w_nil ?_
              refine q_then (hN21 _ _ (Nx.intro (l.length - (i + 1)) (by omega) (by repeat (first | exact agree_mix | refine agree_upd rfl ?_ | refine agree_updL rfl ?_ _ | refine agree_mixin rfl ?_)) ?_))
              first
                | exact ⟨i + 1, _, rfl, by omega, rfl, ⟨fun _ => (enter_e3 (he2 (by assumption)).1 (he2 (by assumption)).2.1 (any_stop (i := i + 1) (by rw [any_take_succ hi2, in_out.1 (by assumption)]; simp))).symm, fun h => absurd h (by decide)⟩, hs36⟩
                | exact ⟨i + 1, _, rfl, by omega, rfl, ⟨he1, fun h => ⟨(he2 h).1, (he2 h).2.1, by rw [any_take_succ hi2, (he2 h).2.2, (out_iff _ _ _).2 (by assumption)]; rfl⟩⟩, hs36⟩
            ·
              try simp only [Bool.not_eq_true', Bool.not_eq_false', decide_eq_true_eq, decide_eq_false_iff_not, Int.not_lt, Int.not_le] at h37
              refine w_skip ?_
              refine q_blk_normal ?_
              refine q_then (hK30 _ _ ?_)
              refine w_region ?_
              refine w_pure want_none (y_move (v := .int _ _) rfl rfl) rfl ?_
              refine w_pure want_none (y_add rfl rfl rfl rfl (by omega) (by omega)) rfl ?_
              refine w_pure want_none (y_assign (v := .int _ _) rfl rfl) rfl ?_
              refine w_nil ?_
              refine q_then (hN21 _ _ (Nx.intro (l.length - (i + 1)) (by omega) (by repeat (first | exact agree_mix | refine agree_upd rfl ?_ | refine agree_updL rfl ?_ _ | refine agree_mixin rfl ?_)) ?_))
              first
                | exact ⟨i + 1, _, rfl, by omega, rfl, ⟨fun _ => (enter_e3 (he2 (by assumption)).1 (he2 (by assumption)).2.1 (any_stop (i := i + 1) (by rw [any_take_succ hi2, in_out.1 (by assumption)]; simp))).symm, fun h => absurd h (by decide)⟩, hs36⟩
                | exact ⟨i + 1, _, rfl, by omega, rfl, ⟨he1, fun h => ⟨(he2 h).1, (he2 h).2.1, by rw [any_take_succ hi2, (he2 h).2.2, (out_iff _ _ _).2 (by assumption)]; rfl⟩⟩, hs36⟩
          ·
            try simp only [Bool.not_eq_true', Bool.not_eq_false', decide_eq_true_eq, decide_eq_false_iff_not, Int.not_lt, Int.not_le] at h29
            refine w_exit ?_
            refine q_then_exit ?_
            refine q_then_exit ?_
            refine q_blk_this ?_
            refine q_then (hK17 _ _ ?_)
            refine w_seq (fun K39 hK38 => ?_)
            refine w_region ?_
            refine w_pure want_none (y_move (v := .int _ _) rfl rfl) rfl ?_
            refine w_pure want_none (y_assign (v := .int _ _) rfl rfl) rfl ?_
            refine w_nil ?_
            refine q_then (hK38 _ _ ?_)
            refine w_ret ?_
            refine q_ret (l := [.tmp 4]) (vs := [_]) rfl ⟨⟨rfl, show _ = (.int _ _ : Value) from rfl⟩, trivial⟩ ?_
            refine ⟨congrArg (Value.int .i64) ?_, hs.tail⟩
            by_cases he : e = 0
            · rw [he, enter_e0 (he2 he).1 (he2 he).2.1 (by have := (he2 he).2.2; rwa [List.take_of_length_le (by omega)] at this)]
            · exact he1 he
        ·
          try simp only [Bool.not_eq_true', Bool.not_eq_false', decide_eq_true_eq, decide_eq_false_iff_not, Int.not_lt, Int.not_le] at h28
          refine w_skipop rfl rfl rfl ?_
          refine w_skipop rfl rfl rfl ?_
          refine w_pure want_none (y_pickF (v := _) rfl rfl rfl rfl) rfl ?_
          refine w_nil ?_
          refine q_then (hK26 _ _ ?_)
          refine w_condF rfl rfl ?_
          refine w_exit ?_
          refine q_then_exit ?_
          refine q_then_exit ?_
          refine q_blk_this ?_
          refine q_then (hK17 _ _ ?_)
          refine w_seq (fun K41 hK40 => ?_)
          refine w_region ?_
          refine w_pure want_none (y_move (v := .int _ _) rfl rfl) rfl ?_
          refine w_pure want_none (y_assign (v := .int _ _) rfl rfl) rfl ?_
          refine w_nil ?_
          refine q_then (hK40 _ _ ?_)
          refine w_ret ?_
          refine q_ret (l := [.tmp 4]) (vs := [_]) rfl ⟨⟨rfl, show _ = (.int _ _ : Value) from rfl⟩, trivial⟩ ?_
          refine ⟨congrArg (Value.int .i64) ?_, hs.tail⟩
          by_cases he : e = 0
          · rw [he, enter_e0 (he2 he).1 (he2 he).2.1 (by have := (he2 he).2.2; rwa [List.take_of_length_le (by omega)] at this)]
          · exact he1 he
    ·
      try simp only [Bool.not_eq_true', Bool.not_eq_false', decide_eq_true_eq, decide_eq_false_iff_not, Int.not_lt, Int.not_le] at h16
      refine w_skip ?_
      refine q_then (hK11 _ _ ?_)
      refine w_seq (fun K43 hK42 => ?_)
      refine w_seq (fun K45 hK44 => ?_)
      refine w_region ?_
      refine w_pure want_none (y_assign (v := _) rfl rfl) rfl ?_
      refine w_nil ?_
      refine q_then (hK44 _ _ ?_)
      refine w_block ?_
      refine w_loop [7, 8, 25, 26, 27, 28, 29, 30, 31, 32, 33, 34, 35, 36, 37, 38, 39, 40] [7, 8] (fun k vs w => ∃ (i : Nat) (e : Int), vs = [.int .i64 e, .int .i64 i] ∧ i ≤ l.length ∧ k = l.length - i ∧ ((e ≠ 0 → e = enterErr p l) ∧ (e = 0 → (check p).2.2 = 0 ∧ l.length = p.farms.length ∧ (l.take i).any (out (-1) 10) = false)) ∧ St w0 w ((b3, blk 26 (p.cells a c)) :: F)) (l.length) ?_ ?_
      ·
        first
          | exact ⟨0, _, rfl, by omega, by omega, ⟨fun _ => (enter_e2 (by assumption) (by omega)).symm, fun h => absurd h (by decide)⟩, hs10⟩
          | exact ⟨0, _, rfl, by omega, by omega, ⟨fun h => absurd (by assumption) h, fun _ => ⟨by assumption, by omega, rfl⟩⟩, hs10⟩
          | exact ⟨0, _, rfl, by omega, by omega, ⟨fun h => (enter_e1 h).symm, fun h => absurd h (by assumption)⟩, hs10⟩
      ·
        intro k vs μ w48 hI K47 hN46
        obtain ⟨i, e, rfl, hia, rfl, ⟨he1, he2⟩, hs⟩ := hI
        refine w_seq (fun K50 hK49 => ?_)
        refine w_seq (fun K52 hK51 => ?_)
        refine w_region ?_
        refine w_pure want_none (y_move (v := .int _ _) rfl rfl) rfl ?_
        refine w_pure want_none (y_move (v := .slice _ _ _) rfl rfl) rfl ?_
        refine w_pure want_none (y_lenS Try.underlying27 rfl rfl) rfl ?_
        refine w_pure want_none (y_lss rfl rfl rfl rfl) rfl ?_
        refine w_pure want_none (y_move (v := .bool _) rfl rfl) rfl ?_
        refine w_split (fun h53 => ?_) (fun h53 => ?_)
        ·
          try simp only [Bool.not_eq_true', Bool.not_eq_false', decide_eq_true_eq, decide_eq_false_iff_not, Int.not_lt, Int.not_le] at h53
          refine w_pure (want_yes rfl rfl rfl) (y_move (v := .int _ _) rfl rfl) rfl ?_
          refine w_pure (want_yes rfl rfl rfl) (y_eql rfl rfl rfl rfl) rfl ?_
          refine w_pure want_none (y_pickT (v := .bool _) rfl rfl rfl rfl) rfl ?_
          refine w_nil ?_
          refine q_then (hK51 _ _ ?_)
          refine w_cond rfl rfl (fun h54 => ?_) (fun h54 => ?_)
          ·
            try simp only [Bool.not_eq_true', Bool.not_eq_false', decide_eq_true_eq, decide_eq_false_iff_not, Int.not_lt, Int.not_le] at h54
            refine w_skip ?_
            refine q_then (hK49 _ _ ?_)
            refine w_seq (fun K56 hK55 => ?_)
            refine w_block ?_
            refine w_seq (fun K58 hK57 => ?_)
            have hi2 : i < l.length := by omega
            obtain ⟨bl, ol, rfl, hxl⟩ := sl_ints hl hi2
            refine w_region ?_
            refine w_pure want_none (y_move (v := .slice _ _ _) rfl rfl) rfl ?_
            refine w_pure want_none (y_move (v := .int _ _) rfl rfl) rfl ?_
            refine w_pure want_none (y_indexS Try.underlying27 Try.sizeOf3 rfl rfl rfl rfl (i := _) rfl (by omega)) rfl ?_
            refine w_pure want_none (y_load1 Try.isAgg3 hs.tail rfl rfl hxl) rfl ?_
            refine w_call want_none Try.call45 rfl rfl rfl rfl (c45 _ _ _ hs) ?_
            rintro _ w60 ⟨rfl, hs61⟩
            refine w_pure want_none (y_not rfl rfl) rfl ?_
            refine w_nil ?_
            refine q_then (hK57 _ _ ?_)
            refine w_cond rfl rfl (fun h62 => ?_) (fun h62 => ?_)
            ·
              try simp only [Bool.not_eq_true', Bool.not_eq_false', decide_eq_true_eq, decide_eq_false_iff_not, Int.not_lt, Int.not_le] at h62
              refine w_region ?_
              refine w_pure want_none (y_assign (v := _) rfl rfl) rfl ?_
              refine w_nil ?_
              refine q_blk_normal ?_
              refine q_then (hK55 _ _ ?_)
              refine w_region ?_
              refine w_pure want_none (y_move (v := .int _ _) rfl rfl) rfl ?_
              refine w_pure want_none (y_add rfl rfl rfl rfl (by omega) (by omega)) rfl ?_
              refine w_pure want_none (y_assign (v := .int _ _) rfl rfl) rfl ?_
              refine w_nil ?_
              refine q_then (hN46 _ _ (Nx.intro (l.length - (i + 1)) (by omega) (by repeat (first | exact agree_mix | refine agree_upd rfl ?_ | refine agree_updL rfl ?_ _ | refine agree_mixin rfl ?_)) ?_))
              first
                | exact ⟨i + 1, _, rfl, by omega, rfl, ⟨fun _ => (enter_e3 (he2 (by assumption)).1 (he2 (by assumption)).2.1 (any_stop (i := i + 1) (by rw [any_take_succ hi2, in_out.1 (by assumption)]; simp))).symm, fun h => absurd h (by decide)⟩, hs61⟩
                | exact ⟨i + 1, _, rfl, by omega, rfl, ⟨he1, fun h => ⟨(he2 h).1, (he2 h).2.1, by rw [any_take_succ hi2, (he2 h).2.2, (out_iff _ _ _).2 (by assumption)]; rfl⟩⟩, hs61⟩
            ·
              try simp only [Bool.not_eq_true', Bool.not_eq_false', decide_eq_true_eq, decide_eq_false_iff_not, Int.not_lt, Int.not_le] at h62
              refine w_skip ?_
              refine q_blk_normal ?_
              refine q_then (hK55 _ _ ?_)
              refine w_region ?_
              refine w_pure want_none (y_move (v := .int _ _) rfl rfl) rfl ?_
              refine w_pure want_none (y_add rfl rfl rfl rfl (by omega) (by omega)) rfl ?_
              refine w_pure want_none (y_assign (v := .int _ _) rfl rfl) rfl ?_
              refine w_nil ?_
              refine q_then (hN46 _ _ (Nx.intro (l.length - (i + 1)) (by omega) (by repeat (first | exact agree_mix | refine agree_upd rfl ?_ | refine agree_updL rfl ?_ _ | refine agree_mixin rfl ?_)) ?_))
              first
                | exact ⟨i + 1, _, rfl, by omega, rfl, ⟨fun _ => (enter_e3 (he2 (by assumption)).1 (he2 (by assumption)).2.1 (any_stop (i := i + 1) (by rw [any_take_succ hi2, in_out.1 (by assumption)]; simp))).symm, fun h => absurd h (by decide)⟩, hs61⟩
                | exact ⟨i + 1, _, rfl, by omega, rfl, ⟨he1, fun h => ⟨(he2 h).1, (he2 h).2.1, by rw [any_take_succ hi2, (he2 h).2.2, (out_iff _ _ _).2 (by assumption)]; rfl⟩⟩, hs61⟩
          ·
            try simp only [Bool.not_eq_true', Bool.not_eq_false', decide_eq_true_eq, decide_eq_false_iff_not, Int.not_lt, Int.not_le] at h54
            refine w_exit ?_
            refine q_then_exit ?_
            refine q_then_exit ?_
            refine q_blk_this ?_
            refine q_then (hK42 _ _ ?_)
            refine w_seq (fun K64 hK63 => ?_)
            refine w_region ?_
            refine w_pure want_none (y_move (v := .int _ _) rfl rfl) rfl ?_
            refine w_pure want_none (y_assign (v := .int _ _) rfl rfl) rfl ?_
            refine w_nil ?_
            refine q_then (hK63 _ _ ?_)
            refine w_ret ?_
            refine q_ret (l := [.tmp 4]) (vs := [_]) rfl ⟨⟨rfl, show _ = (.int _ _ : Value) from rfl⟩, trivial⟩ ?_
            refine ⟨congrArg (Value.int .i64) ?_, hs.tail⟩
            by_cases he : e = 0
            · rw [he, enter_e0 (he2 he).1 (he2 he).2.1 (by have := (he2 he).2.2; rwa [List.take_of_length_le (by omega)] at this)]
            · exact he1 he
        ·
          try simp only [Bool.not_eq_true', Bool.not_eq_false', decide_eq_true_eq, decide_eq_false_iff_not, Int.not_lt, Int.not_le] at h53
          refine w_skipop rfl rfl rfl ?_
          refine w_skipop rfl rfl rfl ?_
          refine w_pure want_none (y_pickF (v := _) rfl rfl rfl rfl) rfl ?_
          refine w_nil ?_
          refine q_then (hK51 _ _ ?_)
          refine w_condF rfl rfl ?_
          refine w_exit ?_
          refine q_then_exit ?_
          refine q_then_exit ?_
          refine q_blk_this ?_
          refine q_then (hK42 _ _ ?_)
          refine w_seq (fun K66 hK65 => ?_)
          refine w_region ?_
          refine w_pure want_none (y_move (v := .int _ _) rfl rfl) rfl ?_
          refine w_pure want_none (y_assign (v := .int _ _) rfl rfl) rfl ?_
          refine w_nil ?_
          refine q_then (hK65 _ _ ?_)
          refine w_ret ?_
          refine q_ret (l := [.tmp 4]) (vs := [_]) rfl ⟨⟨rfl, show _ = (.int _ _ : Value) from rfl⟩, trivial⟩ ?_
          refine ⟨congrArg (Value.int .i64) ?_, hs.tail⟩
          by_cases he : e = 0
          · rw [he, enter_e0 (he2 he).1 (he2 he).2.1 (by have := (he2 he).2.2; rwa [List.take_of_length_le (by omega)] at this)]
          · exact he1 he
  ·
    try simp only [Bool.not_eq_true', Bool.not_eq_false', decide_eq_true_eq, decide_eq_false_iff_not, Int.not_lt, Int.not_le] at h15
    refine w_skipop rfl rfl rfl ?_
    refine w_skipop rfl rfl rfl ?_
    refine w_skipop rfl rfl rfl ?_
    refine w_skipop rfl rfl rfl ?_
    refine w_skipop rfl rfl rfl ?_
    refine w_skipop rfl rfl rfl ?_
    refine w_pure want_none (y_pickF (v := _) rfl rfl rfl rfl) rfl ?_
    refine w_nil ?_
    refine q_then (hK13 _ _ ?_)
    refine w_condF rfl rfl ?_
    refine w_skip ?_
    refine q_then (hK11 _ _ ?_)
    refine w_seq (fun K68 hK67 => ?_)
    refine w_seq (fun K70 hK69 => ?_)
    refine w_region ?_
    refine w_pure want_none (y_assign (v := _) rfl rfl) rfl ?_
    refine w_nil ?_
    refine q_then (hK69 _ _ ?_)
    refine w_block ?_
    refine w_loop [7, 8, 25, 26, 27, 28, 29, 30, 31, 32, 33, 34, 35, 36, 37, 38, 39, 40] [7, 8] (fun k vs w => ∃ (i : Nat) (e : Int), vs = [.int .i64 e, .int .i64 i] ∧ i ≤ l.length ∧ k = l.length - i ∧ ((e ≠ 0 → e = enterErr p l) ∧ (e = 0 → (check p).2.2 = 0 ∧ l.length = p.farms.length ∧ (l.take i).any (out (-1) 10) = false)) ∧ St w0 w ((b3, blk 26 (p.cells a c)) :: F)) (l.length) ?_ ?_
    ·
      first
        | exact ⟨0, _, rfl, by omega, by omega, ⟨fun _ => (enter_e2 (by assumption) (by omega)).symm, fun h => absurd h (by decide)⟩, hs10⟩
        | exact ⟨0, _, rfl, by omega, by omega, ⟨fun h => absurd (by assumption) h, fun _ => ⟨by assumption, by omega, rfl⟩⟩, hs10⟩
        | exact ⟨0, _, rfl, by omega, by omega, ⟨fun h => (enter_e1 h).symm, fun h => absurd h (by assumption)⟩, hs10⟩
    ·
      intro k vs μ w73 hI K72 hN71
      obtain ⟨i, e, rfl, hia, rfl, ⟨he1, he2⟩, hs⟩ := hI
      refine w_seq (fun K75 hK74 => ?_)
      refine w_seq (fun K77 hK76 => ?_)
      refine w_region ?_
      refine w_pure want_none (y_move (v := .int _ _) rfl rfl) rfl ?_
      refine w_pure want_none (y_move (v := .slice _ _ _) rfl rfl) rfl ?_
      refine w_pure want_none (y_lenS Try.underlying27 rfl rfl) rfl ?_
      refine w_pure want_none (y_lss rfl rfl rfl rfl) rfl ?_
      refine w_pure want_none (y_move (v := .bool _) rfl rfl) rfl ?_
      refine w_split (fun h78 => ?_) (fun h78 => ?_)
      ·
        try simp only [Bool.not_eq_true', Bool.not_eq_false', decide_eq_true_eq, decide_eq_false_iff_not, Int.not_lt, Int.not_le] at h78
        refine w_pure (want_yes rfl rfl rfl) (y_move (v := .int _ _) rfl rfl) rfl ?_
        refine w_pure (want_yes rfl rfl rfl) (y_eql rfl rfl rfl rfl) rfl ?_
        refine w_pure want_none (y_pickT (v := .bool _) rfl rfl rfl rfl) rfl ?_
        refine w_nil ?_
        refine q_then (hK76 _ _ ?_)
        refine w_cond rfl rfl (fun h79 => ?_) (fun h79 => ?_)
        ·
          try simp only [Bool.not_eq_true', Bool.not_eq_false', decide_eq_true_eq, decide_eq_false_iff_not, Int.not_lt, Int.not_le] at h79
          refine w_skip ?_
          refine q_then (hK74 _ _ ?_)
          refine w_seq (fun K81 hK80 => ?_)
          refine w_block ?_
          refine w_seq (fun K83 hK82 => ?_)
          have hi2 : i < l.length := by omega
          obtain ⟨bl, ol, rfl, hxl⟩ := sl_ints hl hi2
          refine w_region ?_
          refine w_pure want_none (y_move (v := .slice _ _ _) rfl rfl) rfl ?_
          refine w_pure want_none (y_move (v := .int _ _) rfl rfl) rfl ?_
          refine w_pure want_none (y_indexS Try.underlying27 Try.sizeOf3 rfl rfl rfl rfl (i := _) rfl (by omega)) rfl ?_
          refine w_pure want_none (y_load1 Try.isAgg3 hs.tail rfl rfl hxl) rfl ?_
          refine w_call want_none Try.call45 rfl rfl rfl rfl (c45 _ _ _ hs) ?_
          rintro _ w85 ⟨rfl, hs86⟩
          refine w_pure want_none (y_not rfl rfl) rfl ?_
          refine w_nil ?_
          refine q_then (hK82 _ _ ?_)
          refine w_cond rfl rfl (fun h87 => ?_) (fun h87 => ?_)
          ·
            try simp only [Bool.not_eq_true', Bool.not_eq_false', decide_eq_true_eq, decide_eq_false_iff_not, Int.not_lt, Int.not_le] at h87
            refine w_region ?_
            refine w_pure want_none (y_assign (v := _) rfl rfl) rfl ?_
            refine w_nil ?_
            refine q_blk_normal ?_
            refine q_then (hK80 _ _ ?_)
            refine w_region ?_
            refine w_pure want_none (y_move (v := .int _ _) rfl rfl) rfl ?_
            refine w_pure want_none (y_add rfl rfl rfl rfl (by omega) (by omega)) rfl ?_
            refine w_pure want_none (y_assign (v := .int _ _) rfl rfl) rfl ?_
            refine w_nil ?_
            refine q_then (hN71 _ _ (Nx.intro (l.length - (i + 1)) (by omega) (by repeat (first | exact agree_mix | refine agree_upd rfl ?_ | refine agree_updL rfl ?_ _ | refine agree_mixin rfl ?_)) ?_))
            first
              | exact ⟨i + 1, _, rfl, by omega, rfl, ⟨fun _ => (enter_e3 (he2 (by assumption)).1 (he2 (by assumption)).2.1 (any_stop (i := i + 1) (by rw [any_take_succ hi2, in_out.1 (by assumption)]; simp))).symm, fun h => absurd h (by decide)⟩, hs86⟩
              | exact ⟨i + 1, _, rfl, by omega, rfl, ⟨he1, fun h => ⟨(he2 h).1, (he2 h).2.1, by rw [any_take_succ hi2, (he2 h).2.2, (out_iff _ _ _).2 (by assumption)]; rfl⟩⟩, hs86⟩
          ·
            try simp only [Bool.not_eq_true', Bool.not_eq_false', decide_eq_true_eq, decide_eq_false_iff_not, Int.not_lt, Int.not_le] at h87
            refine w_skip ?_
            refine q_blk_normal ?_
            refine q_then (hK80 _ _ ?_)
            refine w_region ?_
            refine w_pure want_none (y_move (v := .int _ _) rfl rfl) rfl ?_
            refine w_pure want_none (y_add rfl rfl rfl rfl (by omega) (by omega)) rfl ?_
            refine w_pure want_none (y_assign (v := .int _ _) rfl rfl) rfl ?_
            refine w_nil ?_
            refine q_then (hN71 _ _ (Nx.intro (l.length - (i + 1)) (by omega) (by repeat (first | exact agree_mix | refine agree_upd rfl ?_ | refine agree_updL rfl ?_ _ | refine agree_mixin rfl ?_)) ?_))
            first
              | exact ⟨i + 1, _, rfl, by omega, rfl, ⟨fun _ => (enter_e3 (he2 (by assumption)).1 (he2 (by assumption)).2.1 (any_stop (i := i + 1) (by rw [any_take_succ hi2, in_out.1 (by assumption)]; simp))).symm, fun h => absurd h (by decide)⟩, hs86⟩
              | exact ⟨i + 1, _, rfl, by omega, rfl, ⟨he1, fun h => ⟨(he2 h).1, (he2 h).2.1, by rw [any_take_succ hi2, (he2 h).2.2, (out_iff _ _ _).2 (by assumption)]; rfl⟩⟩, hs86⟩
        ·
          try simp only [Bool.not_eq_true', Bool.not_eq_false', decide_eq_true_eq, decide_eq_false_iff_not, Int.not_lt, Int.not_le] at h79
          refine w_exit ?_
          refine q_then_exit ?_
          refine q_then_exit ?_
          refine q_blk_this ?_
          refine q_then (hK67 _ _ ?_)
          refine w_seq (fun K89 hK88 => ?_)
          refine w_region ?_
          refine w_pure want_none (y_move (v := .int _ _) rfl rfl) rfl ?_
          refine w_pure want_none (y_assign (v := .int _ _) rfl rfl) rfl ?_
          refine w_nil ?_
          refine q_then (hK88 _ _ ?_)
          refine w_ret ?_
          refine q_ret (l := [.tmp 4]) (vs := [_]) rfl ⟨⟨rfl, show _ = (.int _ _ : Value) from rfl⟩, trivial⟩ ?_
          refine ⟨congrArg (Value.int .i64) ?_, hs.tail⟩
          by_cases he : e = 0
          · rw [he, enter_e0 (he2 he).1 (he2 he).2.1 (by have := (he2 he).2.2; rwa [List.take_of_length_le (by omega)] at this)]
          · exact he1 he
      ·
        try simp only [Bool.not_eq_true', Bool.not_eq_false', decide_eq_true_eq, decide_eq_false_iff_not, Int.not_lt, Int.not_le] at h78
        refine w_skipop rfl rfl rfl ?_
        refine w_skipop rfl rfl rfl ?_
        refine w_pure want_none (y_pickF (v := _) rfl rfl rfl rfl) rfl ?_
        refine w_nil ?_
        refine q_then (hK76 _ _ ?_)
        refine w_condF rfl rfl ?_
        refine w_exit ?_
        refine q_then_exit ?_
        refine q_then_exit ?_
        refine q_blk_this ?_
        refine q_then (hK67 _ _ ?_)
        refine w_seq (fun K91 hK90 => ?_)
        refine w_region ?_
        refine w_pure want_none (y_move (v := .int _ _) rfl rfl) rfl ?_
        refine w_pure want_none (y_assign (v := .int _ _) rfl rfl) rfl ?_
        refine w_nil ?_
        refine q_then (hK90 _ _ ?_)
        refine w_ret ?_
        refine q_ret (l := [.tmp 4]) (vs := [_]) rfl ⟨⟨rfl, show _ = (.int _ _ : Value) from rfl⟩, trivial⟩ ?_
        refine ⟨congrArg (Value.int .i64) ?_, hs.tail⟩
        by_cases he : e = 0
        · rw [he, enter_e0 (he2 he).1 (he2 he).2.1 (by have := (he2 he).2.2; rwa [List.take_of_length_le (by omega)] at this)]
        · exact he1 he

theorem c42 {w0 w : World} {F : List (Nat × Obj)} (p : Port) (a : Option Addr) (c : Nat) (ha : Sl w0 F a 6 (rows p.farms)) (hok : p.Ok) (al : Option Addr) (cl : Nat) (l : List Int) (hlen : l.length = p.farms.length) (hl : Sl w0 F al 1 (l.map fun x => [Value.int .i64 x])) (hl1 : ∀ x ∈ l, -1 ≤ x ∧ x ≤ 10) (hs : St w0 w F) :
  Con Try.prog 42 [.agg (p.cells a c).toArray, .slice al l.length cl] w fun v w' => v = .int .i64 (does p l) ∧ St w0 w' F := by
  refine con_of_wc (n := 47) Try.func42 rfl rfl (Nat.le_of_ble_eq_true rfl) ?_
  have hcome := hok.come
  refine w_seq (fun K2 hK1 => ?_)
  refine w_region ?_
  refine w_box (v := .agg #[.int _ _, .int _ _, .int _ _, .slice _ _ _]) (cs := [_, _, _, _]) want_none rfl rfl rfl hs (fun b3 w4 hs5 => ?_)
  refine w_pure want_none (y_assign (v := _) rfl rfl) rfl ?_
  refine w_nil ?_
  refine q_then (hK1 _ _ ?_)
  refine w_seq (fun K7 hK6 => ?_)
  refine w_region ?_
  refine w_pure want_none (y_assign (v := _) rfl rfl) rfl ?_
  refine w_pure want_none (y_assign (v := _) rfl rfl) rfl ?_
  refine w_nil ?_
  refine q_then (hK6 _ _ ?_)
  refine w_seq (fun K9 hK8 => ?_)
  refine w_seq (fun K11 hK10 => ?_)
  refine w_region ?_
  refine w_pure want_none (y_fieldAddr (o := 1) (i := 1) Try.underlying26 rfl Try.sizeOf23 rfl rfl rfl) rfl ?_
  refine w_pure want_none (y_fieldAddr (o := 0) (i := 0) Try.underlying23 rfl Try.sizeOf3 rfl rfl rfl) rfl ?_
  refine w_pure want_none (y_load1 Try.isAgg3 hs5 rfl rfl (ats_own (i := 0) (vs := [_]) rfl rfl)) rfl ?_
  refine w_pure want_none (y_assign (v := .int _ _) rfl rfl) rfl ?_
  refine w_nil ?_
  refine q_then (hK10 _ _ ?_)
  refine w_block ?_
  refine w_loop [5, 6, 7, 8, 9, 13, 14, 15, 16, 17, 18, 19, 20, 21, 22, 23, 24, 25, 26, 27, 28, 29, 30, 31, 32, 33, 34, 35, 36, 37, 38, 39, 40, 41, 42] [5, 6, 7] (fun k vs w => ∃ (q : Nat) (s1 s2 : Bool), vs = [.bool s1, .bool s2, .int .i64 (p.clo + q)] ∧ s1 = fullUpto p l q ∧ s2 = neverUpto p l q ∧ (q : Int) ≤ p.chi - p.clo + 1 ∧ k = (p.chi - p.clo + 1 - q).toNat ∧ St w0 w ((b3, blk 26 (p.cells a c)) :: F)) ((p.chi - p.clo + 1).toNat) ?_ ?_
  ·
    exact ⟨0, true, true, bbi rfl rfl (by omega), by simp [fullUpto], by simp [neverUpto], by omega, by simp, hs5⟩
  ·
    intro k vs μ w14 hI K13 hN12
    obtain ⟨q, s1, s2, rfl, hs1, hs2, hq, rfl, hs⟩ := hI
    refine w_seq (fun K16 hK15 => ?_)
    refine w_seq (fun K18 hK17 => ?_)
    refine w_region ?_
    refine w_pure want_none (y_move (v := .int _ _) rfl rfl) rfl ?_
    refine w_pure want_none (y_fieldAddr (o := 1) (i := 1) Try.underlying26 rfl Try.sizeOf23 rfl rfl rfl) rfl ?_
    refine w_pure want_none (y_fieldAddr (o := 1) (i := 1) Try.underlying23 rfl Try.sizeOf3 rfl rfl rfl) rfl ?_
    refine w_pure want_none (y_load1 Try.isAgg3 hs rfl rfl (ats_own (i := 0) (vs := [_]) rfl rfl)) rfl ?_
    refine w_pure want_none (y_leq rfl rfl rfl rfl) rfl ?_
    refine w_nil ?_
    refine q_then (hK17 _ _ ?_)
    refine w_cond rfl rfl (fun h19 => ?_) (fun h19 => ?_)
    ·
      try simp only [Bool.not_eq_true', Bool.not_eq_false', decide_eq_true_eq, decide_eq_false_iff_not, Int.not_lt, Int.not_le] at h19
      refine w_skip ?_
      refine q_then (hK15 _ _ ?_)
      refine w_seq (fun K21 hK20 => ?_)
      refine w_block ?_
      refine w_seq (fun K23 hK22 => ?_)
      refine w_region ?_
      refine w_pure want_none (y_loadN (vs := [_, _, _, _]) Try.isAgg26 Try.sizeOf26 hs rfl rfl (ats_own (i := 0) (vs := [_, _, _, _]) rfl rfl)) rfl ?_
      refine w_pure want_none (y_move (v := .slice _ _ _) rfl rfl) rfl ?_
      refine w_pure want_none (y_move (v := .int _ _) rfl rfl) rfl ?_
      refine w_call want_none Try.call56 rfl rfl rfl rfl (c56 p _ _ ha.cons hok _ _ l hlen hl.cons hl1 _ (by omega) (by omega) hs) ?_
      rintro _ w25 ⟨rfl, hs26⟩
      refine w_pure want_none (y_move (v := .tuple _) rfl rfl) rfl ?_
      refine w_pure want_none (y_extract (v := .agg _) rfl rfl rfl) rfl ?_
      refine w_pure want_none (y_extract (v := .int _ _) rfl rfl rfl) rfl ?_
      refine w_alloc (cs := [_, _]) want_none Try.zeroValue23 rfl hs26 (fun b27 w28 hs29 => ?_)
      refine w_store (i := 0) (v := .agg #[.int _ _, .int _ _]) (vs := [_, _]) want_none Try.sizeOf23 rfl rfl rfl rfl rfl (by simp [Value.oneCell']) hs29 rfl (Nat.le_of_ble_eq_true rfl) (fun w30 hs31 => ?_)
      refine w_pure want_none (y_assign (v := .int _ _) rfl rfl) rfl ?_
      refine w_nil ?_
      refine q_then (hK22 _ _ ?_)
      refine w_seq (fun K33 hK32 => ?_)
      refine w_region ?_
      refine w_pure want_none (y_move (v := .bool _) rfl rfl) rfl ?_
      refine w_pure want_none (y_move (v := .bool _) rfl rfl) rfl ?_
      refine w_split (fun h34 => ?_) (fun h34 => ?_)
      ·
        try simp only [Bool.not_eq_true', Bool.not_eq_false', decide_eq_true_eq, decide_eq_false_iff_not, Int.not_lt, Int.not_le] at h34
        refine w_pure (want_yes rfl rfl rfl) (y_fieldAddr (o := 0) (i := 0) Try.underlying23 rfl Try.sizeOf3 rfl rfl rfl) rfl ?_
        refine w_pure (want_yes rfl rfl rfl) (y_load1 Try.isAgg3 hs31 rfl rfl (ats_own (i := 0) (vs := [_]) rfl rfl)) rfl ?_
        refine w_pure (want_yes rfl rfl rfl) (y_fieldAddr (o := 0) (i := 0) Try.underlying26 rfl Try.sizeOf3 rfl rfl rfl) rfl ?_
        refine w_pure (want_yes rfl rfl rfl) (y_load1 Try.isAgg3 hs31 rfl rfl (ats_own (i := 1) (vs := [_]) rfl rfl)) rfl ?_
        refine w_pure (want_yes rfl rfl rfl) (y_geq rfl rfl rfl rfl) rfl ?_
        refine w_pure want_none (y_pickT (v := .bool _) rfl rfl rfl rfl) rfl ?_
        refine w_pure want_none (y_assign (v := .bool _) rfl rfl) rfl ?_
        refine w_nil ?_
        refine q_then (hK32 _ _ ?_)
        refine w_region ?_
        refine w_pure want_none (y_move (v := .bool _) rfl rfl) rfl ?_
        refine w_pure want_none (y_move (v := .bool _) rfl rfl) rfl ?_
        refine w_split (fun h35 => ?_) (fun h35 => ?_)
        ·
          try simp only [Bool.not_eq_true', Bool.not_eq_false', decide_eq_true_eq, decide_eq_false_iff_not, Int.not_lt, Int.not_le] at h35
          refine w_pure (want_yes rfl rfl rfl) (y_fieldAddr (o := 1) (i := 1) Try.underlying23 rfl Try.sizeOf3 rfl rfl rfl) rfl ?_
          refine w_pure (want_yes rfl rfl rfl) (y_load1 Try.isAgg3 hs31 rfl rfl (ats_own (i := 0) (vs := [_]) rfl rfl)) rfl ?_
          refine w_pure (want_yes rfl rfl rfl) (y_fieldAddr (o := 0) (i := 0) Try.underlying26 rfl Try.sizeOf3 rfl rfl rfl) rfl ?_
          refine w_pure (want_yes rfl rfl rfl) (y_load1 Try.isAgg3 hs31 rfl rfl (ats_own (i := 1) (vs := [_]) rfl rfl)) rfl ?_
          refine w_pure (want_yes rfl rfl rfl) (y_lss rfl rfl rfl rfl) rfl ?_
          refine w_pure want_none (y_pickT (v := .bool _) rfl rfl rfl rfl) rfl ?_
          refine w_pure want_none (y_assign (v := .bool _) rfl rfl) rfl ?_
          refine w_nil ?_
          refine q_blk_normal ?_
          refine q_then (hK20 _ _ ?_)
          refine w_region ?_
          refine w_pure want_none (y_move (v := .int _ _) rfl rfl) rfl ?_
          refine w_pure want_none (y_add rfl rfl rfl rfl (by omega) (by omega)) rfl ?_
          refine w_pure want_none (y_assign (v := .int _ _) rfl rfl) rfl ?_
          refine w_nil ?_
          refine q_then (hN12 _ _ (Nx.intro ((p.chi - p.clo + 1 - (q + 1 : Nat)).toNat) (by omega) (by repeat (first | exact agree_mix | refine agree_upd rfl ?_ | refine agree_updL rfl ?_ _ | refine agree_mixin rfl ?_)) ?_))
          exact ⟨q + 1, _, _, bbi rfl rfl (by omega), (by rw [fullUpto_succ l (by omega), ← hs1]; simp [h19, h34, h35]), (by rw [neverUpto_succ l (by omega), ← hs2]; simp [h19, h34, h35]), by omega, rfl, hs31.tail⟩
        ·
          try simp only [Bool.not_eq_true', Bool.not_eq_false', decide_eq_true_eq, decide_eq_false_iff_not, Int.not_lt, Int.not_le] at h35
          refine w_skipop rfl rfl rfl ?_
          refine w_skipop rfl rfl rfl ?_
          refine w_skipop rfl rfl rfl ?_
          refine w_skipop rfl rfl rfl ?_
          refine w_skipop rfl rfl rfl ?_
          refine w_pure want_none (y_pickF (v := _) rfl rfl rfl rfl) rfl ?_
          refine w_pure want_none (y_assign (v := .bool _) rfl rfl) rfl ?_
          refine w_nil ?_
          refine q_blk_normal ?_
          refine q_then (hK20 _ _ ?_)
          refine w_region ?_
          refine w_pure want_none (y_move (v := .int _ _) rfl rfl) rfl ?_
          refine w_pure want_none (y_add rfl rfl rfl rfl (by omega) (by omega)) rfl ?_
          refine w_pure want_none (y_assign (v := .int _ _) rfl rfl) rfl ?_
          refine w_nil ?_
          refine q_then (hN12 _ _ (Nx.intro ((p.chi - p.clo + 1 - (q + 1 : Nat)).toNat) (by omega) (by repeat (first | exact agree_mix | refine agree_upd rfl ?_ | refine agree_updL rfl ?_ _ | refine agree_mixin rfl ?_)) ?_))
          exact ⟨q + 1, _, _, bbi rfl rfl (by omega), (by rw [fullUpto_succ l (by omega), ← hs1]; simp [h19, h34, h35]), (by rw [neverUpto_succ l (by omega), ← hs2]; simp [h19, h34, h35]), by omega, rfl, hs31.tail⟩
      ·
        try simp only [Bool.not_eq_true', Bool.not_eq_false', decide_eq_true_eq, decide_eq_false_iff_not, Int.not_lt, Int.not_le] at h34
        refine w_skipop rfl rfl rfl ?_
        refine w_skipop rfl rfl rfl ?_
        refine w_skipop rfl rfl rfl ?_
        refine w_skipop rfl rfl rfl ?_
        refine w_skipop rfl rfl rfl ?_
        refine w_pure want_none (y_pickF (v := _) rfl rfl rfl rfl) rfl ?_
        refine w_pure want_none (y_assign (v := .bool _) rfl rfl) rfl ?_
        refine w_nil ?_
        refine q_then (hK32 _ _ ?_)
        refine w_region ?_
        refine w_pure want_none (y_move (v := .bool _) rfl rfl) rfl ?_
        refine w_pure want_none (y_move (v := .bool _) rfl rfl) rfl ?_
        refine w_split (fun h36 => ?_) (fun h36 => ?_)
        ·
          try simp only [Bool.not_eq_true', Bool.not_eq_false', decide_eq_true_eq, decide_eq_false_iff_not, Int.not_lt, Int.not_le] at h36
          refine w_pure (want_yes rfl rfl rfl) (y_fieldAddr (o := 1) (i := 1) Try.underlying23 rfl Try.sizeOf3 rfl rfl rfl) rfl ?_
          refine w_pure (want_yes rfl rfl rfl) (y_load1 Try.isAgg3 hs31 rfl rfl (ats_own (i := 0) (vs := [_]) rfl rfl)) rfl ?_
          refine w_pure (want_yes rfl rfl rfl) (y_fieldAddr (o := 0) (i := 0) Try.underlying26 rfl Try.sizeOf3 rfl rfl rfl) rfl ?_
          refine w_pure (want_yes rfl rfl rfl) (y_load1 Try.isAgg3 hs31 rfl rfl (ats_own (i := 1) (vs := [_]) rfl rfl)) rfl ?_
          refine w_pure (want_yes rfl rfl rfl) (y_lss rfl rfl rfl rfl) rfl ?_
          refine w_pure want_none (y_pickT (v := .bool _) rfl rfl rfl rfl) rfl ?_
          refine w_pure want_none (y_assign (v := .bool _) rfl rfl) rfl ?_
          refine w_nil ?_
          refine q_blk_normal ?_
          refine q_then (hK20 _ _ ?_)
          refine w_region ?_
          refine w_pure want_none (y_move (v := .int _ _) rfl rfl) rfl ?_
          refine w_pure want_none (y_add rfl rfl rfl rfl (by omega) (by omega)) rfl ?_
          refine w_pure want_none (y_assign (v := .int _ _) rfl rfl) rfl ?_
          refine w_nil ?_
          refine q_then (hN12 _ _ (Nx.intro ((p.chi - p.clo + 1 - (q + 1 : Nat)).toNat) (by omega) (by repeat (first | exact agree_mix | refine agree_upd rfl ?_ | refine agree_updL rfl ?_ _ | refine agree_mixin rfl ?_)) ?_))
          exact ⟨q + 1, _, _, bbi rfl rfl (by omega), (by rw [fullUpto_succ l (by omega), ← hs1]; simp [h19, h34, h36]), (by rw [neverUpto_succ l (by omega), ← hs2]; simp [h19, h34, h36]), by omega, rfl, hs31.tail⟩
        ·
          try simp only [Bool.not_eq_true', Bool.not_eq_false', decide_eq_true_eq, decide_eq_false_iff_not, Int.not_lt, Int.not_le] at h36
          refine w_skipop rfl rfl rfl ?_
          refine w_skipop rfl rfl rfl ?_
          refine w_skipop rfl rfl rfl ?_
          refine w_skipop rfl rfl rfl ?_
          refine w_skipop rfl rfl rfl ?_
          refine w_pure want_none (y_pickF (v := _) rfl rfl rfl rfl) rfl ?_
          refine w_pure want_none (y_assign (v := .bool _) rfl rfl) rfl ?_
          refine w_nil ?_
          refine q_blk_normal ?_
          refine q_then (hK20 _ _ ?_)
          refine w_region ?_
          refine w_pure want_none (y_move (v := .int _ _) rfl rfl) rfl ?_
          refine w_pure want_none (y_add rfl rfl rfl rfl (by omega) (by omega)) rfl ?_
          refine w_pure want_none (y_assign (v := .int _ _) rfl rfl) rfl ?_
          refine w_nil ?_
          refine q_then (hN12 _ _ (Nx.intro ((p.chi - p.clo + 1 - (q + 1 : Nat)).toNat) (by omega) (by repeat (first | exact agree_mix | refine agree_upd rfl ?_ | refine agree_updL rfl ?_ _ | refine agree_mixin rfl ?_)) ?_))
          exact ⟨q + 1, _, _, bbi rfl rfl (by omega), (by rw [fullUpto_succ l (by omega), ← hs1]; simp [h19, h34, h36]), (by rw [neverUpto_succ l (by omega), ← hs2]; simp [h19, h34, h36]), by omega, rfl, hs31.tail⟩
    ·
      try simp only [Bool.not_eq_true', Bool.not_eq_false', decide_eq_true_eq, decide_eq_false_iff_not, Int.not_lt, Int.not_le] at h19
      refine w_exit ?_
      refine q_then_exit ?_
      refine q_then_exit ?_
      refine q_blk_this ?_
      refine q_then (hK8 _ _ ?_)
      refine w_seq (fun K38 hK37 => ?_)
      refine w_block ?_
      refine w_seq (fun K40 hK39 => ?_)
      refine w_region ?_
      refine w_pure want_none (y_move (v := .bool _) rfl rfl) rfl ?_
      refine w_pure want_none (y_assign (v := .bool _) rfl rfl) rfl ?_
      refine w_nil ?_
      refine q_then (hK39 _ _ ?_)
      refine w_cond rfl rfl (fun h41 => ?_) (fun h41 => ?_)
      ·
        try simp only [Bool.not_eq_true', Bool.not_eq_false', decide_eq_true_eq, decide_eq_false_iff_not, Int.not_lt, Int.not_le] at h41
        refine w_seq (fun K43 hK42 => ?_)
        refine w_region ?_
        refine w_pure want_none (y_assign (v := _) rfl rfl) rfl ?_
        refine w_nil ?_
        refine q_then (hK42 _ _ ?_)
        refine w_ret ?_
        refine q_blk_ret ?_
        refine q_then_ret ?_
        refine q_ret (l := [.tmp 4]) (vs := [_]) rfl ⟨⟨rfl, show _ = (.int _ _ : Value) from rfl⟩, trivial⟩ ?_
        rw [fullUpto_all l (by omega)] at hs1
        rw [neverUpto_all l (by omega)] at hs2
        exact ⟨congrArg (Value.int .i64) (by unfold does; rw [← hs1, ← hs2]; simp [h19, h41]), hs.tail⟩
      ·
        try simp only [Bool.not_eq_true', Bool.not_eq_false', decide_eq_true_eq, decide_eq_false_iff_not, Int.not_lt, Int.not_le] at h41
        refine w_seq (fun K45 hK44 => ?_)
        refine w_region ?_
        refine w_pure want_none (y_move (v := .bool _) rfl rfl) rfl ?_
        refine w_pure want_none (y_assign (v := .bool _) rfl rfl) rfl ?_
        refine w_nil ?_
        refine q_then (hK44 _ _ ?_)
        refine w_cond rfl rfl (fun h46 => ?_) (fun h46 => ?_)
        ·
          try simp only [Bool.not_eq_true', Bool.not_eq_false', decide_eq_true_eq, decide_eq_false_iff_not, Int.not_lt, Int.not_le] at h46
          refine w_seq (fun K48 hK47 => ?_)
          refine w_region ?_
          refine w_pure want_none (y_assign (v := _) rfl rfl) rfl ?_
          refine w_nil ?_
          refine q_then (hK47 _ _ ?_)
          refine w_ret ?_
          refine q_blk_ret ?_
          refine q_then_ret ?_
          refine q_ret (l := [.tmp 4]) (vs := [_]) rfl ⟨⟨rfl, show _ = (.int _ _ : Value) from rfl⟩, trivial⟩ ?_
          rw [fullUpto_all l (by omega)] at hs1
          rw [neverUpto_all l (by omega)] at hs2
          exact ⟨congrArg (Value.int .i64) (by unfold does; rw [← hs1, ← hs2]; simp [h19, h41, h46]), hs.tail⟩
        ·
          try simp only [Bool.not_eq_true', Bool.not_eq_false', decide_eq_true_eq, decide_eq_false_iff_not, Int.not_lt, Int.not_le] at h46
          refine w_skip ?_
          refine q_blk_normal ?_
          refine q_then (hK37 _ _ ?_)
          refine w_seq (fun K50 hK49 => ?_)
          refine w_region ?_
          refine w_pure want_none (y_assign (v := _) rfl rfl) rfl ?_
          refine w_nil ?_
          refine q_then (hK49 _ _ ?_)
          refine w_ret ?_
          refine q_ret (l := [.tmp 4]) (vs := [_]) rfl ⟨⟨rfl, show _ = (.int _ _ : Value) from rfl⟩, trivial⟩ ?_
          rw [fullUpto_all l (by omega)] at hs1
          rw [neverUpto_all l (by omega)] at hs2
          exact ⟨congrArg (Value.int .i64) (by unfold does; rw [← hs1, ← hs2]; simp [h19, h41, h46]), hs.tail⟩

theorem c43 {w0 w : World} {F : List (Nat × Obj)} (p : Port) (a : Option Addr) (c : Nat) (ha : Sl w0 F a 6 (rows p.farms)) (hok : p.Ok) (al : Option Addr) (cl : Nat) (l : List Int) (hlen : l.length = p.farms.length) (hl : Sl w0 F al 1 (l.map fun x => [Value.int .i64 x])) (hl1 : ∀ x ∈ l, -1 ≤ x ∧ x ≤ 10) (hs : St w0 w F) :
  Con Try.prog 43 [.agg (p.cells a c).toArray, .slice al l.length cl] w fun v w' => v = .int .i64 (vain p l) ∧ St w0 w' F := by
  refine con_of_wc (n := 30) Try.func43 rfl rfl (Nat.le_of_ble_eq_true rfl) ?_
  have hcome := hok.come
  refine w_seq (fun K2 hK1 => ?_)
  refine w_region ?_
  refine w_box (v := .agg #[.int _ _, .int _ _, .int _ _, .slice _ _ _]) (cs := [_, _, _, _]) want_none rfl rfl rfl hs (fun b3 w4 hs5 => ?_)
  refine w_pure want_none (y_assign (v := _) rfl rfl) rfl ?_
  refine w_nil ?_
  refine q_then (hK1 _ _ ?_)
  refine w_seq (fun K7 hK6 => ?_)
  refine w_region ?_
  refine w_pure want_none (y_assign (v := _) rfl rfl) rfl ?_
  refine w_nil ?_
  refine q_then (hK6 _ _ ?_)
  refine w_seq (fun K9 hK8 => ?_)
  refine w_seq (fun K11 hK10 => ?_)
  refine w_region ?_
  refine w_pure want_none (y_fieldAddr (o := 1) (i := 1) Try.underlying26 rfl Try.sizeOf23 rfl rfl rfl) rfl ?_
  refine w_pure want_none (y_fieldAddr (o := 0) (i := 0) Try.underlying23 rfl Try.sizeOf3 rfl rfl rfl) rfl ?_
  refine w_pure want_none (y_load1 Try.isAgg3 hs5 rfl rfl (ats_own (i := 0) (vs := [_]) rfl rfl)) rfl ?_
  refine w_pure want_none (y_assign (v := .int _ _) rfl rfl) rfl ?_
  refine w_nil ?_
  refine q_then (hK10 _ _ ?_)
  refine w_block ?_
  refine w_loop [5, 6, 7, 8, 12, 13, 14, 15, 16, 17, 18, 19, 20, 21, 22, 23, 24, 25, 26, 27, 28] [5, 6] (fun k vs w => ∃ (q : Nat), vs = [.int .i64 (vainUpto p l q), .int .i64 (p.clo + q)] ∧ (q : Int) ≤ p.chi - p.clo + 1 ∧ k = (p.chi - p.clo + 1 - q).toNat ∧ St w0 w ((b3, blk 26 (p.cells a c)) :: F)) ((p.chi - p.clo + 1).toNat) ?_ ?_
  ·
    exact ⟨0, iv2 (show (0 : Int) = vainUpto p l 0 from rfl) (by omega), by omega, by simp, hs5⟩
  ·
    intro k vs μ w14 hI K13 hN12
    obtain ⟨q, rfl, hq, rfl, hs⟩ := hI
    refine w_seq (fun K16 hK15 => ?_)
    refine w_seq (fun K18 hK17 => ?_)
    refine w_region ?_
    refine w_pure want_none (y_move (v := .int _ _) rfl rfl) rfl ?_
    refine w_pure want_none (y_fieldAddr (o := 1) (i := 1) Try.underlying26 rfl Try.sizeOf23 rfl rfl rfl) rfl ?_
    refine w_pure want_none (y_fieldAddr (o := 1) (i := 1) Try.underlying23 rfl Try.sizeOf3 rfl rfl rfl) rfl ?_
    refine w_pure want_none (y_load1 Try.isAgg3 hs rfl rfl (ats_own (i := 0) (vs := [_]) rfl rfl)) rfl ?_
    refine w_pure want_none (y_leq rfl rfl rfl rfl) rfl ?_
    refine w_nil ?_
    refine q_then (hK17 _ _ ?_)
    refine w_cond rfl rfl (fun h19 => ?_) (fun h19 => ?_)
    ·
      try simp only [Bool.not_eq_true', Bool.not_eq_false', decide_eq_true_eq, decide_eq_false_iff_not, Int.not_lt, Int.not_le] at h19
      refine w_skip ?_
      refine q_then (hK15 _ _ ?_)
      refine w_seq (fun K21 hK20 => ?_)
      refine w_block ?_
      refine w_seq (fun K23 hK22 => ?_)
      refine w_region ?_
      refine w_pure want_none (y_loadN (vs := [_, _, _, _]) Try.isAgg26 Try.sizeOf26 hs rfl rfl (ats_own (i := 0) (vs := [_, _, _, _]) rfl rfl)) rfl ?_
      refine w_pure want_none (y_move (v := .slice _ _ _) rfl rfl) rfl ?_
      refine w_pure want_none (y_move (v := .int _ _) rfl rfl) rfl ?_
      refine w_call want_none Try.call56 rfl rfl rfl rfl (c56 p _ _ ha.cons hok _ _ l hlen hl.cons hl1 _ (by omega) (by omega) hs) ?_
      rintro _ w25 ⟨rfl, hs26⟩
      refine w_pure want_none (y_move (v := .tuple _) rfl rfl) rfl ?_
      refine w_pure want_none (y_extract (v := .agg _) rfl rfl rfl) rfl ?_
      refine w_pure want_none (y_extract (v := .int _ _) rfl rfl rfl) rfl ?_
      refine w_alloc (cs := [_, _]) want_none Try.zeroValue23 rfl hs26 (fun b27 w28 hs29 => ?_)
      refine w_store (i := 0) (v := .agg #[.int _ _, .int _ _]) (vs := [_, _]) want_none Try.sizeOf23 rfl rfl rfl rfl rfl (by simp [Value.oneCell']) hs29 rfl (Nat.le_of_ble_eq_true rfl) (fun w30 hs31 => ?_)
      refine w_pure want_none (y_assign (v := .int _ _) rfl rfl) rfl ?_
      refine w_nil ?_
      refine q_then (hK22 _ _ ?_)
      refine w_region ?_
      refine w_pure want_none (y_move (v := .int _ _) rfl rfl) rfl ?_
      refine w_pure want_none (y_move (v := .int _ _) rfl rfl) rfl ?_
      refine w_pure want_none (y_max2 rfl rfl rfl rfl) rfl ?_
      refine w_pure want_none (y_assign (v := .int _ _) rfl rfl) rfl ?_
      refine w_nil ?_
      refine q_blk_normal ?_
      refine q_then (hK20 _ _ ?_)
      refine w_region ?_
      refine w_pure want_none (y_move (v := .int _ _) rfl rfl) rfl ?_
      refine w_pure want_none (y_add rfl rfl rfl rfl (by omega) (by omega)) rfl ?_
      refine w_pure want_none (y_assign (v := .int _ _) rfl rfl) rfl ?_
      refine w_nil ?_
      refine q_then (hN12 _ _ (Nx.intro ((p.chi - p.clo + 1 - (q + 1 : Nat)).toNat) (by omega) (by repeat (first | exact agree_mix | refine agree_upd rfl ?_ | refine agree_updL rfl ?_ _ | refine agree_mixin rfl ?_)) ?_))
      exact ⟨q + 1, iv2 (vainUpto_succ l (by omega)).symm (by omega), by omega, rfl, hs31.tail⟩
    ·
      try simp only [Bool.not_eq_true', Bool.not_eq_false', decide_eq_true_eq, decide_eq_false_iff_not, Int.not_lt, Int.not_le] at h19
      refine w_exit ?_
      refine q_then_exit ?_
      refine q_then_exit ?_
      refine q_blk_this ?_
      refine q_then (hK8 _ _ ?_)
      refine w_seq (fun K33 hK32 => ?_)
      refine w_region ?_
      refine w_pure want_none (y_move (v := .int _ _) rfl rfl) rfl ?_
      refine w_pure want_none (y_assign (v := .int _ _) rfl rfl) rfl ?_
      refine w_nil ?_
      refine q_then (hK32 _ _ ?_)
      refine w_ret ?_
      refine q_ret (l := [.tmp 4]) (vs := [_]) rfl ⟨⟨rfl, show _ = (.int _ _ : Value) from rfl⟩, trivial⟩ ?_
      exact ⟨congrArg (Value.int .i64) (vainUpto_all l (by omega)), hs.tail⟩

theorem c72 {w0 w : World} {F : List (Nat × Obj)} (p : Port) (a : Option Addr) (c : Nat) (ha : Sl w0 F a 6 (rows p.farms)) (hok : p.Ok) (al : Option Addr) (cl : Nat) (l : List Int) (hlen : l.length = p.farms.length) (hl : Sl w0 F al 1 (l.map fun x => [Value.int .i64 x])) (hl1 : ∀ x ∈ l, -1 ≤ x ∧ x ≤ 10) (hs : St w0 w F) :
  Con Try.prog 72 [.agg (p.cells a c).toArray, .slice al l.length cl] w fun v w' => v = .int .i64 (cut p.farms l) ∧ St w0 w' F := by
  refine con_of_wc (n := 28) Try.func72 rfl rfl (Nat.le_of_ble_eq_true rfl) ?_
  have hlen3 := hok.len
  refine w_seq (fun K2 hK1 => ?_)
  refine w_region ?_
  refine w_box (v := .agg #[.int _ _, .int _ _, .int _ _, .slice _ _ _]) (cs := [_, _, _, _]) want_none rfl rfl rfl hs (fun b3 w4 hs5 => ?_)
  refine w_pure want_none (y_assign (v := _) rfl rfl) rfl ?_
  refine w_nil ?_
  refine q_then (hK1 _ _ ?_)
  refine w_seq (fun K7 hK6 => ?_)
  refine w_region ?_
  refine w_pure want_none (y_assign (v := _) rfl rfl) rfl ?_
  refine w_nil ?_
  refine q_then (hK6 _ _ ?_)
  refine w_seq (fun K9 hK8 => ?_)
  refine w_seq (fun K11 hK10 => ?_)
  refine w_region ?_
  refine w_pure want_none (y_assign (v := _) rfl rfl) rfl ?_
  refine w_nil ?_
  refine q_then (hK10 _ _ ?_)
  refine w_block ?_
  refine w_loop [5, 6, 7, 8, 9, 10, 11, 12, 13, 14, 15, 16, 17, 18, 19, 20, 21, 22, 23, 24, 25, 26] [5, 6] (fun k vs w => ∃ (i : Nat) (x : Int), x = cutUpto p.farms l i ∧ vs = [.int .i64 x, .int .i64 i] ∧ i ≤ l.length ∧ k = l.length - i ∧ St w0 w ((b3, blk 26 (p.cells a c)) :: F)) (l.length) ?_ ?_
  ·
    exact ⟨0, 0, rfl, rfl, by omega, by omega, hs5⟩
  ·
    intro k vs μ w14 hI K13 hN12
    obtain ⟨i, x, hxx, rfl, hia, rfl, hs⟩ := hI
    refine w_seq (fun K16 hK15 => ?_)
    refine w_seq (fun K18 hK17 => ?_)
    refine w_region ?_
    refine w_pure want_none (y_move (v := .int _ _) rfl rfl) rfl ?_
    refine w_pure want_none (y_move (v := .slice _ _ _) rfl rfl) rfl ?_
    refine w_pure want_none (y_lenS Try.underlying27 rfl rfl) rfl ?_
    refine w_pure want_none (y_lss rfl rfl rfl rfl) rfl ?_
    refine w_nil ?_
    refine q_then (hK17 _ _ ?_)
    refine w_cond rfl rfl (fun h19 => ?_) (fun h19 => ?_)
    ·
      try simp only [Bool.not_eq_true', Bool.not_eq_false', decide_eq_true_eq, decide_eq_false_iff_not, Int.not_lt, Int.not_le] at h19
      refine w_skip ?_
      refine q_then (hK15 _ _ ?_)
      refine w_seq (fun K21 hK20 => ?_)
      refine w_block ?_
      refine w_seq (fun K23 hK22 => ?_)
      have hi2 : i < p.farms.length := by omega
      have hi3 : i < l.length := by omega
      obtain ⟨bx, ox, rfl, hx⟩ := sl_farm ha hi2
      have hfo2 := hok.farm _ (List.getElem_mem hi2)
      unfold Farm.Ok at hfo2
      obtain ⟨bl, ol, rfl, hxl⟩ := sl_ints hl hi3
      have hgd : l[i] = l.getD i 0 := by simp [List.getD, hi3]
      rw [hgd] at hxl
      have hb := cutUpto_bound (fs := p.farms) (l := l) i (by have := hok.len; omega) hok.farm
      rw [← hxx] at hb
      refine w_region ?_
      refine w_pure want_none (y_move (v := .slice _ _ _) rfl rfl) rfl ?_
      refine w_pure want_none (y_move (v := .int _ _) rfl rfl) rfl ?_
      refine w_pure want_none (y_indexS Try.underlying27 Try.sizeOf3 rfl rfl rfl rfl (i := _) rfl (by omega)) rfl ?_
      refine w_pure want_none (y_load1 Try.isAgg3 hs.tail rfl rfl hxl) rfl ?_
      refine w_pure want_none (y_neq rfl rfl rfl rfl) rfl ?_
      refine w_nil ?_
      refine q_then (hK22 _ _ ?_)
      refine w_cond rfl rfl (fun h24 => ?_) (fun h24 => ?_)
      ·
        try simp only [Bool.not_eq_true', Bool.not_eq_false', decide_eq_true_eq, decide_eq_false_iff_not, Int.not_lt, Int.not_le] at h24
        refine w_region ?_
        refine w_pure want_none (y_move (v := .int _ _) rfl rfl) rfl ?_
        refine w_pure want_none (y_fieldAddr (o := 3) (i := 2) Try.underlying26 rfl Try.sizeOf24 rfl rfl rfl) rfl ?_
        refine w_pure want_none (y_load1 Try.isAgg24 hs rfl rfl (ats_own (i := 0) (vs := [_]) rfl rfl)) rfl ?_
        refine w_pure want_none (y_move (v := .int _ _) rfl rfl) rfl ?_
        refine w_pure want_none (y_indexS Try.underlying24 Try.sizeOf60 rfl rfl rfl rfl (i := _) rfl (by omega)) rfl ?_
        refine w_pure want_none (y_fieldAddr (o := 4) (i := 4) Try.underlying60 rfl Try.sizeOf23 rfl rfl rfl) rfl ?_
        refine w_pure want_none (y_fieldAddr (o := 1) (i := 1) Try.underlying23 rfl Try.sizeOf3 rfl rfl rfl) rfl ?_
        refine w_pure want_none (y_load1 Try.isAgg3 hs.tail rfl rfl (show Ats _ _ _ _ [_] from Ats.part hx 5 1)) rfl ?_
        refine w_pure want_none (y_add rfl rfl rfl rfl (by omega) (by omega)) rfl ?_
        refine w_pure want_none (y_assign (v := .int _ _) rfl rfl) rfl ?_
        refine w_nil ?_
        refine q_blk_normal ?_
        refine q_then (hK20 _ _ ?_)
        refine w_region ?_
        refine w_pure want_none (y_move (v := .int _ _) rfl rfl) rfl ?_
        refine w_pure want_none (y_add rfl rfl rfl rfl (by omega) (by omega)) rfl ?_
        refine w_pure want_none (y_assign (v := .int _ _) rfl rfl) rfl ?_
        refine w_nil ?_
        refine q_then (hN12 _ _ (Nx.intro (l.length - (i + 1)) (by omega) (by repeat (first | exact agree_mix | refine agree_upd rfl ?_ | refine agree_updL rfl ?_ _ | refine agree_mixin rfl ?_)) ?_))
        first
          | exact ⟨i + 1, x + p.farms[i].hi, (by rw [cutUpto_succ hi2 hi3, ← hxx]; exact (cut_yes (by assumption)).symm), rfl, by omega, rfl, hs⟩
          | exact ⟨i + 1, x, (by rw [cutUpto_succ hi2 hi3, ← hxx]; exact (cut_no (by assumption)).symm), rfl, by omega, rfl, hs⟩
      ·
        try simp only [Bool.not_eq_true', Bool.not_eq_false', decide_eq_true_eq, decide_eq_false_iff_not, Int.not_lt, Int.not_le] at h24
        refine w_skip ?_
        refine q_blk_normal ?_
        refine q_then (hK20 _ _ ?_)
        refine w_region ?_
        refine w_pure want_none (y_move (v := .int _ _) rfl rfl) rfl ?_
        refine w_pure want_none (y_add rfl rfl rfl rfl (by omega) (by omega)) rfl ?_
        refine w_pure want_none (y_assign (v := .int _ _) rfl rfl) rfl ?_
        refine w_nil ?_
        refine q_then (hN12 _ _ (Nx.intro (l.length - (i + 1)) (by omega) (by repeat (first | exact agree_mix | refine agree_upd rfl ?_ | refine agree_updL rfl ?_ _ | refine agree_mixin rfl ?_)) ?_))
        first
          | exact ⟨i + 1, x + p.farms[i].hi, (by rw [cutUpto_succ hi2 hi3, ← hxx]; exact (cut_yes (by assumption)).symm), rfl, by omega, rfl, hs⟩
          | exact ⟨i + 1, x, (by rw [cutUpto_succ hi2 hi3, ← hxx]; exact (cut_no (by assumption)).symm), rfl, by omega, rfl, hs⟩
    ·
      try simp only [Bool.not_eq_true', Bool.not_eq_false', decide_eq_true_eq, decide_eq_false_iff_not, Int.not_lt, Int.not_le] at h19
      refine w_exit ?_
      refine q_then_exit ?_
      refine q_then_exit ?_
      refine q_blk_this ?_
      refine q_then (hK8 _ _ ?_)
      refine w_seq (fun K26 hK25 => ?_)
      refine w_region ?_
      refine w_pure want_none (y_move (v := .int _ _) rfl rfl) rfl ?_
      refine w_pure want_none (y_assign (v := .int _ _) rfl rfl) rfl ?_
      refine w_nil ?_
      refine q_then (hK25 _ _ ?_)
      refine w_ret ?_
      refine q_ret (l := [.tmp 4]) (vs := [_]) rfl ⟨⟨rfl, show _ = (.int _ _ : Value) from rfl⟩, trivial⟩ ?_
      exact ⟨congrArg (Value.int .i64) (by rw [hxx]; exact cutUpto_all (by omega)), hs.tail⟩

theorem c22 {w0 w : World} {F : List (Nat × Obj)} (p : Port) (a : Option Addr) (c : Nat) (hl3 : p.farms.length ≤ 9223372036854775807) (hc : p.farms.length ≤ c) (ha : Sl w0 F a 6 (rows p.farms)) (hnm : ∀ f ∈ p.farms, f.name.size ≤ 9223372036854775807) (al : Option Addr) (cl : Nat) (l : List Int) (hll : l.length ≤ 9223372036854775807) (hl : Sl w0 F al 1 (l.map fun x => [Value.int .i64 x])) (hs : St w0 w F) :
  Con Try.prog 22 [.agg (p.cells a c).toArray, .slice al l.length cl] w fun v w' => v = .tuple #[.int .i64 (fullR p l), .int .i64 (enterErr p l)] ∧ St w0 w' F := by
  refine con_of_wc (n := 16) Try.func22 rfl rfl (Nat.le_of_ble_eq_true rfl) ?_
  refine w_seq (fun K2 hK1 => ?_)
  refine w_region ?_
  refine w_box (v := .agg #[.int _ _, .int _ _, .int _ _, .slice _ _ _]) (cs := [_, _, _, _]) want_none rfl rfl rfl hs (fun b3 w4 hs5 => ?_)
  refine w_pure want_none (y_assign (v := _) rfl rfl) rfl ?_
  refine w_pure want_none (y_assign (v := _) rfl rfl) rfl ?_
  refine w_nil ?_
  refine q_then (hK1 _ _ ?_)
  refine w_seq (fun K7 hK6 => ?_)
  refine w_region ?_
  refine w_pure want_none (y_loadN (vs := [_, _, _, _]) Try.isAgg26 Try.sizeOf26 hs5 rfl rfl (ats_own (i := 0) (vs := [_, _, _, _]) rfl rfl)) rfl ?_
  refine w_pure want_none (y_move (v := .slice _ _ _) rfl rfl) rfl ?_
  refine w_call want_none Try.call55 rfl rfl rfl rfl (c55 p _ _ (by omega) (by omega) ha.cons hnm _ _ _ (by omega) hl.cons hs5) ?_
  rintro _ w9 ⟨rfl, hs10⟩
  refine w_pure want_none (y_assign (v := .int _ _) rfl rfl) rfl ?_
  refine w_nil ?_
  refine q_then (hK6 _ _ ?_)
  refine w_seq (fun K12 hK11 => ?_)
  refine w_seq (fun K14 hK13 => ?_)
  refine w_region ?_
  refine w_pure want_none (y_move (v := .int _ _) rfl rfl) rfl ?_
  refine w_pure want_none (y_neq rfl rfl rfl rfl) rfl ?_
  refine w_nil ?_
  refine q_then (hK13 _ _ ?_)
  refine w_cond rfl rfl (fun h15 => ?_) (fun h15 => ?_)
  ·
    try simp only [Bool.not_eq_true', Bool.not_eq_false', decide_eq_true_eq, decide_eq_false_iff_not, Int.not_lt, Int.not_le] at h15
    refine w_seq (fun K17 hK16 => ?_)
    refine w_region ?_
    refine w_pure want_none (y_move (v := .int _ _) rfl rfl) rfl ?_
    refine w_pure want_none (y_assign (v := _) rfl rfl) rfl ?_
    refine w_pure want_none (y_assign (v := .int _ _) rfl rfl) rfl ?_
    refine w_nil ?_
    refine q_then (hK16 _ _ ?_)
    refine w_ret ?_
    refine q_then_ret ?_
    refine q_ret (l := [.tmp 4, .tmp 5]) (vs := [_, _]) rfl ⟨⟨rfl, show _ = (.int _ _ : Value) from rfl⟩, ⟨rfl, show _ = (.int _ _ : Value) from rfl⟩, trivial⟩ ?_
    refine ⟨tup2 ?_ ?_, hs10.tail⟩ <;> simp [fullR, h15]
  ·
    try simp only [Bool.not_eq_true', Bool.not_eq_false', decide_eq_true_eq, decide_eq_false_iff_not, Int.not_lt, Int.not_le] at h15
    refine w_skip ?_
    refine q_then (hK11 _ _ ?_)
    refine w_seq (fun K19 hK18 => ?_)
    obtain ⟨hck, hlen, hl1⟩ := enter_ok (p := p) (l := l) (by assumption)
    have hok := check_ok hck
    have hcome := hok.come
    refine w_region ?_
    refine w_pure want_none (y_loadN (vs := [_, _, _, _]) Try.isAgg26 Try.sizeOf26 hs10 rfl rfl (ats_own (i := 0) (vs := [_, _, _, _]) rfl rfl)) rfl ?_
    refine w_pure want_none (y_move (v := .slice _ _ _) rfl rfl) rfl ?_
    refine w_call want_none Try.call42 rfl rfl rfl rfl (c42 p _ _ ha.cons hok _ _ l hlen hl.cons hl1 hs10) ?_
    rintro _ w21 ⟨rfl, hs22⟩
    refine w_pure want_none (y_assign (v := .int _ _) rfl rfl) rfl ?_
    refine w_pure want_none (y_assign (v := _) rfl rfl) rfl ?_
    refine w_nil ?_
    refine q_then (hK18 _ _ ?_)
    refine w_ret ?_
    refine q_ret (l := [.tmp 4, .tmp 5]) (vs := [_, _]) rfl ⟨⟨rfl, show _ = (.int _ _ : Value) from rfl⟩, ⟨rfl, show _ = (.int _ _ : Value) from rfl⟩, trivial⟩ ?_
    refine ⟨tup2 ?_ ?_, hs22.tail⟩ <;> simp [fullR, h15]

theorem c25 {w0 w : World} {F : List (Nat × Obj)} (p : Port) (a : Option Addr) (c : Nat) (hl3 : p.farms.length ≤ 9223372036854775807) (hc : p.farms.length ≤ c) (ha : Sl w0 F a 6 (rows p.farms)) (hnm : ∀ f ∈ p.farms, f.name.size ≤ 9223372036854775807) (al : Option Addr) (cl : Nat) (l : List Int) (hll : l.length ≤ 9223372036854775807) (hl : Sl w0 F al 1 (l.map fun x => [Value.int .i64 x])) (hs : St w0 w F) :
  Con Try.prog 25 [.agg (p.cells a c).toArray, .slice al l.length cl] w fun v w' => v = .tuple #[.int .i64 (vainR p l), .int .i64 (enterErr p l)] ∧ St w0 w' F := by
  refine con_of_wc (n := 16) Try.func25 rfl rfl (Nat.le_of_ble_eq_true rfl) ?_
  refine w_seq (fun K2 hK1 => ?_)
  refine w_region ?_
  refine w_box (v := .agg #[.int _ _, .int _ _, .int _ _, .slice _ _ _]) (cs := [_, _, _, _]) want_none rfl rfl rfl hs (fun b3 w4 hs5 => ?_)
  refine w_pure want_none (y_assign (v := _) rfl rfl) rfl ?_
  refine w_pure want_none (y_assign (v := _) rfl rfl) rfl ?_
  refine w_nil ?_
  refine q_then (hK1 _ _ ?_)
  refine w_seq (fun K7 hK6 => ?_)
  refine w_region ?_
  refine w_pure want_none (y_loadN (vs := [_, _, _, _]) Try.isAgg26 Try.sizeOf26 hs5 rfl rfl (ats_own (i := 0) (vs := [_, _, _, _]) rfl rfl)) rfl ?_
  refine w_pure want_none (y_move (v := .slice _ _ _) rfl rfl) rfl ?_
  refine w_call want_none Try.call55 rfl rfl rfl rfl (c55 p _ _ (by omega) (by omega) ha.cons hnm _ _ _ (by omega) hl.cons hs5) ?_
  rintro _ w9 ⟨rfl, hs10⟩
  refine w_pure want_none (y_assign (v := .int _ _) rfl rfl) rfl ?_
  refine w_nil ?_
  refine q_then (hK6 _ _ ?_)
  refine w_seq (fun K12 hK11 => ?_)
  refine w_seq (fun K14 hK13 => ?_)
  refine w_region ?_
  refine w_pure want_none (y_move (v := .int _ _) rfl rfl) rfl ?_
  refine w_pure want_none (y_neq rfl rfl rfl rfl) rfl ?_
  refine w_nil ?_
  refine q_then (hK13 _ _ ?_)
  refine w_cond rfl rfl (fun h15 => ?_) (fun h15 => ?_)
  ·
    try simp only [Bool.not_eq_true', Bool.not_eq_false', decide_eq_true_eq, decide_eq_false_iff_not, Int.not_lt, Int.not_le] at h15
    refine w_seq (fun K17 hK16 => ?_)
    refine w_region ?_
    refine w_pure want_none (y_move (v := .int _ _) rfl rfl) rfl ?_
    refine w_pure want_none (y_assign (v := _) rfl rfl) rfl ?_
    refine w_pure want_none (y_assign (v := .int _ _) rfl rfl) rfl ?_
    refine w_nil ?_
    refine q_then (hK16 _ _ ?_)
    refine w_ret ?_
    refine q_then_ret ?_
    refine q_ret (l := [.tmp 4, .tmp 5]) (vs := [_, _]) rfl ⟨⟨rfl, show _ = (.int _ _ : Value) from rfl⟩, ⟨rfl, show _ = (.int _ _ : Value) from rfl⟩, trivial⟩ ?_
    refine ⟨tup2 ?_ ?_, hs10.tail⟩ <;> simp [vainR, h15]
  ·
    try simp only [Bool.not_eq_true', Bool.not_eq_false', decide_eq_true_eq, decide_eq_false_iff_not, Int.not_lt, Int.not_le] at h15
    refine w_skip ?_
    refine q_then (hK11 _ _ ?_)
    refine w_seq (fun K19 hK18 => ?_)
    obtain ⟨hck, hlen, hl1⟩ := enter_ok (p := p) (l := l) (by assumption)
    have hok := check_ok hck
    have hcome := hok.come
    refine w_region ?_
    refine w_pure want_none (y_loadN (vs := [_, _, _, _]) Try.isAgg26 Try.sizeOf26 hs10 rfl rfl (ats_own (i := 0) (vs := [_, _, _, _]) rfl rfl)) rfl ?_
    refine w_pure want_none (y_move (v := .slice _ _ _) rfl rfl) rfl ?_
    refine w_call want_none Try.call43 rfl rfl rfl rfl (c43 p _ _ ha.cons hok _ _ l hlen hl.cons hl1 hs10) ?_
    rintro _ w21 ⟨rfl, hs22⟩
    refine w_pure want_none (y_assign (v := .int _ _) rfl rfl) rfl ?_
    refine w_pure want_none (y_assign (v := _) rfl rfl) rfl ?_
    refine w_nil ?_
    refine q_then (hK18 _ _ ?_)
    refine w_ret ?_
    refine q_ret (l := [.tmp 4, .tmp 5]) (vs := [_, _]) rfl ⟨⟨rfl, show _ = (.int _ _ : Value) from rfl⟩, ⟨rfl, show _ = (.int _ _ : Value) from rfl⟩, trivial⟩ ?_
    refine ⟨tup2 ?_ ?_, hs22.tail⟩ <;> simp [vainR, h15]

theorem vi {u v : Value} {a b : Int} (h : u = v) (k : a = b) : [u, Value.int .i64 a] = [v, Value.int .i64 b] := by rw [h, k]
theorem keep_2 {w0 w : World} {x y z : Nat × Obj} {L : List (Nat × Obj)} (h : St w0 w (x :: y :: z :: L)) : St w0 w (z :: L) := h.tail.tail
theorem qc_succ {p : Port} {l : List Int} {i : Nat} (hi : (i : Int) < p.chi - p.clo + 1) : (qcells ((loads p l).take (i + 1))).flatten = (qcells ((loads p l).take i)).flatten ++ [[Value.int .i64 (on p.farms l (p.clo + i)).least, .int .i64 (on p.farms l (p.clo + i)).most]].flatten := by
  rw [loads_take_succ l hi]; simp only [qcells, List.map_append, List.map_cons, List.map_nil, List.flatten_append]
theorem c19 {w0 w : World} {F : List (Nat × Obj)} (p : Port) (a : Option Addr) (c : Nat) (hl3 : p.farms.length ≤ 9223372036854775807) (hc : p.farms.length ≤ c) (ha : Sl w0 F a 6 (rows p.farms)) (hnm : ∀ f ∈ p.farms, f.name.size ≤ 9223372036854775807) (al : Option Addr) (cl : Nat) (l : List Int) (hll : l.length ≤ 9223372036854775807) (hl : Sl w0 F al 1 (l.map fun x => [Value.int .i64 x])) (hs : St w0 w F) :
  Con Try.prog 19 [.agg (p.cells a c).toArray, .slice al l.length cl] w fun v w' => ∃ B aq cq, v = .tuple #[.slice aq (quayR p l).length cq, .int .i64 (enterErr p l)] ∧ Sl w0 (B ++ F) aq 2 (sprow (quayR p l)) ∧ St w0 w' (B ++ F) := by
  refine con_of_wc (n := 39) Try.func19 rfl rfl (Nat.le_of_ble_eq_true rfl) ?_
  refine w_seq (fun K2 hK1 => ?_)
  refine w_region ?_
  refine w_box (v := .agg #[.int _ _, .int _ _, .int _ _, .slice _ _ _]) (cs := [_, _, _, _]) want_none rfl rfl rfl hs (fun b3 w4 hs5 => ?_)
  refine w_pure want_none (y_assign (v := _) rfl rfl) rfl ?_
  refine w_pure want_none (y_assign (v := _) rfl rfl) rfl ?_
  refine w_nil ?_
  refine q_then (hK1 _ _ ?_)
  refine w_seq (fun K7 hK6 => ?_)
  refine w_region ?_
  refine w_pure want_none (y_loadN (vs := [_, _, _, _]) Try.isAgg26 Try.sizeOf26 hs5 rfl rfl (ats_own (i := 0) (vs := [_, _, _, _]) rfl rfl)) rfl ?_
  refine w_pure want_none (y_move (v := .slice _ _ _) rfl rfl) rfl ?_
  refine w_call want_none Try.call55 rfl rfl rfl rfl (c55 p _ _ (by omega) (by omega) ha.cons hnm _ _ _ (by omega) hl.cons hs5) ?_
  rintro _ w9 ⟨rfl, hs10⟩
  refine w_pure want_none (y_assign (v := .int _ _) rfl rfl) rfl ?_
  refine w_nil ?_
  refine q_then (hK6 _ _ ?_)
  refine w_seq (fun K12 hK11 => ?_)
  refine w_seq (fun K14 hK13 => ?_)
  refine w_region ?_
  refine w_pure want_none (y_move (v := .int _ _) rfl rfl) rfl ?_
  refine w_pure want_none (y_neq rfl rfl rfl rfl) rfl ?_
  refine w_nil ?_
  refine q_then (hK13 _ _ ?_)
  refine w_cond rfl rfl (fun h15 => ?_) (fun h15 => ?_)
  ·
    try simp only [Bool.not_eq_true', Bool.not_eq_false', decide_eq_true_eq, decide_eq_false_iff_not, Int.not_lt, Int.not_le] at h15
    refine w_seq (fun K17 hK16 => ?_)
    refine w_region ?_
    refine w_pure want_none (y_move (v := .int _ _) rfl rfl) rfl ?_
    refine w_pure want_none (y_assign (v := _) rfl rfl) rfl ?_
    refine w_pure want_none (y_assign (v := .int _ _) rfl rfl) rfl ?_
    refine w_nil ?_
    refine q_then (hK16 _ _ ?_)
    refine w_ret ?_
    refine q_then_ret ?_
    refine q_ret (l := [.tmp 4, .tmp 5]) (vs := [_, _]) rfl ⟨⟨rfl, show _ = (.slice _ _ _ : Value) from rfl⟩, ⟨rfl, show _ = (.int _ _ : Value) from rfl⟩, trivial⟩ ?_
    first
      | (refine ⟨[], none, 0, ?_, ?_, hs10.tail⟩ <;> rw [q_none (by assumption)] <;> first | rfl | exact Sl.nil _ _)
      | (obtain ⟨aw, cw, rfl, hsw⟩ := hown.sl (w0 := w0) (rows := qcells (loads p l)) (by intro row hr; obtain ⟨x, _, rfl⟩ := List.mem_map.1 hr; rfl) (by rw [List.length_map, hlo]; omega) (by rw [List.take_of_length_le (by rw [hlo]; omega)]) F
         have he : enterErr p l = 0 := by assumption
         have hqs := q_some he
         rw [loads_pad hlen hok.len] at hqs
         rw [he]
         rw [show (qcells (loads p l)).length = (quayR p l).length from by rw [hqs, List.length_map]]
         rw [hqs] at hsw
         exact ⟨B, aw, cw, rfl, hsw, hs10.tail⟩)
  ·
    try simp only [Bool.not_eq_true', Bool.not_eq_false', decide_eq_true_eq, decide_eq_false_iff_not, Int.not_lt, Int.not_le] at h15
    refine w_skip ?_
    refine q_then (hK11 _ _ ?_)
    refine w_seq (fun K19 hK18 => ?_)
    obtain ⟨hck, hlen, hl1⟩ := enter_ok (p := p) (l := l) (by assumption)
    have hok := check_ok hck
    have hcome := hok.come
    have hlo := loads_len p l
    refine w_region ?_
    refine w_pure want_none (y_assign (v := _) rfl rfl) rfl ?_
    refine w_nil ?_
    refine q_then (hK18 _ _ ?_)
    refine w_seq (fun K21 hK20 => ?_)
    refine w_seq (fun K23 hK22 => ?_)
    refine w_region ?_
    refine w_pure want_none (y_fieldAddr (o := 1) (i := 1) Try.underlying26 rfl Try.sizeOf23 rfl rfl rfl) rfl ?_
    refine w_pure want_none (y_fieldAddr (o := 0) (i := 0) Try.underlying23 rfl Try.sizeOf3 rfl rfl rfl) rfl ?_
    refine w_pure want_none (y_load1 Try.isAgg3 hs10 rfl rfl (ats_own (i := 0) (vs := [_]) rfl rfl)) rfl ?_
    refine w_pure want_none (y_assign (v := .int _ _) rfl rfl) rfl ?_
    refine w_nil ?_
    refine q_then (hK22 _ _ ?_)
    refine w_block ?_
    refine w_loop [7, 8, 9, 10, 20, 21, 22, 23, 24, 25, 26, 27, 28, 29, 30, 31, 32, 33, 34, 35, 36, 37] [7, 8] (fun k vs w => ∃ (q : Nat) (v : Value) (B : List (Nat × Obj)), vs = [v, .int .i64 (p.clo + q)] ∧ (q : Int) ≤ p.chi - p.clo + 1 ∧ k = (p.chi - p.clo + 1 - q).toNat ∧ Rt.Own v 23 2 q (qcells ((loads p l).take q)).flatten B ∧ St w0 w ((b3, blk 26 (p.cells a c)) :: (B ++ F))) ((p.chi - p.clo + 1).toNat) ?_ ?_
    ·
      exact ⟨0, _, [], vi rfl (by omega), by omega, by simp, own_nil 23 2, hs10⟩
    ·
      intro k vs μ w26 hI K25 hN24
      obtain ⟨q, v, B, rfl, hq, rfl, hown, hs⟩ := hI
      refine w_seq (fun K28 hK27 => ?_)
      refine w_seq (fun K30 hK29 => ?_)
      refine w_region ?_
      refine w_pure want_none (y_move (v := .int _ _) rfl rfl) rfl ?_
      refine w_pure want_none (y_fieldAddr (o := 1) (i := 1) Try.underlying26 rfl Try.sizeOf23 rfl rfl rfl) rfl ?_
      refine w_pure want_none (y_fieldAddr (o := 1) (i := 1) Try.underlying23 rfl Try.sizeOf3 rfl rfl rfl) rfl ?_
      refine w_pure want_none (y_load1 Try.isAgg3 hs rfl rfl (ats_own (i := 0) (vs := [_]) rfl rfl)) rfl ?_
      refine w_pure want_none (y_leq rfl rfl rfl rfl) rfl ?_
      refine w_nil ?_
      refine q_then (hK29 _ _ ?_)
      refine w_cond rfl rfl (fun h31 => ?_) (fun h31 => ?_)
      ·
        try simp only [Bool.not_eq_true', Bool.not_eq_false', decide_eq_true_eq, decide_eq_false_iff_not, Int.not_lt, Int.not_le] at h31
        refine w_skip ?_
        refine q_then (hK27 _ _ ?_)
        refine w_seq (fun K33 hK32 => ?_)
        refine w_block ?_
        refine w_seq (fun K35 hK34 => ?_)
        refine w_region ?_
        refine w_pure want_none (y_loadN (vs := [_, _, _, _]) Try.isAgg26 Try.sizeOf26 hs rfl rfl (ats_own (i := 0) (vs := [_, _, _, _]) rfl rfl)) rfl ?_
        refine w_pure want_none (y_move (v := .slice _ _ _) rfl rfl) rfl ?_
        refine w_pure want_none (y_move (v := .int _ _) rfl rfl) rfl ?_
        refine w_call want_none Try.call56 rfl rfl rfl rfl (c56 p _ _ ha.app.cons hok _ _ l hlen hl.app.cons hl1 _ (by omega) (by omega) hs) ?_
        rintro _ w37 ⟨rfl, hs38⟩
        refine w_pure want_none (y_move (v := .tuple _) rfl rfl) rfl ?_
        refine w_pure want_none (y_extract (v := .agg _) rfl rfl rfl) rfl ?_
        refine w_pure want_none (y_extract (v := .int _ _) rfl rfl rfl) rfl ?_
        refine w_alloc (cs := [_, _]) want_none Try.zeroValue23 rfl hs38 (fun b39 w40 hs41 => ?_)
        refine w_store (i := 0) (v := .agg #[.int _ _, .int _ _]) (vs := [_, _]) want_none Try.sizeOf23 rfl rfl rfl rfl rfl (by simp [Value.oneCell']) hs41 rfl (Nat.le_of_ble_eq_true rfl) (fun w42 hs43 => ?_)
        refine w_pure want_none (y_assign (v := .int _ _) rfl rfl) rfl ?_
        refine w_nil ?_
        refine q_then (hK34 _ _ ?_)
        refine w_region ?_
        refine w_pure want_none (y_move (v := v) rfl rfl) rfl ?_
        refine w_pure want_none (y_loadN (vs := [_, _]) Try.isAgg23 Try.sizeOf23 hs43 rfl rfl (ats_own (i := 0) (vs := [_, _]) rfl rfl)) rfl ?_
        refine w_bslice (ps := [(0, _)]) (pv := [(0, .agg #[.int _ _, .int _ _])]) (cs := [_, _]) want_none rfl rfl (fun w => Try_T_fb8 _ _ w) hs43 (fun b44 w45 hs46 => ?_)
        refine w_append (X := (_ :: _ :: _ :: [])) (B := B) (rows := [[_, _]]) (sz := 2) (bytes := 16) want_none Try.underlying31 Try_info23 rfl rfl rfl rfl rfl rfl rfl rfl rfl hs46 hown (sl_own (i := 0) rfl (by simp) rfl) rfl (by simp) (by simp [Value.oneCell']) (by simp only [maxLen]; omega) (by omega) (fun v47 w48 B49 ho50 hs51 => ?_)
        replace hs51 := (show St _ _ (_ :: _ :: _ :: B49 ++ (F)) from hs51)
        refine w_pure want_none (y_assign (v := v47) rfl rfl) rfl ?_
        refine w_nil ?_
        refine q_blk_normal ?_
        refine q_then (hK32 _ _ ?_)
        refine w_region ?_
        refine w_pure want_none (y_move (v := .int _ _) rfl rfl) rfl ?_
        refine w_pure want_none (y_add rfl rfl rfl rfl (by omega) (by omega)) rfl ?_
        refine w_pure want_none (y_assign (v := .int _ _) rfl rfl) rfl ?_
        refine w_nil ?_
        refine q_then (hN24 _ _ (Nx.intro ((p.chi - p.clo + 1 - (q + 1 : Nat)).toNat) (by omega) (by repeat (first | exact agree_mix | refine agree_upd rfl ?_ | refine agree_updL rfl ?_ _ | refine agree_mixin rfl ?_)) ?_))
        exact ⟨q + 1, _, _, vi rfl (by omega), by omega, rfl, by rw [qc_succ (by omega)]; exact ho50, keep_2 hs51⟩
      ·
        try simp only [Bool.not_eq_true', Bool.not_eq_false', decide_eq_true_eq, decide_eq_false_iff_not, Int.not_lt, Int.not_le] at h31
        refine w_exit ?_
        refine q_then_exit ?_
        refine q_then_exit ?_
        refine q_blk_this ?_
        refine q_then (hK20 _ _ ?_)
        refine w_seq (fun K53 hK52 => ?_)
        refine w_region ?_
        refine w_pure want_none (y_move (v := v) rfl rfl) rfl ?_
        refine w_pure want_none (y_assign (v := v) rfl rfl) rfl ?_
        refine w_pure want_none (y_assign (v := _) rfl rfl) rfl ?_
        refine w_nil ?_
        refine q_then (hK52 _ _ ?_)
        refine w_ret ?_
        refine q_ret (l := [.tmp 4, .tmp 5]) (vs := [_, _]) rfl ⟨⟨rfl, show _ = (v : Value) from rfl⟩, ⟨rfl, show _ = (.int _ _ : Value) from rfl⟩, trivial⟩ ?_
        first
          | (refine ⟨[], none, 0, ?_, ?_, hs.tail⟩ <;> rw [q_none (by assumption)] <;> first | rfl | exact Sl.nil _ _)
          | (obtain ⟨aw, cw, rfl, hsw⟩ := hown.sl (w0 := w0) (rows := qcells (loads p l)) (by intro row hr; obtain ⟨x, _, rfl⟩ := List.mem_map.1 hr; rfl) (by rw [List.length_map, hlo]; omega) (by rw [List.take_of_length_le (by rw [hlo]; omega)]) F
             have he : enterErr p l = 0 := by assumption
             have hqs := q_some he
             rw [loads_pad hlen hok.len] at hqs
             rw [he]
             rw [show (qcells (loads p l)).length = (quayR p l).length from by rw [hqs, List.length_map]]
             rw [hqs] at hsw
             exact ⟨B, aw, cw, rfl, hsw, hs.tail⟩)

end Go.Proofs
