/- Walks of this seat, printed by gen.py over the engine: what each function returns, in whatever world. No conditions but those of each contract. -/
import Derived.Test.YtofoabifbkhkfaaY
set_option linter.unusedVariables false
set_option linter.unusedSimpArgs false
set_option maxRecDepth 20000
namespace Go.Proofs
open Go.Rt
attribute [local irreducible] WL WC Con Yd At Ats Sl Agree DW

theorem cb2 {x y : Bool} {a b : Int} (h : x = y) (k : a = b) : [Value.bool x, Value.int .i64 a] = [Value.bool y, Value.int .i64 b] := by rw [h, k]
theorem thenR_no {p : Port} {g : List Int} {start day x : Int} (hx : x = leastT p.farms g start day) (h : x < p.hold) : -1 = thenR p g start day := by unfold thenR; rw [if_pos (by omega)]
theorem thenR_yes {p : Port} {g : List Int} {start day x : Int} (hx : x = leastT p.farms g start day) (h : p.hold ≤ x) : (on p.farms g day).vain = thenR p g start day := by unfold thenR; rw [if_neg (by omega)]
theorem more_ref {f : Farm} {c start day n : Int} (h : c = -1) (h2 : canLate f start day = true) : n + f.lo = moreStep start day n (f, c) := by unfold moreStep; rw [if_pos ⟨h, h2⟩]
theorem more_ref0 {f : Farm} {c start day n : Int} (h : ¬ c = -1) : n = moreStep start day n (f, c) := by unfold moreStep; rw [if_neg (fun hh => h hh.1)]
theorem more_ref1 {f : Farm} {c start day n : Int} (h : canLate f start day = false) : n = moreStep start day n (f, c) := by unfold moreStep; rw [if_neg (by simp [h])]
theorem thenR_neg {p : Port} (hok : p.Ok) {g : List Int} {start day : Int} (h : thenR p g start day < 0) : decide (p.hold ≤ leastT p.farms g start day) = false := by
  unfold thenR at h
  split at h
  · simp; omega
  · have := (on_bound (l := g) day hok.len hok.farm); omega
theorem thenR_pos {p : Port} {g : List Int} {start day : Int} (h : 0 ≤ thenR p g start day) : decide (p.hold ≤ leastT p.farms g start day) = true ∧ thenR p g start day = (on p.farms g day).vain := by
  unfold thenR at h ⊢
  split at h
  · omega
  · rename_i h2; rw [if_neg h2]; simp; omega
theorem c95 {w0 w : World} {F : List (Nat × Obj)} (f : Farm) (hf : f.Ok) (start day : Int) (h0 : 0 ≤ start) (h10 : start ≤ 10) (hd : -100 ≤ day) (hd2 : day ≤ 100) (hs : St w0 w F) :
  Con Try.prog 95 [.agg f.cells.toArray, .int .i64 start, .int .i64 day] w fun v w' => v = .bool (canLate f start day) ∧ St w0 w' F := by
  refine con_of_wc (n := 22) Try.func95 rfl rfl (Nat.le_of_ble_eq_true rfl) ?_
  refine w_seq (fun K2 hK1 => ?_)
  refine w_region ?_
  refine w_box (v := .agg #[.string _, .int _ _, .int _ _, .int _ _, .int _ _, .int _ _]) (cs := [_, _, _, _, _, _]) want_none rfl rfl rfl hs (fun b3 w4 hs5 => ?_)
  refine w_pure want_none (y_assign (v := _) rfl rfl) rfl ?_
  refine w_nil ?_
  refine q_then (hK1 _ _ ?_)
  refine w_seq (fun K7 hK6 => ?_)
  refine w_region ?_
  refine w_pure want_none (y_assign (v := _) rfl rfl) rfl ?_
  refine w_nil ?_
  refine q_then (hK6 _ _ ?_)
  refine w_seq (fun K9 hK8 => ?_)
  refine w_seq (fun K11 hK10 => ?_)
  refine w_region ?_
  refine w_pure want_none (y_move (v := .int _ _) rfl rfl) rfl ?_
  refine w_pure want_none (y_assign (v := .int _ _) rfl rfl) rfl ?_
  refine w_nil ?_
  refine q_then (hK10 _ _ ?_)
  refine w_block ?_
  refine w_loop [7, 8, 10, 11, 12, 13, 14, 15, 16, 17, 18, 19, 20] [7, 8] (fun kk vs w => ∃ (q : Nat) (m : Bool), m = canUpto f start day q ∧ vs = [.bool m, .int .i64 (start + q)] ∧ (q : Int) ≤ 11 - start ∧ kk = (11 - start - q).toNat ∧ St w0 w ((b3, blk 60 f.cells) :: F)) ((11 - start).toNat) ?_ ?_
  ·
    exact ⟨0, false, rfl, cb2 rfl (by omega), by omega, by simp, hs5⟩
  ·
    intro k vs μ w14 hI K13 hN12
    obtain ⟨q, m, hm, rfl, hq, rfl, hs⟩ := hI
    refine w_seq (fun K16 hK15 => ?_)
    refine w_seq (fun K18 hK17 => ?_)
    refine w_region ?_
    refine w_pure want_none (y_move (v := .int _ _) rfl rfl) rfl ?_
    refine w_pure want_none (y_leq rfl rfl rfl rfl) rfl ?_
    refine w_nil ?_
    refine q_then (hK17 _ _ ?_)
    refine w_cond rfl rfl (fun h19 => ?_) (fun h19 => ?_)
    ·
      try simp only [Bool.not_eq_true', Bool.not_eq_false', decide_eq_true_eq, decide_eq_false_iff_not, Int.not_lt, Int.not_le] at h19
      refine w_skip ?_
      refine q_then (hK15 _ _ ?_)
      refine w_seq (fun K21 hK20 => ?_)
      refine w_block ?_
      refine w_region ?_
      refine w_pure want_none (y_move (v := .bool _) rfl rfl) rfl ?_
      refine w_pure want_none (y_move (v := .bool _) rfl rfl) rfl ?_
      refine w_split (fun h22 => ?_) (fun h22 => ?_)
      ·
        try simp only [Bool.not_eq_true', Bool.not_eq_false', decide_eq_true_eq, decide_eq_false_iff_not, Int.not_lt, Int.not_le] at h22
        refine w_skipop rfl rfl rfl ?_
        refine w_skipop rfl rfl rfl ?_
        refine w_skipop rfl rfl rfl ?_
        refine w_skipop rfl rfl rfl ?_
        refine w_pure want_none (y_pickT (v := _) rfl rfl rfl rfl) rfl ?_
        refine w_pure want_none (y_assign (v := .bool _) rfl rfl) rfl ?_
        refine w_nil ?_
        refine q_blk_normal ?_
        refine q_then (hK20 _ _ ?_)
        refine w_region ?_
        refine w_pure want_none (y_move (v := .int _ _) rfl rfl) rfl ?_
        refine w_pure want_none (y_add rfl rfl rfl rfl (by omega) (by omega)) rfl ?_
        refine w_pure want_none (y_assign (v := .int _ _) rfl rfl) rfl ?_
        refine w_nil ?_
        refine q_then (hN12 _ _ (Nx.intro ((11 - start - (q + 1 : Nat)).toNat) (by omega) (by repeat (first | exact agree_mix | refine agree_upd rfl ?_ | refine agree_updL rfl ?_ _ | refine agree_mixin rfl ?_)) ?_))
        exact ⟨q + 1, _, (by rw [canUpto_succ, ← hm]; simp [h19, h22]), cb2 rfl (by omega), by omega, rfl, hs⟩
      ·
        try simp only [Bool.not_eq_true', Bool.not_eq_false', decide_eq_true_eq, decide_eq_false_iff_not, Int.not_lt, Int.not_le] at h22
        refine w_pure (want_yes rfl rfl rfl) (y_loadN (vs := [_, _, _, _, _, _]) Try.isAgg60 Try.sizeOf60 hs rfl rfl (ats_own (i := 0) (vs := [_, _, _, _, _, _]) rfl rfl)) rfl ?_
        refine w_pure (want_yes rfl rfl rfl) (y_move (v := .int _ _) rfl rfl) rfl ?_
        refine w_pure (want_yes rfl rfl rfl) (y_move (v := .int _ _) rfl rfl) rfl ?_
        refine w_call (want_yes rfl rfl rfl) Try.call71 rfl rfl rfl rfl (c71 f _ _ hf (by omega) (by omega) (by omega) (by omega) hs) ?_
        rintro _ w24 ⟨rfl, hs25⟩
        refine w_pure want_none (y_pickF (v := .bool _) rfl rfl rfl rfl) rfl ?_
        refine w_pure want_none (y_assign (v := .bool _) rfl rfl) rfl ?_
        refine w_nil ?_
        refine q_blk_normal ?_
        refine q_then (hK20 _ _ ?_)
        refine w_region ?_
        refine w_pure want_none (y_move (v := .int _ _) rfl rfl) rfl ?_
        refine w_pure want_none (y_add rfl rfl rfl rfl (by omega) (by omega)) rfl ?_
        refine w_pure want_none (y_assign (v := .int _ _) rfl rfl) rfl ?_
        refine w_nil ?_
        refine q_then (hN12 _ _ (Nx.intro ((11 - start - (q + 1 : Nat)).toNat) (by omega) (by repeat (first | exact agree_mix | refine agree_upd rfl ?_ | refine agree_updL rfl ?_ _ | refine agree_mixin rfl ?_)) ?_))
        exact ⟨q + 1, _, (by rw [canUpto_succ, ← hm]; simp [h19, h22]), cb2 rfl (by omega), by omega, rfl, hs25⟩
    ·
      try simp only [Bool.not_eq_true', Bool.not_eq_false', decide_eq_true_eq, decide_eq_false_iff_not, Int.not_lt, Int.not_le] at h19
      refine w_exit ?_
      refine q_then_exit ?_
      refine q_then_exit ?_
      refine q_blk_this ?_
      refine q_then (hK8 _ _ ?_)
      refine w_seq (fun K27 hK26 => ?_)
      refine w_region ?_
      refine w_pure want_none (y_move (v := .bool _) rfl rfl) rfl ?_
      refine w_pure want_none (y_assign (v := .bool _) rfl rfl) rfl ?_
      refine w_nil ?_
      refine q_then (hK26 _ _ ?_)
      refine w_ret ?_
      refine q_ret (l := [.tmp 6]) (vs := [_]) rfl ⟨⟨rfl, show _ = (.bool _ : Value) from rfl⟩, trivial⟩ ?_
      exact ⟨congrArg Value.bool (by rw [← can_late h0, hm, show (11 - start).toNat = q by omega]), hs.tail⟩

theorem c90 {w0 w : World} {F : List (Nat × Obj)} (p : Port) (a : Option Addr) (c : Nat) (ha : Sl w0 F a 6 (rows p.farms)) (hok : p.Ok) (al : Option Addr) (cl : Nat) (l : List Int) (hlen : l.length = p.farms.length) (hl : Sl w0 F al 1 (l.map fun x => [Value.int .i64 x])) (hl1 : ∀ x ∈ l, -1 ≤ x ∧ x ≤ 10) (start : Int) (h0 : 0 ≤ start) (h10 : start ≤ 10) (day : Int) (hd : -100 ≤ day) (hd2 : day ≤ 100) (hs : St w0 w F) :
  Con Try.prog 90 [.agg (p.cells a c).toArray, .slice al l.length cl, .int .i64 start, .int .i64 day] w fun v w' => v = .int .i64 (thenR p l start day) ∧ St w0 w' F := by
  refine con_of_wc (n := 57) Try.func90 rfl rfl (Nat.le_of_ble_eq_true rfl) ?_
  have hlen3 := hok.len
  refine w_seq (fun K2 hK1 => ?_)
  refine w_region ?_
  refine w_box (v := .agg #[.int _ _, .int _ _, .int _ _, .slice _ _ _]) (cs := [_, _, _, _]) want_none rfl rfl rfl hs (fun b3 w4 hs5 => ?_)
  refine w_pure want_none (y_assign (v := _) rfl rfl) rfl ?_
  refine w_nil ?_
  refine q_then (hK1 _ _ ?_)
  refine w_seq (fun K7 hK6 => ?_)
  refine w_region ?_
  refine w_pure want_none (y_loadN (vs := [_, _, _, _]) Try.isAgg26 Try.sizeOf26 hs5 rfl rfl (ats_own (i := 0) (vs := [_, _, _, _]) rfl rfl)) rfl ?_
  refine w_pure want_none (y_move (v := .slice _ _ _) rfl rfl) rfl ?_
  refine w_pure want_none (y_move (v := .int _ _) rfl rfl) rfl ?_
  refine w_call want_none Try.call56 rfl rfl rfl rfl (c56 p _ _ ha.cons hok _ _ l hlen hl.cons hl1 _ (by omega) (by omega) hs5) ?_
  rintro _ w9 ⟨rfl, hs10⟩
  refine w_pure want_none (y_move (v := .tuple _) rfl rfl) rfl ?_
  refine w_pure want_none (y_extract (v := .agg _) rfl rfl rfl) rfl ?_
  refine w_pure want_none (y_extract (v := .int _ _) rfl rfl rfl) rfl ?_
  refine w_alloc (cs := [_, _]) want_none Try.zeroValue23 rfl hs10 (fun b11 w12 hs13 => ?_)
  refine w_store (i := 0) (v := .agg #[.int _ _, .int _ _]) (vs := [_, _]) want_none Try.sizeOf23 rfl rfl rfl rfl rfl (by simp [Value.oneCell']) hs13 rfl (Nat.le_of_ble_eq_true rfl) (fun w14 hs15 => ?_)
  refine w_pure want_none (y_assign (v := .int _ _) rfl rfl) rfl ?_
  refine w_nil ?_
  refine q_then (hK6 _ _ ?_)
  refine w_seq (fun K17 hK16 => ?_)
  refine w_region ?_
  refine w_pure want_none (y_fieldAddr (o := 0) (i := 0) Try.underlying23 rfl Try.sizeOf3 rfl rfl rfl) rfl ?_
  refine w_pure want_none (y_load1 Try.isAgg3 hs15 rfl rfl (ats_own (i := 0) (vs := [_]) rfl rfl)) rfl ?_
  refine w_pure want_none (y_assign (v := .int _ _) rfl rfl) rfl ?_
  refine w_nil ?_
  refine q_then (hK16 _ _ ?_)
  refine w_seq (fun K19 hK18 => ?_)
  refine w_seq (fun K21 hK20 => ?_)
  refine w_region ?_
  refine w_pure want_none (y_assign (v := _) rfl rfl) rfl ?_
  refine w_nil ?_
  refine q_then (hK20 _ _ ?_)
  refine w_block ?_
  refine w_loop [11, 12, 22, 23, 24, 25, 26, 27, 28, 29, 30, 31, 32, 33, 34, 35, 36, 37, 38, 39, 40, 41, 42, 43, 44, 45, 46, 47, 48, 49, 50, 51] [11, 12] (fun kk vs w => ∃ (i : Nat) (x : Int), x = leastUpto p.farms l start day i ∧ vs = [.int .i64 x, .int .i64 i] ∧ i ≤ l.length ∧ kk = l.length - i ∧ St w0 w ((b11, blk 23 [.int .i64 (on p.farms l day).least, .int .i64 (on p.farms l day).most]) :: (b3, blk 26 (p.cells a c)) :: F)) (l.length) ?_ ?_
  ·
    exact ⟨0, _, rfl, rfl, by omega, by omega, hs15⟩
  ·
    intro k vs μ w24 hI K23 hN22
    obtain ⟨i, x, hxx, rfl, hia, rfl, hs⟩ := hI
    refine w_seq (fun K26 hK25 => ?_)
    refine w_seq (fun K28 hK27 => ?_)
    refine w_region ?_
    refine w_pure want_none (y_move (v := .int _ _) rfl rfl) rfl ?_
    refine w_pure want_none (y_move (v := .slice _ _ _) rfl rfl) rfl ?_
    refine w_pure want_none (y_lenS Try.underlying27 rfl rfl) rfl ?_
    refine w_pure want_none (y_lss rfl rfl rfl rfl) rfl ?_
    refine w_nil ?_
    refine q_then (hK27 _ _ ?_)
    refine w_cond rfl rfl (fun h29 => ?_) (fun h29 => ?_)
    ·
      try simp only [Bool.not_eq_true', Bool.not_eq_false', decide_eq_true_eq, decide_eq_false_iff_not, Int.not_lt, Int.not_le] at h29
      refine w_skip ?_
      refine q_then (hK25 _ _ ?_)
      refine w_seq (fun K31 hK30 => ?_)
      refine w_block ?_
      refine w_seq (fun K33 hK32 => ?_)
      have hi2 : i < p.farms.length := by omega
      have hi3 : i < l.length := by omega
      obtain ⟨bx, ox, rfl, hx⟩ := sl_farm ha hi2
      have hfo3 := hok.farm _ (List.getElem_mem hi2)
      have hfo2 := hfo3
      unfold Farm.Ok at hfo2
      obtain ⟨bl, ol, rfl, hxl⟩ := sl_ints hl hi3
      have hgd : l[i] = l.getD i 0 := by simp [List.getD, hi3]
      rw [hgd] at hxl
      have hb := leastUpto_bound (fs := p.farms) (l := l) start day i (by have := hok.len; omega) hok.len hok.farm
      rw [← hxx] at hb
      refine w_region ?_
      refine w_pure want_none (y_move (v := .slice _ _ _) rfl rfl) rfl ?_
      refine w_pure want_none (y_move (v := .int _ _) rfl rfl) rfl ?_
      refine w_pure want_none (y_indexS Try.underlying27 Try.sizeOf3 rfl rfl rfl rfl (i := _) rfl (by omega)) rfl ?_
      refine w_pure want_none (y_load1 Try.isAgg3 hs.tail.tail rfl rfl hxl) rfl ?_
      refine w_pure want_none (y_eql rfl rfl rfl rfl) rfl ?_
      refine w_pure want_none (y_move (v := .bool _) rfl rfl) rfl ?_
      refine w_split (fun h34 => ?_) (fun h34 => ?_)
      ·
        try simp only [Bool.not_eq_true', Bool.not_eq_false', decide_eq_true_eq, decide_eq_false_iff_not, Int.not_lt, Int.not_le] at h34
        refine w_pure (want_yes rfl rfl rfl) (y_fieldAddr (o := 3) (i := 2) Try.underlying26 rfl Try.sizeOf24 rfl rfl rfl) rfl ?_
        refine w_pure (want_yes rfl rfl rfl) (y_load1 Try.isAgg24 hs rfl rfl (ats_own (i := 1) (vs := [_]) rfl rfl)) rfl ?_
        refine w_pure (want_yes rfl rfl rfl) (y_move (v := .int _ _) rfl rfl) rfl ?_
        refine w_pure (want_yes rfl rfl rfl) (y_indexS Try.underlying24 Try.sizeOf60 rfl rfl rfl rfl (i := _) rfl (by omega)) rfl ?_
        refine w_pure (want_yes rfl rfl rfl) (y_loadN (vs := [_, _, _, _, _, _]) Try.isAgg60 Try.sizeOf60 hs.tail.tail rfl rfl hx) rfl ?_
        refine w_pure (want_yes rfl rfl rfl) (y_move (v := .int _ _) rfl rfl) rfl ?_
        refine w_pure (want_yes rfl rfl rfl) (y_move (v := .int _ _) rfl rfl) rfl ?_
        refine w_call (want_yes rfl rfl rfl) Try.call95 rfl rfl rfl rfl (c95 _ hfo3 start day h0 h10 hd hd2 hs) ?_
        rintro _ w36 ⟨rfl, hs37⟩
        refine w_pure want_none (y_pickT (v := .bool _) rfl rfl rfl rfl) rfl ?_
        refine w_nil ?_
        refine q_then (hK32 _ _ ?_)
        refine w_cond rfl rfl (fun h38 => ?_) (fun h38 => ?_)
        ·
          try simp only [Bool.not_eq_true', Bool.not_eq_false', decide_eq_true_eq, decide_eq_false_iff_not, Int.not_lt, Int.not_le] at h38
          refine w_region ?_
          refine w_pure want_none (y_move (v := .int _ _) rfl rfl) rfl ?_
          refine w_pure want_none (y_fieldAddr (o := 3) (i := 2) Try.underlying26 rfl Try.sizeOf24 rfl rfl rfl) rfl ?_
          refine w_pure want_none (y_load1 Try.isAgg24 hs37 rfl rfl (ats_own (i := 1) (vs := [_]) rfl rfl)) rfl ?_
          refine w_pure want_none (y_move (v := .int _ _) rfl rfl) rfl ?_
          refine w_pure want_none (y_indexS Try.underlying24 Try.sizeOf60 rfl rfl rfl rfl (i := _) rfl (by omega)) rfl ?_
          refine w_pure want_none (y_fieldAddr (o := 4) (i := 4) Try.underlying60 rfl Try.sizeOf23 rfl rfl rfl) rfl ?_
          refine w_pure want_none (y_fieldAddr (o := 0) (i := 0) Try.underlying23 rfl Try.sizeOf3 rfl rfl rfl) rfl ?_
          refine w_pure want_none (y_load1 Try.isAgg3 hs37.tail.tail rfl rfl (show Ats _ _ _ _ [_] from Ats.part hx 4 1)) rfl ?_
          refine w_pure want_none (y_add rfl rfl rfl rfl (by omega) (by omega)) rfl ?_
          refine w_pure want_none (y_assign (v := .int _ _) rfl rfl) rfl ?_
          refine w_nil ?_
          refine q_blk_normal ?_
          refine q_then (hK30 _ _ ?_)
          refine w_region ?_
          refine w_pure want_none (y_move (v := .int _ _) rfl rfl) rfl ?_
          refine w_pure want_none (y_add rfl rfl rfl rfl (by omega) (by omega)) rfl ?_
          refine w_pure want_none (y_assign (v := .int _ _) rfl rfl) rfl ?_
          refine w_nil ?_
          refine q_then (hN22 _ _ (Nx.intro (l.length - (i + 1)) (by omega) (by repeat (first | exact agree_mix | refine agree_upd rfl ?_ | refine agree_updL rfl ?_ _ | refine agree_mixin rfl ?_)) ?_))
          first
            | exact ⟨i + 1, x + p.farms[i].lo, (by rw [leastUpto_succ start day hi2 hi3, ← hxx]; exact more_ref (by assumption) (by assumption)), rfl, by omega, rfl, hs37⟩
            | exact ⟨i + 1, x, (by rw [leastUpto_succ start day hi2 hi3, ← hxx]; exact more_ref0 (by assumption)), rfl, by omega, rfl, hs37⟩
            | exact ⟨i + 1, x, (by rw [leastUpto_succ start day hi2 hi3, ← hxx]; exact more_ref1 (by assumption)), rfl, by omega, rfl, hs37⟩
        ·
          try simp only [Bool.not_eq_true', Bool.not_eq_false', decide_eq_true_eq, decide_eq_false_iff_not, Int.not_lt, Int.not_le] at h38
          refine w_skip ?_
          refine q_blk_normal ?_
          refine q_then (hK30 _ _ ?_)
          refine w_region ?_
          refine w_pure want_none (y_move (v := .int _ _) rfl rfl) rfl ?_
          refine w_pure want_none (y_add rfl rfl rfl rfl (by omega) (by omega)) rfl ?_
          refine w_pure want_none (y_assign (v := .int _ _) rfl rfl) rfl ?_
          refine w_nil ?_
          refine q_then (hN22 _ _ (Nx.intro (l.length - (i + 1)) (by omega) (by repeat (first | exact agree_mix | refine agree_upd rfl ?_ | refine agree_updL rfl ?_ _ | refine agree_mixin rfl ?_)) ?_))
          first
            | exact ⟨i + 1, x + p.farms[i].lo, (by rw [leastUpto_succ start day hi2 hi3, ← hxx]; exact more_ref (by assumption) (by assumption)), rfl, by omega, rfl, hs37⟩
            | exact ⟨i + 1, x, (by rw [leastUpto_succ start day hi2 hi3, ← hxx]; exact more_ref0 (by assumption)), rfl, by omega, rfl, hs37⟩
            | exact ⟨i + 1, x, (by rw [leastUpto_succ start day hi2 hi3, ← hxx]; exact more_ref1 (by assumption)), rfl, by omega, rfl, hs37⟩
      ·
        try simp only [Bool.not_eq_true', Bool.not_eq_false', decide_eq_true_eq, decide_eq_false_iff_not, Int.not_lt, Int.not_le] at h34
        refine w_skipop rfl rfl rfl ?_
        refine w_skipop rfl rfl rfl ?_
        refine w_skipop rfl rfl rfl ?_
        refine w_skipop rfl rfl rfl ?_
        refine w_skipop rfl rfl rfl ?_
        refine w_skipop rfl rfl rfl ?_
        refine w_skipop rfl rfl rfl ?_
        refine w_skipop rfl rfl rfl ?_
        refine w_pure want_none (y_pickF (v := _) rfl rfl rfl rfl) rfl ?_
        refine w_nil ?_
        refine q_then (hK32 _ _ ?_)
        refine w_condF rfl rfl ?_
        refine w_skip ?_
        refine q_blk_normal ?_
        refine q_then (hK30 _ _ ?_)
        refine w_region ?_
        refine w_pure want_none (y_move (v := .int _ _) rfl rfl) rfl ?_
        refine w_pure want_none (y_add rfl rfl rfl rfl (by omega) (by omega)) rfl ?_
        refine w_pure want_none (y_assign (v := .int _ _) rfl rfl) rfl ?_
        refine w_nil ?_
        refine q_then (hN22 _ _ (Nx.intro (l.length - (i + 1)) (by omega) (by repeat (first | exact agree_mix | refine agree_upd rfl ?_ | refine agree_updL rfl ?_ _ | refine agree_mixin rfl ?_)) ?_))
        first
          | exact ⟨i + 1, x + p.farms[i].lo, (by rw [leastUpto_succ start day hi2 hi3, ← hxx]; exact more_ref (by assumption) (by assumption)), rfl, by omega, rfl, hs⟩
          | exact ⟨i + 1, x, (by rw [leastUpto_succ start day hi2 hi3, ← hxx]; exact more_ref0 (by assumption)), rfl, by omega, rfl, hs⟩
          | exact ⟨i + 1, x, (by rw [leastUpto_succ start day hi2 hi3, ← hxx]; exact more_ref1 (by assumption)), rfl, by omega, rfl, hs⟩
    ·
      try simp only [Bool.not_eq_true', Bool.not_eq_false', decide_eq_true_eq, decide_eq_false_iff_not, Int.not_lt, Int.not_le] at h29
      refine w_exit ?_
      refine q_then_exit ?_
      refine q_then_exit ?_
      refine q_blk_this ?_
      refine q_then (hK18 _ _ ?_)
      refine w_seq (fun K40 hK39 => ?_)
      refine w_seq (fun K42 hK41 => ?_)
      refine w_region ?_
      refine w_pure want_none (y_move (v := .int _ _) rfl rfl) rfl ?_
      refine w_pure want_none (y_fieldAddr (o := 0) (i := 0) Try.underlying26 rfl Try.sizeOf3 rfl rfl rfl) rfl ?_
      refine w_pure want_none (y_load1 Try.isAgg3 hs rfl rfl (ats_own (i := 1) (vs := [_]) rfl rfl)) rfl ?_
      refine w_pure want_none (y_lss rfl rfl rfl rfl) rfl ?_
      refine w_nil ?_
      refine q_then (hK41 _ _ ?_)
      refine w_cond rfl rfl (fun h43 => ?_) (fun h43 => ?_)
      ·
        try simp only [Bool.not_eq_true', Bool.not_eq_false', decide_eq_true_eq, decide_eq_false_iff_not, Int.not_lt, Int.not_le] at h43
        refine w_seq (fun K45 hK44 => ?_)
        refine w_region ?_
        refine w_pure want_none (y_assign (v := _) rfl rfl) rfl ?_
        refine w_nil ?_
        refine q_then (hK44 _ _ ?_)
        refine w_ret ?_
        refine q_then_ret ?_
        refine q_ret (l := [.tmp 8]) (vs := [_]) rfl ⟨⟨rfl, show _ = (.int _ _ : Value) from rfl⟩, trivial⟩ ?_
        rw [leastUpto_all start day (by omega)] at hxx
        first
          | exact ⟨congrArg (Value.int .i64) (thenR_no hxx (by assumption)), hs.tail.tail⟩
          | exact ⟨congrArg (Value.int .i64) (thenR_yes hxx (by assumption)), hs.tail.tail⟩
      ·
        try simp only [Bool.not_eq_true', Bool.not_eq_false', decide_eq_true_eq, decide_eq_false_iff_not, Int.not_lt, Int.not_le] at h43
        refine w_skip ?_
        refine q_then (hK39 _ _ ?_)
        refine w_seq (fun K47 hK46 => ?_)
        refine w_region ?_
        refine w_pure want_none (y_move (v := .int _ _) rfl rfl) rfl ?_
        refine w_pure want_none (y_assign (v := .int _ _) rfl rfl) rfl ?_
        refine w_nil ?_
        refine q_then (hK46 _ _ ?_)
        refine w_ret ?_
        refine q_ret (l := [.tmp 8]) (vs := [_]) rfl ⟨⟨rfl, show _ = (.int _ _ : Value) from rfl⟩, trivial⟩ ?_
        rw [leastUpto_all start day (by omega)] at hxx
        first
          | exact ⟨congrArg (Value.int .i64) (thenR_no hxx (by assumption)), hs.tail.tail⟩
          | exact ⟨congrArg (Value.int .i64) (thenR_yes hxx (by assumption)), hs.tail.tail⟩

theorem c69 {w0 w : World} {F : List (Nat × Obj)} (p : Port) (a : Option Addr) (c : Nat) (ha : Sl w0 F a 6 (rows p.farms)) (hok : p.Ok) (al : Option Addr) (cl : Nat) (l : List Int) (hlen : l.length = p.farms.length) (hl : Sl w0 F al 1 (l.map fun x => [Value.int .i64 x])) (hl1 : ∀ x ∈ l, -1 ≤ x ∧ x ≤ 10) (start : Int) (h0 : 0 ≤ start) (h10 : start ≤ 10) (hs : St w0 w F) :
  Con Try.prog 69 [.agg (p.cells a c).toArray, .slice al l.length cl, .int .i64 start] w fun v w' => v = .int .i64 (worst p l start) ∧ St w0 w' F := by
  refine con_of_wc (n := 31) Try.func69 rfl rfl (Nat.le_of_ble_eq_true rfl) ?_
  have hcome := hok.come
  refine w_seq (fun K2 hK1 => ?_)
  refine w_region ?_
  refine w_box (v := .agg #[.int _ _, .int _ _, .int _ _, .slice _ _ _]) (cs := [_, _, _, _]) want_none rfl rfl rfl hs (fun b3 w4 hs5 => ?_)
  refine w_pure want_none (y_assign (v := _) rfl rfl) rfl ?_
  refine w_nil ?_
  refine q_then (hK1 _ _ ?_)
  refine w_seq (fun K7 hK6 => ?_)
  refine w_region ?_
  refine w_pure want_none (y_assign (v := _) rfl rfl) rfl ?_
  refine w_nil ?_
  refine q_then (hK6 _ _ ?_)
  refine w_seq (fun K9 hK8 => ?_)
  refine w_seq (fun K11 hK10 => ?_)
  refine w_region ?_
  refine w_pure want_none (y_fieldAddr (o := 1) (i := 1) Try.underlying26 rfl Try.sizeOf23 rfl rfl rfl) rfl ?_
  refine w_pure want_none (y_fieldAddr (o := 0) (i := 0) Try.underlying23 rfl Try.sizeOf3 rfl rfl rfl) rfl ?_
  refine w_pure want_none (y_load1 Try.isAgg3 hs5 rfl rfl (ats_own (i := 0) (vs := [_]) rfl rfl)) rfl ?_
  refine w_pure want_none (y_assign (v := .int _ _) rfl rfl) rfl ?_
  refine w_nil ?_
  refine q_then (hK10 _ _ ?_)
  refine w_block ?_
  refine w_loop [6, 7, 8, 9, 13, 14, 15, 16, 17, 18, 19, 20, 21, 22, 23, 24, 25, 26, 27, 28, 29] [7, 8] (fun kk vs w => ∃ (q : Nat), vs = [.int .i64 (vainUpto p l q), .int .i64 (p.clo + q)] ∧ (q : Int) ≤ p.chi - p.clo + 1 ∧ kk = (p.chi - p.clo + 1 - q).toNat ∧ fullTUpto p l start q = true ∧ St w0 w ((b3, blk 26 (p.cells a c)) :: F)) ((p.chi - p.clo + 1).toNat) ?_ ?_
  ·
    exact ⟨0, iv2 (show (0 : Int) = vainUpto p l 0 from rfl) (by omega), by omega, by simp, by simp [fullTUpto], hs5⟩
  ·
    intro k vs μ w14 hI K13 hN12
    obtain ⟨q, rfl, hq, rfl, hfu, hs⟩ := hI
    refine w_seq (fun K16 hK15 => ?_)
    refine w_seq (fun K18 hK17 => ?_)
    refine w_region ?_
    refine w_pure want_none (y_move (v := .int _ _) rfl rfl) rfl ?_
    refine w_pure want_none (y_fieldAddr (o := 1) (i := 1) Try.underlying26 rfl Try.sizeOf23 rfl rfl rfl) rfl ?_
    refine w_pure want_none (y_fieldAddr (o := 1) (i := 1) Try.underlying23 rfl Try.sizeOf3 rfl rfl rfl) rfl ?_
    refine w_pure want_none (y_load1 Try.isAgg3 hs rfl rfl (ats_own (i := 0) (vs := [_]) rfl rfl)) rfl ?_
    refine w_pure want_none (y_leq rfl rfl rfl rfl) rfl ?_
    refine w_nil ?_
    refine q_then (hK17 _ _ ?_)
    refine w_cond rfl rfl (fun h19 => ?_) (fun h19 => ?_)
    ·
      try simp only [Bool.not_eq_true', Bool.not_eq_false', decide_eq_true_eq, decide_eq_false_iff_not, Int.not_lt, Int.not_le] at h19
      refine w_skip ?_
      refine q_then (hK15 _ _ ?_)
      refine w_seq (fun K21 hK20 => ?_)
      refine w_block ?_
      refine w_seq (fun K23 hK22 => ?_)
      refine w_region ?_
      refine w_pure want_none (y_loadN (vs := [_, _, _, _]) Try.isAgg26 Try.sizeOf26 hs rfl rfl (ats_own (i := 0) (vs := [_, _, _, _]) rfl rfl)) rfl ?_
      refine w_pure want_none (y_move (v := .slice _ _ _) rfl rfl) rfl ?_
      refine w_pure want_none (y_move (v := .int _ _) rfl rfl) rfl ?_
      refine w_pure want_none (y_move (v := .int _ _) rfl rfl) rfl ?_
      refine w_call want_none Try.call90 rfl rfl rfl rfl (c90 p _ _ ha.cons hok _ _ l hlen hl.cons hl1 _ h0 h10 _ (by omega) (by omega) hs) ?_
      rintro _ w25 ⟨rfl, hs26⟩
      refine w_pure want_none (y_assign (v := .int _ _) rfl rfl) rfl ?_
      refine w_nil ?_
      refine q_then (hK22 _ _ ?_)
      refine w_seq (fun K28 hK27 => ?_)
      refine w_seq (fun K30 hK29 => ?_)
      refine w_region ?_
      refine w_pure want_none (y_move (v := .int _ _) rfl rfl) rfl ?_
      refine w_pure want_none (y_lss rfl rfl rfl rfl) rfl ?_
      refine w_nil ?_
      refine q_then (hK29 _ _ ?_)
      refine w_cond rfl rfl (fun h31 => ?_) (fun h31 => ?_)
      ·
        try simp only [Bool.not_eq_true', Bool.not_eq_false', decide_eq_true_eq, decide_eq_false_iff_not, Int.not_lt, Int.not_le] at h31
        refine w_seq (fun K33 hK32 => ?_)
        refine w_region ?_
        refine w_pure want_none (y_assign (v := _) rfl rfl) rfl ?_
        refine w_nil ?_
        refine q_then (hK32 _ _ ?_)
        refine w_ret ?_
        refine q_then_ret ?_
        refine q_blk_ret ?_
        refine q_then_ret ?_
        refine q_then_ret ?_
        refine q_blk_ret ?_
        refine q_then_ret ?_
        refine q_ret (l := [.tmp 6]) (vs := [_]) rfl ⟨⟨rfl, show _ = (.int _ _ : Value) from rfl⟩, trivial⟩ ?_
        first
          | (have htn := thenR_neg hok (g := l) (start := start) (day := p.clo + q) (by omega)
             have hft : fullT p l start = false := fullT_false l start (i := q + 1) (by rw [fullTUpto_succ l start (by omega), hfu, htn]; rfl)
             exact ⟨congrArg (Value.int .i64) (by unfold worst; rw [hft]; rfl), hs26.tail⟩)
          | (rw [fullTUpto_all l start (by omega)] at hfu
             exact ⟨congrArg (Value.int .i64) (by unfold worst; rw [hfu]; exact vainUpto_all l (by omega)), hs26.tail⟩)
      ·
        try simp only [Bool.not_eq_true', Bool.not_eq_false', decide_eq_true_eq, decide_eq_false_iff_not, Int.not_lt, Int.not_le] at h31
        refine w_skip ?_
        refine q_then (hK27 _ _ ?_)
        refine w_region ?_
        refine w_pure want_none (y_move (v := .int _ _) rfl rfl) rfl ?_
        refine w_pure want_none (y_move (v := .int _ _) rfl rfl) rfl ?_
        refine w_pure want_none (y_max2 rfl rfl rfl rfl) rfl ?_
        refine w_pure want_none (y_assign (v := .int _ _) rfl rfl) rfl ?_
        refine w_nil ?_
        refine q_blk_normal ?_
        refine q_then (hK20 _ _ ?_)
        refine w_region ?_
        refine w_pure want_none (y_move (v := .int _ _) rfl rfl) rfl ?_
        refine w_pure want_none (y_add rfl rfl rfl rfl (by omega) (by omega)) rfl ?_
        refine w_pure want_none (y_assign (v := .int _ _) rfl rfl) rfl ?_
        refine w_nil ?_
        refine q_then (hN12 _ _ (Nx.intro ((p.chi - p.clo + 1 - (q + 1 : Nat)).toNat) (by omega) (by repeat (first | exact agree_mix | refine agree_upd rfl ?_ | refine agree_updL rfl ?_ _ | refine agree_mixin rfl ?_)) ?_))
        have htp := thenR_pos (p := p) (g := l) (start := start) (day := p.clo + q) (by omega)
        exact ⟨q + 1, iv2 (by rw [htp.2]; exact (vainUpto_succ l (by omega)).symm) (by omega), by omega, rfl, by rw [fullTUpto_succ l start (by omega), hfu, htp.1]; rfl, hs26⟩
    ·
      try simp only [Bool.not_eq_true', Bool.not_eq_false', decide_eq_true_eq, decide_eq_false_iff_not, Int.not_lt, Int.not_le] at h19
      refine w_exit ?_
      refine q_then_exit ?_
      refine q_then_exit ?_
      refine q_blk_this ?_
      refine q_then (hK8 _ _ ?_)
      refine w_seq (fun K35 hK34 => ?_)
      refine w_region ?_
      refine w_pure want_none (y_move (v := .int _ _) rfl rfl) rfl ?_
      refine w_pure want_none (y_assign (v := .int _ _) rfl rfl) rfl ?_
      refine w_nil ?_
      refine q_then (hK34 _ _ ?_)
      refine w_ret ?_
      refine q_ret (l := [.tmp 6]) (vs := [_]) rfl ⟨⟨rfl, show _ = (.int _ _ : Value) from rfl⟩, trivial⟩ ?_
      first
        | (have htn := thenR_neg hok (g := l) (start := start) (day := p.clo + q) (by omega)
           have hft : fullT p l start = false := fullT_false l start (i := q + 1) (by rw [fullTUpto_succ l start (by omega), hfu, htn]; rfl)
           exact ⟨congrArg (Value.int .i64) (by unfold worst; rw [hft]; rfl), hs.tail⟩)
        | (rw [fullTUpto_all l start (by omega)] at hfu
           exact ⟨congrArg (Value.int .i64) (by unfold worst; rw [hfu]; exact vainUpto_all l (by omega)), hs.tail⟩)

theorem rtold_e2 {p : Port} {z : Int} (h : (check p).2.2 = 0) (h2 : ¬ (0 ≤ z ∧ z ≤ 10)) : toldD p z = 0 ∧ toldE p z = 7 := told_e2 h (by simp [in_out.1 h2])
theorem rtold_d {z : Int} (h2 : 0 ≤ z ∧ z ≤ 10) : ∃ d : Nat, z = d ∧ d ≤ 10 ∧ out 0 10 z = false := told_d (by simp [(out_iff _ _ _).2 h2])
theorem rtold_step {p : Port} (hok : p.Ok) {d i : Nat} (hi : i < (allC d p.farms.length).length) : toldUpto p d (i + 1) = if 0 ≤ worst p (allC d p.farms.length)[i] d ∧ (toldUpto p d i < 0 ∨ worst p (allC d p.farms.length)[i] d < toldUpto p d i) then worst p (allC d p.farms.length)[i] d else toldUpto p d i := by
  rw [toldUpto_succ (by simpa using hi), List.getElem_map]
  unfold toldStep
  rw [worst_pad _ (all_len2 hi) hok.len]
theorem c34 {w0 w : World} {F : List (Nat × Obj)} (p : Port) (a : Option Addr) (c : Nat) (hl3 : p.farms.length ≤ 9223372036854775807) (hc : p.farms.length ≤ c) (ha : Sl w0 F a 6 (rows p.farms)) (hnm : ∀ f ∈ p.farms, f.name.size ≤ 9223372036854775807) (z : Int) (hs : St w0 w F) :
  Con Try.prog 34 [.agg (p.cells a c).toArray, .int .i64 z] w fun v w' => v = .tuple #[.int .i64 (toldD p z), .int .i64 (toldE p z)] ∧ St w0 w' F := by
  refine con_of_wc (n := 63) Try.func34 rfl rfl (Nat.le_of_ble_eq_true rfl) ?_
  refine w_seq (fun K2 hK1 => ?_)
  refine w_region ?_
  refine w_box (v := .agg #[.int _ _, .int _ _, .int _ _, .slice _ _ _]) (cs := [_, _, _, _]) want_none rfl rfl rfl hs (fun b3 w4 hs5 => ?_)
  refine w_pure want_none (y_assign (v := _) rfl rfl) rfl ?_
  refine w_pure want_none (y_assign (v := _) rfl rfl) rfl ?_
  refine w_nil ?_
  refine q_then (hK1 _ _ ?_)
  refine w_seq (fun K7 hK6 => ?_)
  refine w_region ?_
  refine w_pure want_none (y_loadN (vs := [_, _, _, _]) Try.isAgg26 Try.sizeOf26 hs5 rfl rfl (ats_own (i := 0) (vs := [_, _, _, _]) rfl rfl)) rfl ?_
  refine w_call want_none Try.call17 rfl rfl rfl rfl (c17 p _ _ (by omega) (by omega) ha.cons hnm hs5) ?_
  rintro _ w9 ⟨rfl, hs10⟩
  refine w_pure want_none (y_move (v := .tuple _) rfl rfl) rfl ?_
  refine w_pure want_none (y_extract (v := .int _ _) rfl rfl rfl) rfl ?_
  refine w_pure want_none (y_extract (v := .int _ _) rfl rfl rfl) rfl ?_
  refine w_pure want_none (y_extract (v := .int _ _) rfl rfl rfl) rfl ?_
  refine w_pure want_none (y_assign (v := .int _ _) rfl rfl) rfl ?_
  refine w_pure want_none (y_assign (v := .int _ _) rfl rfl) rfl ?_
  refine w_pure want_none (y_assign (v := .int _ _) rfl rfl) rfl ?_
  refine w_nil ?_
  refine q_then (hK6 _ _ ?_)
  refine w_seq (fun K12 hK11 => ?_)
  refine w_seq (fun K14 hK13 => ?_)
  refine w_region ?_
  refine w_pure want_none (y_move (v := .int _ _) rfl rfl) rfl ?_
  refine w_pure want_none (y_eql rfl rfl rfl rfl) rfl ?_
  refine w_pure want_none (y_move (v := .bool _) rfl rfl) rfl ?_
  refine w_split (fun h15 => ?_) (fun h15 => ?_)
  ·
    try simp only [Bool.not_eq_true', Bool.not_eq_false', decide_eq_true_eq, decide_eq_false_iff_not, Int.not_lt, Int.not_le] at h15
    refine w_pure (want_yes rfl rfl rfl) (y_move (v := .int _ _) rfl rfl) rfl ?_
    refine w_call (want_yes rfl rfl rfl) Try.call45 rfl rfl rfl rfl (c45 _ _ _ hs10) ?_
    rintro _ w17 ⟨rfl, hs18⟩
    refine w_pure (want_yes rfl rfl rfl) (y_not rfl rfl) rfl ?_
    refine w_pure want_none (y_pickT (v := .bool _) rfl rfl rfl rfl) rfl ?_
    refine w_nil ?_
    refine q_then (hK13 _ _ ?_)
    refine w_cond rfl rfl (fun h19 => ?_) (fun h19 => ?_)
    ·
      try simp only [Bool.not_eq_true', Bool.not_eq_false', decide_eq_true_eq, decide_eq_false_iff_not, Int.not_lt, Int.not_le] at h19
      refine w_region ?_
      refine w_pure want_none (y_assign (v := _) rfl rfl) rfl ?_
      refine w_nil ?_
      refine q_then (hK11 _ _ ?_)
      refine w_seq (fun K21 hK20 => ?_)
      refine w_seq (fun K23 hK22 => ?_)
      refine w_region ?_
      refine w_pure want_none (y_move (v := .int _ _) rfl rfl) rfl ?_
      refine w_pure want_none (y_neq rfl rfl rfl rfl) rfl ?_
      refine w_nil ?_
      refine q_then (hK22 _ _ ?_)
      refine w_condT rfl rfl ?_
      refine w_seq (fun K25 hK24 => ?_)
      refine w_region ?_
      refine w_pure want_none (y_move (v := .int _ _) rfl rfl) rfl ?_
      refine w_pure want_none (y_assign (v := _) rfl rfl) rfl ?_
      refine w_pure want_none (y_assign (v := .int _ _) rfl rfl) rfl ?_
      refine w_nil ?_
      refine q_then (hK24 _ _ ?_)
      refine w_ret ?_
      refine q_then_ret ?_
      refine q_ret (l := [.tmp 4, .tmp 5]) (vs := [_, _]) rfl ⟨⟨rfl, show _ = (.int _ _ : Value) from rfl⟩, ⟨rfl, show _ = (.int _ _ : Value) from rfl⟩, trivial⟩ ?_
      first
        | (obtain ⟨e1, e2⟩ := told_e1 (p := p) (z := z) (by assumption); rw [e1, e2]; exact ⟨rfl, hs18.tail⟩)
        | (obtain ⟨e1, e2⟩ := rtold_e2 (p := p) (z := z) (by assumption) (by assumption); rw [e1, e2]; exact ⟨rfl, hs18.tail⟩)
        | (have hall := toldUpto_all (p := p) (d := d) (i := i) (by simp; omega); obtain ⟨e1, e2⟩ := told_e3 (p := p) (d := d) (by assumption) hdo (by omega); rw [e1, e2]; exact ⟨rfl, hs18.tail⟩)
        | (have hall := toldUpto_all (p := p) (d := d) (i := i) (by simp; omega); obtain ⟨e1, e2⟩ := told_ok (p := p) (d := d) (by assumption) hdo (by omega); rw [e1, e2, ← hall]; exact ⟨rfl, hs18.tail⟩)
    ·
      try simp only [Bool.not_eq_true', Bool.not_eq_false', decide_eq_true_eq, decide_eq_false_iff_not, Int.not_lt, Int.not_le] at h19
      refine w_skip ?_
      refine q_then (hK11 _ _ ?_)
      refine w_seq (fun K27 hK26 => ?_)
      refine w_seq (fun K29 hK28 => ?_)
      refine w_region ?_
      refine w_pure want_none (y_move (v := .int _ _) rfl rfl) rfl ?_
      refine w_pure want_none (y_neq rfl rfl rfl rfl) rfl ?_
      refine w_nil ?_
      refine q_then (hK28 _ _ ?_)
      refine w_cond rfl rfl (fun h30 => ?_) (fun h30 => ?_)
      ·
        try simp only [Bool.not_eq_true', Bool.not_eq_false', decide_eq_true_eq, decide_eq_false_iff_not, Int.not_lt, Int.not_le] at h30
        contradiction
      ·
        try simp only [Bool.not_eq_true', Bool.not_eq_false', decide_eq_true_eq, decide_eq_false_iff_not, Int.not_lt, Int.not_le] at h30
        refine w_skip ?_
        refine q_then (hK26 _ _ ?_)
        refine w_seq (fun K32 hK31 => ?_)
        obtain ⟨d, rfl, hd10, hdo⟩ := rtold_d (z := z) (by assumption)
        have hok := check_ok (by assumption)
        have hlen3 := hok.len
        have hsm := all_small d p.farms.length (by omega) hlen3
        refine w_region ?_
        refine w_pure want_none (y_fieldAddr (o := 3) (i := 2) Try.underlying26 rfl Try.sizeOf24 rfl rfl rfl) rfl ?_
        refine w_pure want_none (y_load1 Try.isAgg24 hs18 rfl rfl (ats_own (i := 0) (vs := [_]) rfl rfl)) rfl ?_
        refine w_pure want_none (y_lenS Try.underlying24 rfl rfl) rfl ?_
        refine w_pure want_none (y_move (v := .int _ _) rfl rfl) rfl ?_
        refine w_pure want_none (y_sub rfl rfl rfl rfl (by omega) (by omega)) rfl ?_
        refine w_call want_none Try.call68 rfl rfl rfl rfl (all_call p.farms.length _ hlen3 d (by omega) rfl hs18) ?_
        rintro _ w34 ⟨BA, vd, ad, cd, rfl, hsd, hed, hs35⟩
        replace hs35 := (show St _ _ (BA ++ (_ :: F)) from hs35)
        have hbx : Ats w0 ((b3, blk 26 (p.cells a c)) :: F) b3 0 (p.cells a c) := ats_own (i := 0) (vs := p.cells a c) rfl rfl
        refine w_pure want_none (y_assign (v := .slice _ _ _) rfl rfl) rfl ?_
        refine w_nil ?_
        refine q_then (hK31 _ _ ?_)
        refine w_seq (fun K37 hK36 => ?_)
        refine w_region ?_
        refine w_pure want_none (y_assign (v := _) rfl rfl) rfl ?_
        refine w_nil ?_
        refine q_then (hK36 _ _ ?_)
        refine w_seq (fun K39 hK38 => ?_)
        refine w_seq (fun K41 hK40 => ?_)
        refine w_region ?_
        refine w_pure want_none (y_assign (v := _) rfl rfl) rfl ?_
        refine w_nil ?_
        refine q_then (hK40 _ _ ?_)
        refine w_block ?_
        refine w_loop [10, 11, 12, 35, 36, 37, 38, 39, 40, 41, 42, 43, 44, 45, 46, 47, 48, 49, 50, 51, 52, 53, 54, 55, 56, 57, 58, 59] [10, 11] (fun kk vs0 w => ∃ (i : Nat), vs0 = [.int .i64 (toldUpto p d i), .int .i64 i] ∧ i ≤ (allC d p.farms.length).length ∧ kk = (allC d p.farms.length).length - i ∧ St w0 w (BA ++ ((b3, blk 26 (p.cells a c)) :: F))) ((allC d p.farms.length).length) ?_ ?_
        ·
          exact ⟨0, rfl, by omega, by omega, hs35⟩
        ·
          intro k vs μ w44 hI K43 hN42
          obtain ⟨i, rfl, hia, rfl, hs⟩ := hI
          refine w_seq (fun K46 hK45 => ?_)
          refine w_seq (fun K48 hK47 => ?_)
          refine w_region ?_
          refine w_pure want_none (y_move (v := .int _ _) rfl rfl) rfl ?_
          refine w_pure want_none (y_move (v := .slice _ _ _) rfl rfl) rfl ?_
          refine w_pure want_none (y_lenS Try.underlying62 rfl rfl) rfl ?_
          refine w_pure want_none (y_lss rfl rfl rfl rfl) rfl ?_
          refine w_nil ?_
          refine q_then (hK47 _ _ ?_)
          refine w_cond rfl rfl (fun h49 => ?_) (fun h49 => ?_)
          ·
            try simp only [Bool.not_eq_true', Bool.not_eq_false', decide_eq_true_eq, decide_eq_false_iff_not, Int.not_lt, Int.not_le] at h49
            refine w_skip ?_
            refine q_then (hK45 _ _ ?_)
            refine w_seq (fun K51 hK50 => ?_)
            refine w_block ?_
            refine w_seq (fun K53 hK52 => ?_)
            have hi2 : i < (allC d p.farms.length).length := by omega
            obtain ⟨bx2, ox2, b3, c3, rfl, hy, hsy, hny⟩ := el_at hsd hed hi2
            refine w_draw [] [(0, 1), (1, 0), (2, 0), (3, 0), (4, 1), (5, 0), (6, 2), (7, 0)] Try_mo (by kernel_rfl) hs (fun w54 hs55 => ?_)
            refine d_take rfl want_none rfl hs55 (fun _ hq => (y_loadN (vs := [_, _, _, _]) Try.isAgg26 Try.sizeOf26 hq.drop rfl rfl hbx)) ?_
            refine d_any rfl want_none rfl (fun _ => (y_move (v := .slice _ _ _) rfl rfl)) ?_
            refine d_any rfl want_none rfl (fun _ => (y_move (v := .int _ _) rfl rfl)) ?_
            refine d_any rfl want_none rfl (fun _ => (y_indexS Try.underlying62 Try.sizeOf27 rfl rfl rfl rfl (i := _) rfl (by omega))) ?_
            refine d_take rfl want_none rfl hs55 (fun _ hq => (y_load1 Try.isAgg27 hq rfl rfl hy)) ?_
            refine d_any rfl want_none rfl (fun _ => (y_move (v := .int _ _) rfl rfl)) ?_
            refine d_eff rfl ?_
            refine w_call want_none Try.call69 rfl rfl rfl rfl (c69 p _ _ ha.cons.app hok _ _ ((allC d p.farms.length)[i]'hi2) (all_len2 hi2) hsy (fun y hy => by have := all_in (List.getElem_mem hi2) y hy; omega) _ (by omega) (by omega) hs55) ?_
            rintro _ w57 ⟨rfl, hs58⟩
            refine w_nil ?_
            refine qn ⟨hs58, ?_⟩
            refine d_any rfl want_none rfl (fun _ => (y_assign (v := .int _ _) rfl rfl)) ?_
            refine d_nil ?_
            refine q_then (hK52 _ _ ?_)
            refine w_seq (fun K60 hK59 => ?_)
            refine w_region ?_
            refine w_pure want_none (y_move (v := .int _ _) rfl rfl) rfl ?_
            refine w_pure want_none (y_geq rfl rfl rfl rfl) rfl ?_
            refine w_pure want_none (y_move (v := .bool _) rfl rfl) rfl ?_
            refine w_split (fun h61 => ?_) (fun h61 => ?_)
            ·
              try simp only [Bool.not_eq_true', Bool.not_eq_false', decide_eq_true_eq, decide_eq_false_iff_not, Int.not_lt, Int.not_le] at h61
              refine w_pure (want_yes rfl rfl rfl) (y_move (v := .int _ _) rfl rfl) rfl ?_
              refine w_pure (want_yes rfl rfl rfl) (y_lss rfl rfl rfl rfl) rfl ?_
              refine w_pure (want_yes rfl rfl rfl) (y_move (v := .bool _) rfl rfl) rfl ?_
              refine w_split (fun h62 => ?_) (fun h62 => ?_)
              ·
                try simp only [Bool.not_eq_true', Bool.not_eq_false', decide_eq_true_eq, decide_eq_false_iff_not, Int.not_lt, Int.not_le] at h62
                refine w_skipop rfl rfl rfl ?_
                refine w_skipop rfl rfl rfl ?_
                refine w_skipop rfl rfl rfl ?_
                refine w_pure (want_yes rfl rfl rfl) (y_pickT (v := _) rfl rfl rfl rfl) rfl ?_
                refine w_pure want_none (y_pickT (v := .bool _) rfl rfl rfl rfl) rfl ?_
                refine w_nil ?_
                refine q_then (hK59 _ _ ?_)
                refine w_condT rfl rfl ?_
                refine w_region ?_
                refine w_pure want_none (y_move (v := .int _ _) rfl rfl) rfl ?_
                refine w_pure want_none (y_assign (v := .int _ _) rfl rfl) rfl ?_
                refine w_nil ?_
                refine q_blk_normal ?_
                refine q_then (hK50 _ _ ?_)
                refine w_region ?_
                refine w_pure want_none (y_move (v := .int _ _) rfl rfl) rfl ?_
                refine w_pure want_none (y_add rfl rfl rfl rfl (by omega) (by omega)) rfl ?_
                refine w_pure want_none (y_assign (v := .int _ _) rfl rfl) rfl ?_
                refine w_nil ?_
                refine q_then (hN42 _ _ (Nx.intro ((allC d p.farms.length).length - (i + 1)) (by omega) (by repeat (first | exact agree_mix | refine agree_upd rfl ?_ | refine agree_updL rfl ?_ _ | refine agree_mixin rfl ?_)) ?_))
                first
                  | exact ⟨i + 1, iv2 (by rw [rtold_step hok hi2, if_pos (by omega)]) rfl, by omega, rfl, hs58⟩
                  | exact ⟨i + 1, iv2 (by rw [rtold_step hok hi2, if_neg (by omega)]) rfl, by omega, rfl, hs58⟩
              ·
                try simp only [Bool.not_eq_true', Bool.not_eq_false', decide_eq_true_eq, decide_eq_false_iff_not, Int.not_lt, Int.not_le] at h62
                refine w_pure (want_yes rfl rfl rfl) (y_move (v := .int _ _) rfl rfl) rfl ?_
                refine w_pure (want_yes rfl rfl rfl) (y_move (v := .int _ _) rfl rfl) rfl ?_
                refine w_pure (want_yes rfl rfl rfl) (y_lss rfl rfl rfl rfl) rfl ?_
                refine w_pure (want_yes rfl rfl rfl) (y_pickF (v := .bool _) rfl rfl rfl rfl) rfl ?_
                refine w_pure want_none (y_pickT (v := .bool _) rfl rfl rfl rfl) rfl ?_
                refine w_nil ?_
                refine q_then (hK59 _ _ ?_)
                refine w_cond rfl rfl (fun h63 => ?_) (fun h63 => ?_)
                ·
                  try simp only [Bool.not_eq_true', Bool.not_eq_false', decide_eq_true_eq, decide_eq_false_iff_not, Int.not_lt, Int.not_le] at h63
                  refine w_region ?_
                  refine w_pure want_none (y_move (v := .int _ _) rfl rfl) rfl ?_
                  refine w_pure want_none (y_assign (v := .int _ _) rfl rfl) rfl ?_
                  refine w_nil ?_
                  refine q_blk_normal ?_
                  refine q_then (hK50 _ _ ?_)
                  refine w_region ?_
                  refine w_pure want_none (y_move (v := .int _ _) rfl rfl) rfl ?_
                  refine w_pure want_none (y_add rfl rfl rfl rfl (by omega) (by omega)) rfl ?_
                  refine w_pure want_none (y_assign (v := .int _ _) rfl rfl) rfl ?_
                  refine w_nil ?_
                  refine q_then (hN42 _ _ (Nx.intro ((allC d p.farms.length).length - (i + 1)) (by omega) (by repeat (first | exact agree_mix | refine agree_upd rfl ?_ | refine agree_updL rfl ?_ _ | refine agree_mixin rfl ?_)) ?_))
                  first
                    | exact ⟨i + 1, iv2 (by rw [rtold_step hok hi2, if_pos (by omega)]) rfl, by omega, rfl, hs58⟩
                    | exact ⟨i + 1, iv2 (by rw [rtold_step hok hi2, if_neg (by omega)]) rfl, by omega, rfl, hs58⟩
                ·
                  try simp only [Bool.not_eq_true', Bool.not_eq_false', decide_eq_true_eq, decide_eq_false_iff_not, Int.not_lt, Int.not_le] at h63
                  refine w_skip ?_
                  refine q_blk_normal ?_
                  refine q_then (hK50 _ _ ?_)
                  refine w_region ?_
                  refine w_pure want_none (y_move (v := .int _ _) rfl rfl) rfl ?_
                  refine w_pure want_none (y_add rfl rfl rfl rfl (by omega) (by omega)) rfl ?_
                  refine w_pure want_none (y_assign (v := .int _ _) rfl rfl) rfl ?_
                  refine w_nil ?_
                  refine q_then (hN42 _ _ (Nx.intro ((allC d p.farms.length).length - (i + 1)) (by omega) (by repeat (first | exact agree_mix | refine agree_upd rfl ?_ | refine agree_updL rfl ?_ _ | refine agree_mixin rfl ?_)) ?_))
                  first
                    | exact ⟨i + 1, iv2 (by rw [rtold_step hok hi2, if_pos (by omega)]) rfl, by omega, rfl, hs58⟩
                    | exact ⟨i + 1, iv2 (by rw [rtold_step hok hi2, if_neg (by omega)]) rfl, by omega, rfl, hs58⟩
            ·
              try simp only [Bool.not_eq_true', Bool.not_eq_false', decide_eq_true_eq, decide_eq_false_iff_not, Int.not_lt, Int.not_le] at h61
              refine w_skipop rfl rfl rfl ?_
              refine w_skipop rfl rfl rfl ?_
              refine w_skipop rfl rfl rfl ?_
              refine w_skipop' rfl rfl rfl ?_
              refine w_skipop' rfl rfl rfl ?_
              refine w_skipop' rfl rfl rfl ?_
              refine w_skipop rfl rfl rfl ?_
              refine w_pure want_none (y_pickF (v := _) rfl rfl rfl rfl) rfl ?_
              refine w_nil ?_
              refine q_then (hK59 _ _ ?_)
              refine w_condF rfl rfl ?_
              refine w_skip ?_
              refine q_blk_normal ?_
              refine q_then (hK50 _ _ ?_)
              refine w_region ?_
              refine w_pure want_none (y_move (v := .int _ _) rfl rfl) rfl ?_
              refine w_pure want_none (y_add rfl rfl rfl rfl (by omega) (by omega)) rfl ?_
              refine w_pure want_none (y_assign (v := .int _ _) rfl rfl) rfl ?_
              refine w_nil ?_
              refine q_then (hN42 _ _ (Nx.intro ((allC d p.farms.length).length - (i + 1)) (by omega) (by repeat (first | exact agree_mix | refine agree_upd rfl ?_ | refine agree_updL rfl ?_ _ | refine agree_mixin rfl ?_)) ?_))
              first
                | exact ⟨i + 1, iv2 (by rw [rtold_step hok hi2, if_pos (by omega)]) rfl, by omega, rfl, hs58⟩
                | exact ⟨i + 1, iv2 (by rw [rtold_step hok hi2, if_neg (by omega)]) rfl, by omega, rfl, hs58⟩
          ·
            try simp only [Bool.not_eq_true', Bool.not_eq_false', decide_eq_true_eq, decide_eq_false_iff_not, Int.not_lt, Int.not_le] at h49
            refine w_exit ?_
            refine q_then_exit ?_
            refine q_then_exit ?_
            refine q_blk_this ?_
            refine q_then (hK38 _ _ ?_)
            refine w_seq (fun K65 hK64 => ?_)
            refine w_seq (fun K67 hK66 => ?_)
            refine w_region ?_
            refine w_pure want_none (y_move (v := .int _ _) rfl rfl) rfl ?_
            refine w_pure want_none (y_lss rfl rfl rfl rfl) rfl ?_
            refine w_nil ?_
            refine q_then (hK66 _ _ ?_)
            refine w_cond rfl rfl (fun h68 => ?_) (fun h68 => ?_)
            ·
              try simp only [Bool.not_eq_true', Bool.not_eq_false', decide_eq_true_eq, decide_eq_false_iff_not, Int.not_lt, Int.not_le] at h68
              refine w_seq (fun K70 hK69 => ?_)
              refine w_region ?_
              refine w_pure want_none (y_assign (v := _) rfl rfl) rfl ?_
              refine w_pure want_none (y_assign (v := _) rfl rfl) rfl ?_
              refine w_nil ?_
              refine q_then (hK69 _ _ ?_)
              refine w_ret ?_
              refine q_then_ret ?_
              refine q_ret (l := [.tmp 4, .tmp 5]) (vs := [_, _]) rfl ⟨⟨rfl, show _ = (.int _ _ : Value) from rfl⟩, ⟨rfl, show _ = (.int _ _ : Value) from rfl⟩, trivial⟩ ?_
              first
                | (obtain ⟨e1, e2⟩ := told_e1 (p := p) (z := z) (by assumption); rw [e1, e2]; exact ⟨rfl, hs.drop.tail⟩)
                | (obtain ⟨e1, e2⟩ := rtold_e2 (p := p) (z := z) (by assumption) (by assumption); rw [e1, e2]; exact ⟨rfl, hs.drop.tail⟩)
                | (have hall := toldUpto_all (p := p) (d := d) (i := i) (by simp; omega); obtain ⟨e1, e2⟩ := told_e3 (p := p) (d := d) (by assumption) hdo (by omega); rw [e1, e2]; exact ⟨rfl, hs.drop.tail⟩)
                | (have hall := toldUpto_all (p := p) (d := d) (i := i) (by simp; omega); obtain ⟨e1, e2⟩ := told_ok (p := p) (d := d) (by assumption) hdo (by omega); rw [e1, e2, ← hall]; exact ⟨rfl, hs.drop.tail⟩)
            ·
              try simp only [Bool.not_eq_true', Bool.not_eq_false', decide_eq_true_eq, decide_eq_false_iff_not, Int.not_lt, Int.not_le] at h68
              refine w_skip ?_
              refine q_then (hK64 _ _ ?_)
              refine w_seq (fun K72 hK71 => ?_)
              refine w_region ?_
              refine w_pure want_none (y_move (v := .int _ _) rfl rfl) rfl ?_
              refine w_pure want_none (y_assign (v := .int _ _) rfl rfl) rfl ?_
              refine w_pure want_none (y_assign (v := _) rfl rfl) rfl ?_
              refine w_nil ?_
              refine q_then (hK71 _ _ ?_)
              refine w_ret ?_
              refine q_ret (l := [.tmp 4, .tmp 5]) (vs := [_, _]) rfl ⟨⟨rfl, show _ = (.int _ _ : Value) from rfl⟩, ⟨rfl, show _ = (.int _ _ : Value) from rfl⟩, trivial⟩ ?_
              first
                | (obtain ⟨e1, e2⟩ := told_e1 (p := p) (z := z) (by assumption); rw [e1, e2]; exact ⟨rfl, hs.drop.tail⟩)
                | (obtain ⟨e1, e2⟩ := rtold_e2 (p := p) (z := z) (by assumption) (by assumption); rw [e1, e2]; exact ⟨rfl, hs.drop.tail⟩)
                | (have hall := toldUpto_all (p := p) (d := d) (i := i) (by simp; omega); obtain ⟨e1, e2⟩ := told_e3 (p := p) (d := d) (by assumption) hdo (by omega); rw [e1, e2]; exact ⟨rfl, hs.drop.tail⟩)
                | (have hall := toldUpto_all (p := p) (d := d) (i := i) (by simp; omega); obtain ⟨e1, e2⟩ := told_ok (p := p) (d := d) (by assumption) hdo (by omega); rw [e1, e2, ← hall]; exact ⟨rfl, hs.drop.tail⟩)
  ·
    try simp only [Bool.not_eq_true', Bool.not_eq_false', decide_eq_true_eq, decide_eq_false_iff_not, Int.not_lt, Int.not_le] at h15
    refine w_skipop rfl rfl rfl ?_
    refine w_skipop rfl rfl rfl ?_
    refine w_skipop rfl rfl rfl ?_
    refine w_pure want_none (y_pickF (v := _) rfl rfl rfl rfl) rfl ?_
    refine w_nil ?_
    refine q_then (hK13 _ _ ?_)
    refine w_condF rfl rfl ?_
    refine w_skip ?_
    refine q_then (hK11 _ _ ?_)
    refine w_seq (fun K74 hK73 => ?_)
    refine w_seq (fun K76 hK75 => ?_)
    refine w_region ?_
    refine w_pure want_none (y_move (v := .int _ _) rfl rfl) rfl ?_
    refine w_pure want_none (y_neq rfl rfl rfl rfl) rfl ?_
    refine w_nil ?_
    refine q_then (hK75 _ _ ?_)
    refine w_cond rfl rfl (fun h77 => ?_) (fun h77 => ?_)
    ·
      try simp only [Bool.not_eq_true', Bool.not_eq_false', decide_eq_true_eq, decide_eq_false_iff_not, Int.not_lt, Int.not_le] at h77
      refine w_seq (fun K79 hK78 => ?_)
      refine w_region ?_
      refine w_pure want_none (y_move (v := .int _ _) rfl rfl) rfl ?_
      refine w_pure want_none (y_assign (v := _) rfl rfl) rfl ?_
      refine w_pure want_none (y_assign (v := .int _ _) rfl rfl) rfl ?_
      refine w_nil ?_
      refine q_then (hK78 _ _ ?_)
      refine w_ret ?_
      refine q_then_ret ?_
      refine q_ret (l := [.tmp 4, .tmp 5]) (vs := [_, _]) rfl ⟨⟨rfl, show _ = (.int _ _ : Value) from rfl⟩, ⟨rfl, show _ = (.int _ _ : Value) from rfl⟩, trivial⟩ ?_
      first
        | (obtain ⟨e1, e2⟩ := told_e1 (p := p) (z := z) (by assumption); rw [e1, e2]; exact ⟨rfl, hs10.tail⟩)
        | (obtain ⟨e1, e2⟩ := rtold_e2 (p := p) (z := z) (by assumption) (by assumption); rw [e1, e2]; exact ⟨rfl, hs10.tail⟩)
        | (have hall := toldUpto_all (p := p) (d := d) (i := i) (by simp; omega); obtain ⟨e1, e2⟩ := told_e3 (p := p) (d := d) (by assumption) hdo (by omega); rw [e1, e2]; exact ⟨rfl, hs10.tail⟩)
        | (have hall := toldUpto_all (p := p) (d := d) (i := i) (by simp; omega); obtain ⟨e1, e2⟩ := told_ok (p := p) (d := d) (by assumption) hdo (by omega); rw [e1, e2, ← hall]; exact ⟨rfl, hs10.tail⟩)
    ·
      try simp only [Bool.not_eq_true', Bool.not_eq_false', decide_eq_true_eq, decide_eq_false_iff_not, Int.not_lt, Int.not_le] at h77
      contradiction

end Go.Proofs
