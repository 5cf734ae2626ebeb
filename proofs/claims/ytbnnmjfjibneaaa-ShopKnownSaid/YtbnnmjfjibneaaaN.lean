/- Walks of this seat, printed by gen.py over the engine: what each function returns, in whatever world. No conditions but those of each contract. -/
import Derived.Test.YtbnnmjfjibneaaaM
set_option linter.unusedVariables false
set_option linter.unusedSimpArgs false
set_option maxRecDepth 20000
namespace Go.Proofs
open Go.Rt Go.Rt.Sh
attribute [local irreducible] WL WC Con Yd At Ats Sl Agree DW
theorem Try_N_fb4 (x0 : ByteArray) (w : World) : (Instr.buildSlice 73 1 [(0, .string x0)].toArray).run Try.prog w = .ok (.slice (some ⟨w.heap.size, 0, none⟩) 1 1) (w.alloc (Go.Rt.blk 9 [.string x0])) := by kernel_rfl
theorem ends_cases (a b lo hi : Int) : (ends a b lo hi = 7 ∧ (out lo hi a || out lo hi b) = true) ∨ (ends a b lo hi = 2 ∧ (out lo hi a || out lo hi b) = false ∧ b < a) ∨ (ends a b lo hi = 0 ∧ (out lo hi a || out lo hi b) = false ∧ ¬ b < a) := by
  unfold ends
  cases h : (out lo hi a || out lo hi b)
  · by_cases h2 : b < a
    · exact .inr (.inl ⟨by simp [h2], rfl, h2⟩)
    · exact .inr (.inr ⟨by simp [h2], rfl, h2⟩)
  · exact .inl ⟨rfl, rfl⟩
theorem out_iff (lo hi n : Int) : out lo hi n = false ↔ lo ≤ n ∧ n ≤ hi := by unfold out; rw [Bool.or_eq_false_iff]; simp
theorem out_yes (lo hi n : Int) : out lo hi n = true ↔ ¬ (lo ≤ n ∧ n ≤ hi) := by rw [← out_iff]; simp
theorem room_7 {r : Room} (h : ends r.lo r.hi 0 60 = 7 ∨ ¬ (0 ≤ r.fro ∧ r.fro ≤ 9) ∨ ¬ (0 ≤ r.las ∧ r.las ≤ 9)) : roomOwn r = 7 := by
  unfold roomOwn
  rw [if_pos]
  rw [Bool.or_eq_true, Bool.or_eq_true (out 0 9 r.fro), out_yes, out_yes]
  rcases h with h | h
  · rcases ends_cases r.lo r.hi 0 60 with ⟨_, h2⟩ | ⟨h1, _⟩ | ⟨h1, _⟩
    · exact .inl h2
    · omega
    · omega
  · exact .inr h
theorem room_2 {r : Room} (h : ends r.lo r.hi 0 60 ≠ 7) (h1 : 0 ≤ r.fro ∧ r.fro ≤ 9) (h2 : 0 ≤ r.las ∧ r.las ≤ 9) (h3 : ends r.lo r.hi 0 60 = 0) (h4 : r.las < r.fro) : roomOwn r = 2 := by
  unfold roomOwn
  rcases ends_cases r.lo r.hi 0 60 with ⟨h5, _⟩ | ⟨h5, _⟩ | ⟨_, h5, h6⟩
  · omega
  · omega
  · rw [h5, (out_iff _ _ _).2 h1, (out_iff _ _ _).2 h2, if_neg (by simp), if_pos (by simp [h4])]
theorem room_e {r : Room} (h : ends r.lo r.hi 0 60 ≠ 7) (h1 : 0 ≤ r.fro ∧ r.fro ≤ 9) (h2 : 0 ≤ r.las ∧ r.las ≤ 9) (h3 : ends r.lo r.hi 0 60 ≠ 0 ∨ ¬ r.las < r.fro) : roomOwn r = ends r.lo r.hi 0 60 := by
  unfold roomOwn
  rcases ends_cases r.lo r.hi 0 60 with ⟨h5, _⟩ | ⟨h4, h5, h6⟩ | ⟨h4, h5, h6⟩
  · omega
  · rw [h5, (out_iff _ _ _).2 h1, (out_iff _ _ _).2 h2, if_neg (by simp), if_pos (by simp [h6]), h4]
  · rw [h5, (out_iff _ _ _).2 h1, (out_iff _ _ _).2 h2, if_neg (by simp), if_neg (by simp; omega), h4]
theorem nameE_ref (b : List ByteArray) (s : ByteArray) : nameE b s = (if nmOk s = false then (6 : Int) else if has b s then 5 else 0) := by unfold nameE; cases nmOk s <;> cases has b s <;> simp
theorem roomE_0 {b : List Room} {r : Room} (h : (if nmOk r.name = false then (6 : Int) else if has (b.map (·.name)) r.name then 5 else 0) = 0) : roomE b r = roomOwn r := by unfold roomE; rw [nameE_ref, h, if_neg (by simp)]
theorem roomE_n {b : List Room} {r : Room} (h : ¬ (if nmOk r.name = false then (6 : Int) else if has (b.map (·.name)) r.name then 5 else 0) = 0) : roomE b r = (if nmOk r.name = false then (6 : Int) else if has (b.map (·.name)) r.name then 5 else 0) := by unfold roomE; rw [nameE_ref, if_pos h]
theorem shopE_0 {b : List Shop} {r : Shop} (h : (if nmOk r.name = false then (6 : Int) else if has (b.map (·.name)) r.name then 5 else 0) = 0) : shopE b r = shopOwn r := by unfold shopE; rw [nameE_ref, h, if_neg (by simp)]
theorem shopE_n {b : List Shop} {r : Shop} (h : ¬ (if nmOk r.name = false then (6 : Int) else if has (b.map (·.name)) r.name then 5 else 0) = 0) : shopE b r = (if nmOk r.name = false then (6 : Int) else if has (b.map (·.name)) r.name then 5 else 0) := by unfold shopE; rw [nameE_ref, if_pos h]
theorem shop_7 {s : Shop} (h : ¬ (0 ≤ s.day ∧ s.day ≤ 9) ∨ ¬ (1 ≤ s.want ∧ s.want ≤ 60)) : shopOwn s = 7 := by unfold shopOwn; rw [if_pos]; rw [Bool.or_eq_true, out_yes, out_yes]; exact h
theorem shop_0 {s : Shop} (h : 0 ≤ s.day ∧ s.day ≤ 9) (h2 : 1 ≤ s.want ∧ s.want ≤ 60) : shopOwn s = 0 := by unfold shopOwn; rw [(out_iff _ _ _).2 h, (out_iff _ _ _).2 h2, if_neg (by simp)]
theorem train_4 {m : Market} {b : List Train} {t : Train} (h : ¬ (0 ≤ t.room ∧ t.room ≤ (m.rooms.length : Int) - 1) ∨ ¬ (0 ≤ t.shop ∧ t.shop ≤ (m.shops.length : Int) - 1)) : trainE m b t = 4 := by unfold trainE; rw [if_pos]; rw [Bool.or_eq_true, out_yes, out_yes]; exact h
theorem train_7 {m : Market} {b : List Train} {t : Train} (h1 : 0 ≤ t.room ∧ t.room ≤ (m.rooms.length : Int) - 1) (h2 : 0 ≤ t.shop ∧ t.shop ≤ (m.shops.length : Int) - 1) (h : ¬ (0 ≤ t.days ∧ t.days ≤ 5) ∨ ¬ (1 ≤ t.cap ∧ t.cap ≤ 60)) : trainE m b t = 7 := by
  unfold trainE; rw [(out_iff _ _ _).2 h1, (out_iff _ _ _).2 h2, if_neg (by simp), if_pos]; rw [Bool.or_eq_true, out_yes, out_yes]; exact h
theorem train_0 {m : Market} {b : List Train} {t : Train} (h1 : 0 ≤ t.room ∧ t.room ≤ (m.rooms.length : Int) - 1) (h2 : 0 ≤ t.shop ∧ t.shop ≤ (m.shops.length : Int) - 1) (h3 : 0 ≤ t.days ∧ t.days ≤ 5) (h4 : 1 ≤ t.cap ∧ t.cap ≤ 60) : trainE m b t = 0 := by
  unfold trainE; rw [(out_iff _ _ _).2 h1, (out_iff _ _ _).2 h2, (out_iff _ _ _).2 h3, (out_iff _ _ _).2 h4]; rfl
theorem fail_most {α : Type} {err : List α → α → Int} {most : Int} {l : List α} (h : most < l.length) : failE err most l = (0, 3) := by unfold failE; rw [if_pos h]
theorem fail_go {α : Type} {err : List α → α → Int} {most : Int} {l : List α} (h : ¬ most < l.length) : failE err most l = firstE err [] 0 l := by unfold failE; rw [if_neg h]
theorem chk_r {m : Market} {a e : Int} (h : failE roomE 3 m.rooms = (a, e)) (he : ¬ e = 0) : check m = (1, a, e) := by unfold check; rw [if_pos (by rw [h]; exact he), h]
theorem chk_s {m : Market} {a e : Int} (h1 : (failE roomE 3 m.rooms).2 = 0) (h : failE shopE 4 m.shops = (a, e)) (he : ¬ e = 0) : check m = (2, a, e) := by unfold check; rw [if_neg (by simp [h1]), if_pos (by rw [h]; exact he), h]
theorem chk_t {m : Market} {a e : Int} (h1 : (failE roomE 3 m.rooms).2 = 0) (h2 : (failE shopE 4 m.shops).2 = 0) (h : failE (trainE m) 6 m.trains = (a, e)) (he : ¬ e = 0) : check m = (3, a, e) := by unfold check; rw [if_neg (by simp [h1]), if_neg (by simp [h2]), if_pos (by rw [h]; exact he), h]
theorem chk_0 {m : Market} (h1 : (failE roomE 3 m.rooms).2 = 0) (h2 : (failE shopE 4 m.shops).2 = 0) (h3 : (failE (trainE m) 6 m.trains).2 = 0) : check m = (0, 0, 0) := by unfold check; rw [if_neg (by simp [h1]), if_neg (by simp [h2]), if_neg (by simp [h3])]
theorem rnames_len {α : Type} {f : α → ByteArray} {l : List α} {i : Nat} (hi : i ≤ l.length) : ((l.take i).map f).length = i := by simp; omega
theorem rnames_snoc {α : Type} {f : α → ByteArray} {l : List α} {i : Nat} (hi : i < l.length) : strs ((l.take i).map f) ++ [Value.string (f l[i])] = strs ((l.take (i + 1)).map f) := by
  rw [List.take_succ_eq_append_getElem hi]; simp only [strs, List.map_append, List.map_cons, List.map_nil]
theorem c63 {w0 w : World} {F : List (Nat × Obj)} (r : Room) (hs : St w0 w F) :
  Con Try.prog 63 [.agg r.cells.toArray] w fun v w' => v = .int .i64 (roomOwn r) ∧ St w0 w' F := by
  refine con_of_wc (n := 31) Try.func63 rfl rfl (Nat.le_of_ble_eq_true rfl) ?_
  refine w_seq (fun K2 hK1 => ?_)
  refine w_region ?_
  refine w_box (v := .agg #[.string _, .int _ _, .int _ _, .int _ _, .int _ _]) (cs := [_, _, _, _, _]) want_none rfl rfl rfl hs (fun b3 w4 hs5 => ?_)
  refine w_pure want_none (y_assign (v := _) rfl rfl) rfl ?_
  refine w_nil ?_
  refine q_then (hK1 _ _ ?_)
  refine w_seq (fun K7 hK6 => ?_)
  refine w_region ?_
  refine w_pure want_none (y_fieldAddr (o := 1) (i := 1) Try.underlying69 rfl Try.sizeOf67 rfl rfl rfl) rfl ?_
  refine w_pure want_none (y_loadN (vs := [_, _]) Try.isAgg67 Try.sizeOf67 hs5 rfl rfl (ats_own (i := 0) (vs := [_, _]) rfl rfl)) rfl ?_
  refine w_call want_none Try.call88 rfl rfl rfl rfl (c88 _ _ _ _ hs5) ?_
  rintro _ w9 ⟨rfl, hs10⟩
  refine w_pure want_none (y_assign (v := .int _ _) rfl rfl) rfl ?_
  refine w_nil ?_
  refine q_then (hK6 _ _ ?_)
  refine w_seq (fun K12 hK11 => ?_)
  refine w_seq (fun K14 hK13 => ?_)
  refine w_region ?_
  refine w_pure want_none (y_move (v := .int _ _) rfl rfl) rfl ?_
  refine w_pure want_none (y_eql rfl rfl rfl rfl) rfl ?_
  refine w_pure want_none (y_move (v := .bool _) rfl rfl) rfl ?_
  refine w_split (fun h15 => ?_) (fun h15 => ?_)
  ·
    try simp only [Bool.not_eq_true', Bool.not_eq_false', decide_eq_true_eq, decide_eq_false_iff_not, Int.not_lt, Int.not_le] at h15
    refine w_skipop rfl rfl rfl ?_
    refine w_skipop rfl rfl rfl ?_
    refine w_skipop rfl rfl rfl ?_
    refine w_skipop rfl rfl rfl ?_
    refine w_pure want_none (y_pickT (v := _) rfl rfl rfl rfl) rfl ?_
    refine w_pure want_none (y_move (v := .bool _) rfl rfl) rfl ?_
    refine w_skipop rfl rfl rfl ?_
    refine w_skipop rfl rfl rfl ?_
    refine w_skipop rfl rfl rfl ?_
    refine w_skipop rfl rfl rfl ?_
    refine w_pure want_none (y_pickT (v := _) rfl rfl rfl rfl) rfl ?_
    refine w_nil ?_
    refine q_then (hK13 _ _ ?_)
    refine w_condT rfl rfl ?_
    refine w_seq (fun K17 hK16 => ?_)
    refine w_region ?_
    refine w_pure want_none (y_assign (v := _) rfl rfl) rfl ?_
    refine w_nil ?_
    refine q_then (hK16 _ _ ?_)
    refine w_ret ?_
    refine q_then_ret ?_
    refine q_ret (l := [.tmp 2]) (vs := [_]) rfl ⟨⟨rfl, show _ = (.int _ _ : Value) from rfl⟩, trivial⟩ ?_
    first
      | exact ⟨congrArg (Value.int .i64) (room_7 (by first | exact .inl (by assumption) | exact .inr (.inl (by omega)) | exact .inr (.inr (by omega)))).symm, hs10.tail⟩
      | exact ⟨congrArg (Value.int .i64) (room_2 (by omega) (by omega) (by omega) (by omega) (by omega)).symm, hs10.tail⟩
      | exact ⟨congrArg (Value.int .i64) (room_e (by omega) (by omega) (by omega) (by omega)).symm, hs10.tail⟩
  ·
    try simp only [Bool.not_eq_true', Bool.not_eq_false', decide_eq_true_eq, decide_eq_false_iff_not, Int.not_lt, Int.not_le] at h15
    refine w_pure (want_yes rfl rfl rfl) (y_fieldAddr (o := 3) (i := 2) Try.underlying69 rfl Try.sizeOf3 rfl rfl rfl) rfl ?_
    refine w_pure (want_yes rfl rfl rfl) (y_load1 Try.isAgg3 hs10 rfl rfl (ats_own (i := 0) (vs := [_]) rfl rfl)) rfl ?_
    refine w_call (want_yes rfl rfl rfl) Try.call51 rfl rfl rfl rfl (c51 _ _ _ hs10) ?_
    rintro _ w19 ⟨rfl, hs20⟩
    refine w_pure (want_yes rfl rfl rfl) (y_not rfl rfl) rfl ?_
    refine w_pure want_none (y_pickF (v := .bool _) rfl rfl rfl rfl) rfl ?_
    refine w_pure want_none (y_move (v := .bool _) rfl rfl) rfl ?_
    refine w_split (fun h21 => ?_) (fun h21 => ?_)
    ·
      try simp only [Bool.not_eq_true', Bool.not_eq_false', decide_eq_true_eq, decide_eq_false_iff_not, Int.not_lt, Int.not_le] at h21
      refine w_skipop rfl rfl rfl ?_
      refine w_skipop rfl rfl rfl ?_
      refine w_skipop rfl rfl rfl ?_
      refine w_skipop rfl rfl rfl ?_
      refine w_pure want_none (y_pickT (v := _) rfl rfl rfl rfl) rfl ?_
      refine w_nil ?_
      refine q_then (hK13 _ _ ?_)
      refine w_condT rfl rfl ?_
      refine w_seq (fun K23 hK22 => ?_)
      refine w_region ?_
      refine w_pure want_none (y_assign (v := _) rfl rfl) rfl ?_
      refine w_nil ?_
      refine q_then (hK22 _ _ ?_)
      refine w_ret ?_
      refine q_then_ret ?_
      refine q_ret (l := [.tmp 2]) (vs := [_]) rfl ⟨⟨rfl, show _ = (.int _ _ : Value) from rfl⟩, trivial⟩ ?_
      first
        | exact ⟨congrArg (Value.int .i64) (room_7 (by first | exact .inl (by assumption) | exact .inr (.inl (by omega)) | exact .inr (.inr (by omega)))).symm, hs20.tail⟩
        | exact ⟨congrArg (Value.int .i64) (room_2 (by omega) (by omega) (by omega) (by omega) (by omega)).symm, hs20.tail⟩
        | exact ⟨congrArg (Value.int .i64) (room_e (by omega) (by omega) (by omega) (by omega)).symm, hs20.tail⟩
    ·
      try simp only [Bool.not_eq_true', Bool.not_eq_false', decide_eq_true_eq, decide_eq_false_iff_not, Int.not_lt, Int.not_le] at h21
      refine w_pure (want_yes rfl rfl rfl) (y_fieldAddr (o := 4) (i := 3) Try.underlying69 rfl Try.sizeOf3 rfl rfl rfl) rfl ?_
      refine w_pure (want_yes rfl rfl rfl) (y_load1 Try.isAgg3 hs20 rfl rfl (ats_own (i := 0) (vs := [_]) rfl rfl)) rfl ?_
      refine w_call (want_yes rfl rfl rfl) Try.call51 rfl rfl rfl rfl (c51 _ _ _ hs20) ?_
      rintro _ w25 ⟨rfl, hs26⟩
      refine w_pure (want_yes rfl rfl rfl) (y_not rfl rfl) rfl ?_
      refine w_pure want_none (y_pickF (v := .bool _) rfl rfl rfl rfl) rfl ?_
      refine w_nil ?_
      refine q_then (hK13 _ _ ?_)
      refine w_cond rfl rfl (fun h27 => ?_) (fun h27 => ?_)
      ·
        try simp only [Bool.not_eq_true', Bool.not_eq_false', decide_eq_true_eq, decide_eq_false_iff_not, Int.not_lt, Int.not_le] at h27
        refine w_seq (fun K29 hK28 => ?_)
        refine w_region ?_
        refine w_pure want_none (y_assign (v := _) rfl rfl) rfl ?_
        refine w_nil ?_
        refine q_then (hK28 _ _ ?_)
        refine w_ret ?_
        refine q_then_ret ?_
        refine q_ret (l := [.tmp 2]) (vs := [_]) rfl ⟨⟨rfl, show _ = (.int _ _ : Value) from rfl⟩, trivial⟩ ?_
        first
          | exact ⟨congrArg (Value.int .i64) (room_7 (by first | exact .inl (by assumption) | exact .inr (.inl (by omega)) | exact .inr (.inr (by omega)))).symm, hs26.tail⟩
          | exact ⟨congrArg (Value.int .i64) (room_2 (by omega) (by omega) (by omega) (by omega) (by omega)).symm, hs26.tail⟩
          | exact ⟨congrArg (Value.int .i64) (room_e (by omega) (by omega) (by omega) (by omega)).symm, hs26.tail⟩
      ·
        try simp only [Bool.not_eq_true', Bool.not_eq_false', decide_eq_true_eq, decide_eq_false_iff_not, Int.not_lt, Int.not_le] at h27
        refine w_skip ?_
        refine q_then (hK11 _ _ ?_)
        refine w_seq (fun K31 hK30 => ?_)
        refine w_seq (fun K33 hK32 => ?_)
        refine w_region ?_
        refine w_pure want_none (y_move (v := .int _ _) rfl rfl) rfl ?_
        refine w_pure want_none (y_eql rfl rfl rfl rfl) rfl ?_
        refine w_pure want_none (y_move (v := .bool _) rfl rfl) rfl ?_
        refine w_split (fun h34 => ?_) (fun h34 => ?_)
        ·
          try simp only [Bool.not_eq_true', Bool.not_eq_false', decide_eq_true_eq, decide_eq_false_iff_not, Int.not_lt, Int.not_le] at h34
          refine w_pure (want_yes rfl rfl rfl) (y_fieldAddr (o := 3) (i := 2) Try.underlying69 rfl Try.sizeOf3 rfl rfl rfl) rfl ?_
          refine w_pure (want_yes rfl rfl rfl) (y_load1 Try.isAgg3 hs26 rfl rfl (ats_own (i := 0) (vs := [_]) rfl rfl)) rfl ?_
          refine w_pure (want_yes rfl rfl rfl) (y_fieldAddr (o := 4) (i := 3) Try.underlying69 rfl Try.sizeOf3 rfl rfl rfl) rfl ?_
          refine w_pure (want_yes rfl rfl rfl) (y_load1 Try.isAgg3 hs26 rfl rfl (ats_own (i := 0) (vs := [_]) rfl rfl)) rfl ?_
          refine w_pure (want_yes rfl rfl rfl) (y_gtr rfl rfl rfl rfl) rfl ?_
          refine w_pure want_none (y_pickT (v := .bool _) rfl rfl rfl rfl) rfl ?_
          refine w_nil ?_
          refine q_then (hK32 _ _ ?_)
          refine w_cond rfl rfl (fun h35 => ?_) (fun h35 => ?_)
          ·
            try simp only [Bool.not_eq_true', Bool.not_eq_false', decide_eq_true_eq, decide_eq_false_iff_not, Int.not_lt, Int.not_le] at h35
            refine w_region ?_
            refine w_pure want_none (y_assign (v := _) rfl rfl) rfl ?_
            refine w_nil ?_
            refine q_then (hK30 _ _ ?_)
            refine w_seq (fun K37 hK36 => ?_)
            refine w_region ?_
            refine w_pure want_none (y_move (v := .int _ _) rfl rfl) rfl ?_
            refine w_pure want_none (y_assign (v := .int _ _) rfl rfl) rfl ?_
            refine w_nil ?_
            refine q_then (hK36 _ _ ?_)
            refine w_ret ?_
            refine q_ret (l := [.tmp 2]) (vs := [_]) rfl ⟨⟨rfl, show _ = (.int _ _ : Value) from rfl⟩, trivial⟩ ?_
            first
              | exact ⟨congrArg (Value.int .i64) (room_7 (by first | exact .inl (by assumption) | exact .inr (.inl (by omega)) | exact .inr (.inr (by omega)))).symm, hs26.tail⟩
              | exact ⟨congrArg (Value.int .i64) (room_2 (by omega) (by omega) (by omega) (by omega) (by omega)).symm, hs26.tail⟩
              | exact ⟨congrArg (Value.int .i64) (room_e (by omega) (by omega) (by omega) (by omega)).symm, hs26.tail⟩
          ·
            try simp only [Bool.not_eq_true', Bool.not_eq_false', decide_eq_true_eq, decide_eq_false_iff_not, Int.not_lt, Int.not_le] at h35
            refine w_skip ?_
            refine q_then (hK30 _ _ ?_)
            refine w_seq (fun K39 hK38 => ?_)
            refine w_region ?_
            refine w_pure want_none (y_move (v := .int _ _) rfl rfl) rfl ?_
            refine w_pure want_none (y_assign (v := .int _ _) rfl rfl) rfl ?_
            refine w_nil ?_
            refine q_then (hK38 _ _ ?_)
            refine w_ret ?_
            refine q_ret (l := [.tmp 2]) (vs := [_]) rfl ⟨⟨rfl, show _ = (.int _ _ : Value) from rfl⟩, trivial⟩ ?_
            first
              | exact ⟨congrArg (Value.int .i64) (room_7 (by first | exact .inl (by assumption) | exact .inr (.inl (by omega)) | exact .inr (.inr (by omega)))).symm, hs26.tail⟩
              | exact ⟨congrArg (Value.int .i64) (room_2 (by omega) (by omega) (by omega) (by omega) (by omega)).symm, hs26.tail⟩
              | exact ⟨congrArg (Value.int .i64) (room_e (by omega) (by omega) (by omega) (by omega)).symm, hs26.tail⟩
        ·
          try simp only [Bool.not_eq_true', Bool.not_eq_false', decide_eq_true_eq, decide_eq_false_iff_not, Int.not_lt, Int.not_le] at h34
          refine w_skipop rfl rfl rfl ?_
          refine w_skipop rfl rfl rfl ?_
          refine w_skipop rfl rfl rfl ?_
          refine w_skipop rfl rfl rfl ?_
          refine w_skipop rfl rfl rfl ?_
          refine w_pure want_none (y_pickF (v := _) rfl rfl rfl rfl) rfl ?_
          refine w_nil ?_
          refine q_then (hK32 _ _ ?_)
          refine w_condF rfl rfl ?_
          refine w_skip ?_
          refine q_then (hK30 _ _ ?_)
          refine w_seq (fun K41 hK40 => ?_)
          refine w_region ?_
          refine w_pure want_none (y_move (v := .int _ _) rfl rfl) rfl ?_
          refine w_pure want_none (y_assign (v := .int _ _) rfl rfl) rfl ?_
          refine w_nil ?_
          refine q_then (hK40 _ _ ?_)
          refine w_ret ?_
          refine q_ret (l := [.tmp 2]) (vs := [_]) rfl ⟨⟨rfl, show _ = (.int _ _ : Value) from rfl⟩, trivial⟩ ?_
          first
            | exact ⟨congrArg (Value.int .i64) (room_7 (by first | exact .inl (by assumption) | exact .inr (.inl (by omega)) | exact .inr (.inr (by omega)))).symm, hs26.tail⟩
            | exact ⟨congrArg (Value.int .i64) (room_2 (by omega) (by omega) (by omega) (by omega) (by omega)).symm, hs26.tail⟩
            | exact ⟨congrArg (Value.int .i64) (room_e (by omega) (by omega) (by omega) (by omega)).symm, hs26.tail⟩

theorem c17 {w0 w : World} {F : List (Nat × Obj)} (m : Market) (p : At3) (hm : MIn w0 F m p)  (hs : St w0 w F) :
  Con Try.prog 17 [.agg (m.cells p).toArray] w fun v w' => v = .tuple #[.int .i64 (check m).1, .int .i64 (check m).2.1, .int .i64 (check m).2.2] ∧ St w0 w' F := by
  refine con_of_wc (n := 142) Try.func17 rfl rfl (Nat.le_of_ble_eq_true rfl) ?_
  obtain ⟨ar, cr, as_, cs, at_, ct⟩ := p
  have hlr := hm.lr
  have hls := hm.ls
  have hlt := hm.lt
  refine w_seq (fun K2 hK1 => ?_)
  refine w_region ?_
  refine w_box (v := .agg #[.slice _ _ _, .slice _ _ _, .slice _ _ _]) (cs := [_, _, _]) want_none rfl rfl rfl hs (fun b3 w4 hs5 => ?_)
  refine w_pure want_none (y_assign (v := _) rfl rfl) rfl ?_
  refine w_pure want_none (y_assign (v := _) rfl rfl) rfl ?_
  refine w_pure want_none (y_assign (v := _) rfl rfl) rfl ?_
  refine w_nil ?_
  refine q_then (hK1 _ _ ?_)
  refine w_seq (fun K7 hK6 => ?_)
  refine w_seq (fun K9 hK8 => ?_)
  refine w_region ?_
  refine w_pure want_none (y_fieldAddr (o := 0) (i := 0) Try.underlying26 rfl Try.sizeOf22 rfl rfl rfl) rfl ?_
  refine w_pure want_none (y_load1 Try.isAgg22 hs5 rfl rfl (ats_own (i := 0) (vs := [_]) rfl rfl)) rfl ?_
  refine w_pure want_none (y_lenS Try.underlying22 rfl rfl) rfl ?_
  refine w_pure want_none (y_gtr rfl rfl rfl rfl) rfl ?_
  refine w_nil ?_
  refine q_then (hK8 _ _ ?_)
  refine w_cond rfl rfl (fun h10 => ?_) (fun h10 => ?_)
  ·
    try simp only [Bool.not_eq_true', Bool.not_eq_false', decide_eq_true_eq, decide_eq_false_iff_not, Int.not_lt, Int.not_le] at h10
    refine w_seq (fun K12 hK11 => ?_)
    refine w_region ?_
    refine w_pure want_none (y_assign (v := _) rfl rfl) rfl ?_
    refine w_pure want_none (y_assign (v := _) rfl rfl) rfl ?_
    refine w_pure want_none (y_assign (v := _) rfl rfl) rfl ?_
    refine w_nil ?_
    refine q_then (hK11 _ _ ?_)
    refine w_ret ?_
    refine q_then_ret ?_
    refine q_ret (l := [.tmp 2, .tmp 3, .tmp 4]) (vs := [_, _, _]) rfl ⟨⟨rfl, show _ = (.int _ _ : Value) from rfl⟩, ⟨rfl, show _ = (.int _ _ : Value) from rfl⟩, ⟨rfl, show _ = (.int _ _ : Value) from rfl⟩, trivial⟩ ?_
    first
      | contradiction
      | exact ⟨tup3 (chk_r (fail_most (by omega)) (by decide)), hs5.tail⟩
      | exact ⟨tup3 (chk_s hE1 (fail_most (by omega)) (by decide)), hs5.tail⟩
      | exact ⟨tup3 (chk_t hE1 hE2 (fail_most (by omega)) (by decide)), hs5.tail⟩
      | exact ⟨tup3 (chk_r (by rw [fail_go (by omega), hinv, firstE_stop hi2 (by rw [roomE_n (by assumption)]; assumption), roomE_n (by assumption)]) (by assumption)), hs5.tail⟩
      | exact ⟨tup3 (chk_r (by rw [fail_go (by omega), hinv, firstE_stop hi2 (by rw [roomE_0 (by assumption)]; assumption), roomE_0 (by assumption)]) (by assumption)), hs5.tail⟩
      | exact ⟨tup3 (chk_s hE1 (by rw [fail_go (by omega), hinv, firstE_stop hi2 (by rw [shopE_n (by assumption)]; assumption), shopE_n (by assumption)]) (by assumption)), hs5.tail⟩
      | exact ⟨tup3 (chk_s hE1 (by rw [fail_go (by omega), hinv, firstE_stop hi2 (by rw [shopE_0 (by assumption), shop_7 (by omega)]; decide), shopE_0 (by assumption), shop_7 (by omega)]) (by decide)), hs5.tail⟩
      | exact ⟨tup3 (chk_t hE1 hE2 (by rw [fail_go (by omega), hinv, firstE_stop hi2 (by rw [train_4 (by omega)]; decide), train_4 (by omega)]) (by decide)), hs5.tail⟩
      | exact ⟨tup3 (chk_t hE1 hE2 (by rw [fail_go (by omega), hinv, firstE_stop hi2 (by rw [train_7 (by omega) (by omega) (by omega)]; decide), train_7 (by omega) (by omega) (by omega)]) (by decide)), hs5.tail⟩
      | exact ⟨tup3 (chk_0 hE1 hE2 (by rw [fail_go (by omega), hinv, firstE_end (by omega)])), hs5.tail⟩
  ·
    try simp only [Bool.not_eq_true', Bool.not_eq_false', decide_eq_true_eq, decide_eq_false_iff_not, Int.not_lt, Int.not_le] at h10
    refine w_skip ?_
    refine q_then (hK6 _ _ ?_)
    refine w_seq (fun K14 hK13 => ?_)
    refine w_region ?_
    refine w_pure want_none (y_assign (v := _) rfl rfl) rfl ?_
    refine w_nil ?_
    refine q_then (hK13 _ _ ?_)
    refine w_seq (fun K16 hK15 => ?_)
    refine w_seq (fun K18 hK17 => ?_)
    refine w_region ?_
    refine w_pure want_none (y_assign (v := _) rfl rfl) rfl ?_
    refine w_nil ?_
    refine q_then (hK17 _ _ ?_)
    refine w_block ?_
    refine w_loop [2, 3, 4, 5, 6, 7, 17, 18, 19, 20, 21, 22, 23, 24, 25, 26, 27, 28, 29, 30, 31, 32, 33, 34, 35, 36, 37, 38, 39, 40, 41, 42, 43, 44, 45, 46, 47, 48, 49, 50, 51, 52] [5, 6] (fun k vs w => ∃ (i : Nat) (v : Value) (B : List (Nat × Obj)), vs = [v, .int .i64 i] ∧ i ≤ m.rooms.length ∧ k = m.rooms.length - i ∧ firstE roomE [] 0 m.rooms = firstE roomE (m.rooms.take i) (i : Nat) (m.rooms.drop i) ∧ Rt.Own v 9 1 i (strs ((m.rooms.take i).map (·.name))) B ∧ St w0 w ((b3, blk 26 (m.cells ⟨ar, cr, as_, cs, at_, ct⟩)) :: (B ++ F))) (m.rooms.length) ?_ ?_
    ·
      exact ⟨0, _, [], rfl, by omega, by omega, by simp, own_nil 9 1, hs5⟩
    ·
      intro k vs μ w21 hI K20 hN19
      obtain ⟨i, v, B, rfl, hia, rfl, hinv, hown, hs⟩ := hI
      refine w_seq (fun K23 hK22 => ?_)
      refine w_seq (fun K25 hK24 => ?_)
      refine w_region ?_
      refine w_pure want_none (y_move (v := .int _ _) rfl rfl) rfl ?_
      refine w_pure want_none (y_fieldAddr (o := 0) (i := 0) Try.underlying26 rfl Try.sizeOf22 rfl rfl rfl) rfl ?_
      refine w_pure want_none (y_load1 Try.isAgg22 hs rfl rfl (ats_own (i := 0) (vs := [_]) rfl rfl)) rfl ?_
      refine w_pure want_none (y_lenS Try.underlying22 rfl rfl) rfl ?_
      refine w_pure want_none (y_lss rfl rfl rfl rfl) rfl ?_
      refine w_nil ?_
      refine q_then (hK24 _ _ ?_)
      refine w_cond rfl rfl (fun h26 => ?_) (fun h26 => ?_)
      ·
        try simp only [Bool.not_eq_true', Bool.not_eq_false', decide_eq_true_eq, decide_eq_false_iff_not, Int.not_lt, Int.not_le] at h26
        refine w_skip ?_
        refine q_then (hK22 _ _ ?_)
        refine w_seq (fun K28 hK27 => ?_)
        refine w_block ?_
        refine w_seq (fun K30 hK29 => ?_)
        have hi2 : i < m.rooms.length := by omega
        have hn2 := rnames_len (f := (·.name)) hia
        obtain ⟨r1, or1, hbr1, hxr1⟩ := sl_rrows hm.r hi2
        obtain ⟨an, cn, rfl, hsn⟩ := own_sl_map (w0 := w0) hown hn2 F
        have hnl : ((m.rooms.take i).map (·.name)).length ≤ 1000000 := by omega
        subst hbr1
        refine w_region ?_
        refine w_pure want_none (y_fieldAddr (o := 0) (i := 0) Try.underlying26 rfl Try.sizeOf22 rfl rfl rfl) rfl ?_
        refine w_pure want_none (y_load1 Try.isAgg22 hs rfl rfl (ats_own (i := 0) (vs := [_]) rfl rfl)) rfl ?_
        refine w_pure want_none (y_move (v := .int _ _) rfl rfl) rfl ?_
        refine w_pure want_none (y_indexS Try.underlying22 Try.sizeOf69 rfl rfl rfl rfl (i := _) rfl (by omega)) rfl ?_
        refine w_pure want_none (y_fieldAddr (o := 0) (i := 0) Try.underlying69 rfl Try.sizeOf9 rfl rfl rfl) rfl ?_
        refine w_pure want_none (y_load1 Try.isAgg9 hs.tail.drop rfl rfl (show Ats _ _ _ _ [_] from Ats.part hxr1 0 1)) rfl ?_
        refine w_pure want_none (y_move (v := .slice _ _ _) rfl rfl) rfl ?_
        refine w_call want_none Try.call62 rfl rfl rfl rfl (c62 _ _ _ _ (hm.nr _ (List.getElem_mem hi2)) (by omega) hsn.cons hs) ?_
        rintro _ w32 ⟨rfl, hs33⟩
        refine w_pure want_none (y_assign (v := .int _ _) rfl rfl) rfl ?_
        refine w_nil ?_
        refine q_then (hK29 _ _ ?_)
        refine w_seq (fun K35 hK34 => ?_)
        refine w_region ?_
        refine w_pure want_none (y_move (v := .slice _ _ _) rfl rfl) rfl ?_
        refine w_pure want_none (y_fieldAddr (o := 0) (i := 0) Try.underlying26 rfl Try.sizeOf22 rfl rfl rfl) rfl ?_
        refine w_pure want_none (y_load1 Try.isAgg22 hs33 rfl rfl (ats_own (i := 0) (vs := [_]) rfl rfl)) rfl ?_
        refine w_pure want_none (y_move (v := .int _ _) rfl rfl) rfl ?_
        refine w_pure want_none (y_indexS Try.underlying22 Try.sizeOf69 rfl rfl rfl rfl (i := _) rfl (by omega)) rfl ?_
        refine w_pure want_none (y_fieldAddr (o := 0) (i := 0) Try.underlying69 rfl Try.sizeOf9 rfl rfl rfl) rfl ?_
        refine w_pure want_none (y_load1 Try.isAgg9 hs33.tail.drop rfl rfl (show Ats _ _ _ _ [_] from Ats.part hxr1 0 1)) rfl ?_
        refine w_bslice (ps := [(0, _)]) (pv := [(0, .string _)]) (cs := [_]) want_none rfl rfl (fun w => Try_N_fb4 _ w) hs33 (fun b36 w37 hs38 => ?_)
        refine w_append (X := (_ :: _ :: [])) (B := B) (rows := [[_]]) (sz := 1) (bytes := 16) want_none Try.underlying73 Try_info9 rfl rfl rfl rfl rfl rfl rfl rfl rfl hs38 hown (sl_own (i := 0) rfl (by simp) rfl) rfl (by simp) (by simp [Value.oneCell']) (by simp only [maxLen]; omega) (by omega) (fun v39 w40 B41 ho42 hs43 => ?_)
        replace hs43 := (show St _ _ (_ :: _ :: B41 ++ (F)) from hs43)
        refine w_pure want_none (y_assign (v := v39) rfl rfl) rfl ?_
        refine w_nil ?_
        refine q_then (hK34 _ _ ?_)
        refine w_seq (fun K45 hK44 => ?_)
        refine w_seq (fun K47 hK46 => ?_)
        refine w_region ?_
        refine w_pure want_none (y_move (v := .int _ _) rfl rfl) rfl ?_
        refine w_pure want_none (y_eql rfl rfl rfl rfl) rfl ?_
        refine w_nil ?_
        refine q_then (hK46 _ _ ?_)
        refine w_cond rfl rfl (fun h48 => ?_) (fun h48 => ?_)
        ·
          try simp only [Bool.not_eq_true', Bool.not_eq_false', decide_eq_true_eq, decide_eq_false_iff_not, Int.not_lt, Int.not_le] at h48
          refine w_region ?_
          refine w_pure want_none (y_fieldAddr (o := 0) (i := 0) Try.underlying26 rfl Try.sizeOf22 rfl rfl rfl) rfl ?_
          refine w_pure want_none (y_load1 Try.isAgg22 hs43 rfl rfl (ats_own (i := 1) (vs := [_]) rfl rfl)) rfl ?_
          refine w_pure want_none (y_move (v := .int _ _) rfl rfl) rfl ?_
          refine w_pure want_none (y_indexS Try.underlying22 Try.sizeOf69 rfl rfl rfl rfl (i := _) rfl (by omega)) rfl ?_
          refine w_pure want_none (y_loadN (vs := [_, _, _, _, _]) Try.isAgg69 Try.sizeOf69 hs43.tail.tail.drop rfl rfl hxr1) rfl ?_
          refine w_call want_none Try.call63 rfl rfl rfl rfl (c63 _ hs43) ?_
          rintro _ w50 ⟨rfl, hs51⟩
          refine w_pure want_none (y_assign (v := .int _ _) rfl rfl) rfl ?_
          refine w_nil ?_
          refine q_then (hK44 _ _ ?_)
          refine w_seq (fun K53 hK52 => ?_)
          refine w_region ?_
          refine w_pure want_none (y_move (v := .int _ _) rfl rfl) rfl ?_
          refine w_pure want_none (y_neq rfl rfl rfl rfl) rfl ?_
          refine w_nil ?_
          refine q_then (hK52 _ _ ?_)
          refine w_cond rfl rfl (fun h54 => ?_) (fun h54 => ?_)
          ·
            try simp only [Bool.not_eq_true', Bool.not_eq_false', decide_eq_true_eq, decide_eq_false_iff_not, Int.not_lt, Int.not_le] at h54
            refine w_seq (fun K56 hK55 => ?_)
            refine w_region ?_
            refine w_pure want_none (y_move (v := .int _ _) rfl rfl) rfl ?_
            refine w_pure want_none (y_move (v := .int _ _) rfl rfl) rfl ?_
            refine w_pure want_none (y_assign (v := _) rfl rfl) rfl ?_
            refine w_pure want_none (y_assign (v := .int _ _) rfl rfl) rfl ?_
            refine w_pure want_none (y_assign (v := .int _ _) rfl rfl) rfl ?_
            refine w_nil ?_
            refine q_then (hK55 _ _ ?_)
            refine w_ret ?_
            refine q_blk_ret ?_
            refine q_then_ret ?_
            refine q_then_ret ?_
            refine q_blk_ret ?_
            refine q_then_ret ?_
            refine q_ret (l := [.tmp 2, .tmp 3, .tmp 4]) (vs := [_, _, _]) rfl ⟨⟨rfl, show _ = (.int _ _ : Value) from rfl⟩, ⟨rfl, show _ = (.int _ _ : Value) from rfl⟩, ⟨rfl, show _ = (.int _ _ : Value) from rfl⟩, trivial⟩ ?_
            first
              | contradiction
              | exact ⟨tup3 (chk_r (fail_most (by omega)) (by decide)), hs51.tail.tail.drop⟩
              | exact ⟨tup3 (chk_s hE1 (fail_most (by omega)) (by decide)), hs51.tail.tail.drop⟩
              | exact ⟨tup3 (chk_t hE1 hE2 (fail_most (by omega)) (by decide)), hs51.tail.tail.drop⟩
              | exact ⟨tup3 (chk_r (by rw [fail_go (by omega), hinv, firstE_stop hi2 (by rw [roomE_n (by assumption)]; assumption), roomE_n (by assumption)]) (by assumption)), hs51.tail.tail.drop⟩
              | exact ⟨tup3 (chk_r (by rw [fail_go (by omega), hinv, firstE_stop hi2 (by rw [roomE_0 (by assumption)]; assumption), roomE_0 (by assumption)]) (by assumption)), hs51.tail.tail.drop⟩
              | exact ⟨tup3 (chk_s hE1 (by rw [fail_go (by omega), hinv, firstE_stop hi2 (by rw [shopE_n (by assumption)]; assumption), shopE_n (by assumption)]) (by assumption)), hs51.tail.tail.drop⟩
              | exact ⟨tup3 (chk_s hE1 (by rw [fail_go (by omega), hinv, firstE_stop hi2 (by rw [shopE_0 (by assumption), shop_7 (by omega)]; decide), shopE_0 (by assumption), shop_7 (by omega)]) (by decide)), hs51.tail.tail.drop⟩
              | exact ⟨tup3 (chk_t hE1 hE2 (by rw [fail_go (by omega), hinv, firstE_stop hi2 (by rw [train_4 (by omega)]; decide), train_4 (by omega)]) (by decide)), hs51.tail.tail.drop⟩
              | exact ⟨tup3 (chk_t hE1 hE2 (by rw [fail_go (by omega), hinv, firstE_stop hi2 (by rw [train_7 (by omega) (by omega) (by omega)]; decide), train_7 (by omega) (by omega) (by omega)]) (by decide)), hs51.tail.tail.drop⟩
              | exact ⟨tup3 (chk_0 hE1 hE2 (by rw [fail_go (by omega), hinv, firstE_end (by omega)])), hs51.tail.tail.drop⟩
          ·
            try simp only [Bool.not_eq_true', Bool.not_eq_false', decide_eq_true_eq, decide_eq_false_iff_not, Int.not_lt, Int.not_le] at h54
            refine w_skip ?_
            refine q_blk_normal ?_
            refine q_then (hK27 _ _ ?_)
            refine w_region ?_
            refine w_pure want_none (y_move (v := .int _ _) rfl rfl) rfl ?_
            refine w_pure want_none (y_add rfl rfl rfl rfl (by omega) (by omega)) rfl ?_
            refine w_pure want_none (y_assign (v := .int _ _) rfl rfl) rfl ?_
            refine w_nil ?_
            refine q_then (hN19 _ _ (Nx.intro (m.rooms.length - (i + 1)) (by omega) (by repeat (first | exact agree_mix | refine agree_upd rfl ?_ | refine agree_updL rfl ?_ _ | refine agree_mixin rfl ?_)) ?_))
            first
              | contradiction
              | exact ⟨i + 1, _, _, rfl, by omega, rfl, hinv.trans (firstE_step hi2 (by rw [roomE_0 (by assumption)]; assumption)), by rw [← rnames_snoc hi2]; exact ho42, hs51.tail⟩
        ·
          try simp only [Bool.not_eq_true', Bool.not_eq_false', decide_eq_true_eq, decide_eq_false_iff_not, Int.not_lt, Int.not_le] at h48
          refine w_skip ?_
          refine q_then (hK44 _ _ ?_)
          refine w_seq (fun K58 hK57 => ?_)
          refine w_region ?_
          refine w_pure want_none (y_move (v := .int _ _) rfl rfl) rfl ?_
          refine w_pure want_none (y_neq rfl rfl rfl rfl) rfl ?_
          refine w_nil ?_
          refine q_then (hK57 _ _ ?_)
          refine w_cond rfl rfl (fun h59 => ?_) (fun h59 => ?_)
          ·
            try simp only [Bool.not_eq_true', Bool.not_eq_false', decide_eq_true_eq, decide_eq_false_iff_not, Int.not_lt, Int.not_le] at h59
            refine w_seq (fun K61 hK60 => ?_)
            refine w_region ?_
            refine w_pure want_none (y_move (v := .int _ _) rfl rfl) rfl ?_
            refine w_pure want_none (y_move (v := .int _ _) rfl rfl) rfl ?_
            refine w_pure want_none (y_assign (v := _) rfl rfl) rfl ?_
            refine w_pure want_none (y_assign (v := .int _ _) rfl rfl) rfl ?_
            refine w_pure want_none (y_assign (v := .int _ _) rfl rfl) rfl ?_
            refine w_nil ?_
            refine q_then (hK60 _ _ ?_)
            refine w_ret ?_
            refine q_blk_ret ?_
            refine q_then_ret ?_
            refine q_then_ret ?_
            refine q_blk_ret ?_
            refine q_then_ret ?_
            refine q_ret (l := [.tmp 2, .tmp 3, .tmp 4]) (vs := [_, _, _]) rfl ⟨⟨rfl, show _ = (.int _ _ : Value) from rfl⟩, ⟨rfl, show _ = (.int _ _ : Value) from rfl⟩, ⟨rfl, show _ = (.int _ _ : Value) from rfl⟩, trivial⟩ ?_
            first
              | contradiction
              | exact ⟨tup3 (chk_r (fail_most (by omega)) (by decide)), hs43.tail.tail.drop⟩
              | exact ⟨tup3 (chk_s hE1 (fail_most (by omega)) (by decide)), hs43.tail.tail.drop⟩
              | exact ⟨tup3 (chk_t hE1 hE2 (fail_most (by omega)) (by decide)), hs43.tail.tail.drop⟩
              | exact ⟨tup3 (chk_r (by rw [fail_go (by omega), hinv, firstE_stop hi2 (by rw [roomE_n (by assumption)]; assumption), roomE_n (by assumption)]) (by assumption)), hs43.tail.tail.drop⟩
              | exact ⟨tup3 (chk_r (by rw [fail_go (by omega), hinv, firstE_stop hi2 (by rw [roomE_0 (by assumption)]; assumption), roomE_0 (by assumption)]) (by assumption)), hs43.tail.tail.drop⟩
              | exact ⟨tup3 (chk_s hE1 (by rw [fail_go (by omega), hinv, firstE_stop hi2 (by rw [shopE_n (by assumption)]; assumption), shopE_n (by assumption)]) (by assumption)), hs43.tail.tail.drop⟩
              | exact ⟨tup3 (chk_s hE1 (by rw [fail_go (by omega), hinv, firstE_stop hi2 (by rw [shopE_0 (by assumption), shop_7 (by omega)]; decide), shopE_0 (by assumption), shop_7 (by omega)]) (by decide)), hs43.tail.tail.drop⟩
              | exact ⟨tup3 (chk_t hE1 hE2 (by rw [fail_go (by omega), hinv, firstE_stop hi2 (by rw [train_4 (by omega)]; decide), train_4 (by omega)]) (by decide)), hs43.tail.tail.drop⟩
              | exact ⟨tup3 (chk_t hE1 hE2 (by rw [fail_go (by omega), hinv, firstE_stop hi2 (by rw [train_7 (by omega) (by omega) (by omega)]; decide), train_7 (by omega) (by omega) (by omega)]) (by decide)), hs43.tail.tail.drop⟩
              | exact ⟨tup3 (chk_0 hE1 hE2 (by rw [fail_go (by omega), hinv, firstE_end (by omega)])), hs43.tail.tail.drop⟩
          ·
            try simp only [Bool.not_eq_true', Bool.not_eq_false', decide_eq_true_eq, decide_eq_false_iff_not, Int.not_lt, Int.not_le] at h59
            refine w_skip ?_
            refine q_blk_normal ?_
            refine q_then (hK27 _ _ ?_)
            refine w_region ?_
            refine w_pure want_none (y_move (v := .int _ _) rfl rfl) rfl ?_
            refine w_pure want_none (y_add rfl rfl rfl rfl (by omega) (by omega)) rfl ?_
            refine w_pure want_none (y_assign (v := .int _ _) rfl rfl) rfl ?_
            refine w_nil ?_
            refine q_then (hN19 _ _ (Nx.intro (m.rooms.length - (i + 1)) (by omega) (by repeat (first | exact agree_mix | refine agree_upd rfl ?_ | refine agree_updL rfl ?_ _ | refine agree_mixin rfl ?_)) ?_))
            first
              | contradiction
              | exact ⟨i + 1, _, _, rfl, by omega, rfl, hinv.trans (firstE_step hi2 (by rw [roomE_0 (by assumption)]; assumption)), by rw [← rnames_snoc hi2]; exact ho42, hs43.tail⟩
      ·
        try simp only [Bool.not_eq_true', Bool.not_eq_false', decide_eq_true_eq, decide_eq_false_iff_not, Int.not_lt, Int.not_le] at h26
        refine w_exit ?_
        refine q_then_exit ?_
        refine q_then_exit ?_
        refine q_blk_this ?_
        refine q_then (hK15 _ _ ?_)
        refine w_seq (fun K63 hK62 => ?_)
        refine w_seq (fun K65 hK64 => ?_)
        have hE1 : (failE roomE 3 m.rooms).2 = 0 := by rw [fail_go (by omega), hinv, firstE_end (by omega)]
        have hs66 := keep_front (Y := B) (show St _ _ (_ :: (B ++ F)) from hs)
        refine w_region ?_
        refine w_pure want_none (y_fieldAddr (o := 1) (i := 1) Try.underlying26 rfl Try.sizeOf23 rfl rfl rfl) rfl ?_
        refine w_pure want_none (y_load1 Try.isAgg23 hs66 rfl rfl (ats_own (i := 0) (vs := [_]) rfl rfl)) rfl ?_
        refine w_pure want_none (y_lenS Try.underlying23 rfl rfl) rfl ?_
        refine w_pure want_none (y_gtr rfl rfl rfl rfl) rfl ?_
        refine w_nil ?_
        refine q_then (hK64 _ _ ?_)
        refine w_cond rfl rfl (fun h67 => ?_) (fun h67 => ?_)
        ·
          try simp only [Bool.not_eq_true', Bool.not_eq_false', decide_eq_true_eq, decide_eq_false_iff_not, Int.not_lt, Int.not_le] at h67
          refine w_seq (fun K69 hK68 => ?_)
          refine w_region ?_
          refine w_pure want_none (y_assign (v := _) rfl rfl) rfl ?_
          refine w_pure want_none (y_assign (v := _) rfl rfl) rfl ?_
          refine w_pure want_none (y_assign (v := _) rfl rfl) rfl ?_
          refine w_nil ?_
          refine q_then (hK68 _ _ ?_)
          refine w_ret ?_
          refine q_then_ret ?_
          refine q_ret (l := [.tmp 2, .tmp 3, .tmp 4]) (vs := [_, _, _]) rfl ⟨⟨rfl, show _ = (.int _ _ : Value) from rfl⟩, ⟨rfl, show _ = (.int _ _ : Value) from rfl⟩, ⟨rfl, show _ = (.int _ _ : Value) from rfl⟩, trivial⟩ ?_
          first
            | contradiction
            | exact ⟨tup3 (chk_r (fail_most (by omega)) (by decide)), hs66.tail⟩
            | exact ⟨tup3 (chk_s hE1 (fail_most (by omega)) (by decide)), hs66.tail⟩
            | exact ⟨tup3 (chk_t hE1 hE2 (fail_most (by omega)) (by decide)), hs66.tail⟩
            | exact ⟨tup3 (chk_r (by rw [fail_go (by omega), hinv, firstE_stop hi2 (by rw [roomE_n (by assumption)]; assumption), roomE_n (by assumption)]) (by assumption)), hs66.tail⟩
            | exact ⟨tup3 (chk_r (by rw [fail_go (by omega), hinv, firstE_stop hi2 (by rw [roomE_0 (by assumption)]; assumption), roomE_0 (by assumption)]) (by assumption)), hs66.tail⟩
            | exact ⟨tup3 (chk_s hE1 (by rw [fail_go (by omega), hinv, firstE_stop hi2 (by rw [shopE_n (by assumption)]; assumption), shopE_n (by assumption)]) (by assumption)), hs66.tail⟩
            | exact ⟨tup3 (chk_s hE1 (by rw [fail_go (by omega), hinv, firstE_stop hi2 (by rw [shopE_0 (by assumption), shop_7 (by omega)]; decide), shopE_0 (by assumption), shop_7 (by omega)]) (by decide)), hs66.tail⟩
            | exact ⟨tup3 (chk_t hE1 hE2 (by rw [fail_go (by omega), hinv, firstE_stop hi2 (by rw [train_4 (by omega)]; decide), train_4 (by omega)]) (by decide)), hs66.tail⟩
            | exact ⟨tup3 (chk_t hE1 hE2 (by rw [fail_go (by omega), hinv, firstE_stop hi2 (by rw [train_7 (by omega) (by omega) (by omega)]; decide), train_7 (by omega) (by omega) (by omega)]) (by decide)), hs66.tail⟩
            | exact ⟨tup3 (chk_0 hE1 hE2 (by rw [fail_go (by omega), hinv, firstE_end (by omega)])), hs66.tail⟩
        ·
          try simp only [Bool.not_eq_true', Bool.not_eq_false', decide_eq_true_eq, decide_eq_false_iff_not, Int.not_lt, Int.not_le] at h67
          refine w_skip ?_
          refine q_then (hK62 _ _ ?_)
          refine w_seq (fun K71 hK70 => ?_)
          refine w_region ?_
          refine w_pure want_none (y_assign (v := _) rfl rfl) rfl ?_
          refine w_nil ?_
          refine q_then (hK70 _ _ ?_)
          refine w_seq (fun K73 hK72 => ?_)
          refine w_seq (fun K75 hK74 => ?_)
          refine w_region ?_
          refine w_pure want_none (y_assign (v := _) rfl rfl) rfl ?_
          refine w_nil ?_
          refine q_then (hK74 _ _ ?_)
          refine w_block ?_
          refine w_loop [2, 3, 4, 5, 8, 9, 10, 57, 58, 59, 60, 61, 62, 63, 64, 65, 66, 67, 68, 69, 70, 71, 72, 73, 74, 75, 76, 77, 78, 79, 80, 81, 82, 83, 84, 85, 86, 87, 88, 89, 90, 91, 92, 93, 94, 95] [5, 8] (fun k vs w => ∃ (i : Nat) (v : Value) (B : List (Nat × Obj)), vs = [v, .int .i64 i] ∧ i ≤ m.shops.length ∧ k = m.shops.length - i ∧ firstE shopE [] 0 m.shops = firstE shopE (m.shops.take i) (i : Nat) (m.shops.drop i) ∧ Rt.Own v 9 1 i (strs ((m.shops.take i).map (·.name))) B ∧ St w0 w ((b3, blk 26 (m.cells ⟨ar, cr, as_, cs, at_, ct⟩)) :: (B ++ F))) (m.shops.length) ?_ ?_
          ·
            exact ⟨0, _, [], rfl, by omega, by omega, by simp, own_nil 9 1, hs66⟩
          ·
            intro k vs μ w78 hI K77 hN76
            obtain ⟨i, v, B, rfl, hia, rfl, hinv, hown, hs⟩ := hI
            refine w_seq (fun K80 hK79 => ?_)
            refine w_seq (fun K82 hK81 => ?_)
            refine w_region ?_
            refine w_pure want_none (y_move (v := .int _ _) rfl rfl) rfl ?_
            refine w_pure want_none (y_fieldAddr (o := 1) (i := 1) Try.underlying26 rfl Try.sizeOf23 rfl rfl rfl) rfl ?_
            refine w_pure want_none (y_load1 Try.isAgg23 hs rfl rfl (ats_own (i := 0) (vs := [_]) rfl rfl)) rfl ?_
            refine w_pure want_none (y_lenS Try.underlying23 rfl rfl) rfl ?_
            refine w_pure want_none (y_lss rfl rfl rfl rfl) rfl ?_
            refine w_nil ?_
            refine q_then (hK81 _ _ ?_)
            refine w_cond rfl rfl (fun h83 => ?_) (fun h83 => ?_)
            ·
              try simp only [Bool.not_eq_true', Bool.not_eq_false', decide_eq_true_eq, decide_eq_false_iff_not, Int.not_lt, Int.not_le] at h83
              refine w_skip ?_
              refine q_then (hK79 _ _ ?_)
              refine w_seq (fun K85 hK84 => ?_)
              refine w_block ?_
              refine w_seq (fun K87 hK86 => ?_)
              have hi2 : i < m.shops.length := by omega
              have hn2 := rnames_len (f := (·.name)) hia
              obtain ⟨s1, os1, hbs1, hxs1⟩ := sl_srows hm.s hi2
              obtain ⟨an, cn, rfl, hsn⟩ := own_sl_map (w0 := w0) hown hn2 F
              have hnl : ((m.shops.take i).map (·.name)).length ≤ 1000000 := by omega
              subst hbs1
              refine w_region ?_
              refine w_pure want_none (y_fieldAddr (o := 1) (i := 1) Try.underlying26 rfl Try.sizeOf23 rfl rfl rfl) rfl ?_
              refine w_pure want_none (y_load1 Try.isAgg23 hs rfl rfl (ats_own (i := 0) (vs := [_]) rfl rfl)) rfl ?_
              refine w_pure want_none (y_move (v := .int _ _) rfl rfl) rfl ?_
              refine w_pure want_none (y_indexS Try.underlying23 Try.sizeOf52 rfl rfl rfl rfl (i := _) rfl (by omega)) rfl ?_
              refine w_pure want_none (y_loadN (vs := [_, _, _]) Try.isAgg52 Try.sizeOf52 hs.tail.drop rfl rfl hxs1) rfl ?_
              refine w_alloc (cs := [_, _, _]) want_none Try.zeroValue52 rfl hs (fun b88 w89 hs90 => ?_)
              refine w_store (i := 0) (v := .agg #[.string _, .int _ _, .int _ _]) (vs := [_, _, _]) want_none Try.sizeOf52 rfl rfl rfl rfl rfl (by simp [Value.oneCell']) hs90 rfl (Nat.le_of_ble_eq_true rfl) (fun w91 hs92 => ?_)
              refine w_nil ?_
              refine q_then (hK86 _ _ ?_)
              refine w_seq (fun K94 hK93 => ?_)
              refine w_region ?_
              refine w_pure want_none (y_fieldAddr (o := 0) (i := 0) Try.underlying52 rfl Try.sizeOf9 rfl rfl rfl) rfl ?_
              refine w_pure want_none (y_load1 Try.isAgg9 hs92 rfl rfl (ats_own (i := 0) (vs := [_]) rfl rfl)) rfl ?_
              refine w_pure want_none (y_move (v := .slice _ _ _) rfl rfl) rfl ?_
              refine w_call want_none Try.call62 rfl rfl rfl rfl (c62 _ _ _ _ (hm.ns _ (List.getElem_mem hi2)) (by omega) hsn.cons.cons hs92) ?_
              rintro _ w96 ⟨rfl, hs97⟩
              refine w_pure want_none (y_assign (v := .int _ _) rfl rfl) rfl ?_
              refine w_nil ?_
              refine q_then (hK93 _ _ ?_)
              refine w_seq (fun K99 hK98 => ?_)
              refine w_region ?_
              refine w_pure want_none (y_move (v := .slice _ _ _) rfl rfl) rfl ?_
              refine w_pure want_none (y_fieldAddr (o := 0) (i := 0) Try.underlying52 rfl Try.sizeOf9 rfl rfl rfl) rfl ?_
              refine w_pure want_none (y_load1 Try.isAgg9 hs97 rfl rfl (ats_own (i := 0) (vs := [_]) rfl rfl)) rfl ?_
              refine w_bslice (ps := [(0, _)]) (pv := [(0, .string _)]) (cs := [_]) want_none rfl rfl (fun w => Try_N_fb4 _ w) hs97 (fun b100 w101 hs102 => ?_)
              refine w_append (X := (_ :: _ :: _ :: [])) (B := B) (rows := [[_]]) (sz := 1) (bytes := 16) want_none Try.underlying73 Try_info9 rfl rfl rfl rfl rfl rfl rfl rfl rfl hs102 hown (sl_own (i := 0) rfl (by simp) rfl) rfl (by simp) (by simp [Value.oneCell']) (by simp only [maxLen]; omega) (by omega) (fun v103 w104 B105 ho106 hs107 => ?_)
              replace hs107 := (show St _ _ (_ :: _ :: _ :: B105 ++ (F)) from hs107)
              refine w_pure want_none (y_assign (v := v103) rfl rfl) rfl ?_
              refine w_nil ?_
              refine q_then (hK98 _ _ ?_)
              refine w_seq (fun K109 hK108 => ?_)
              refine w_seq (fun K111 hK110 => ?_)
              refine w_region ?_
              refine w_pure want_none (y_move (v := .int _ _) rfl rfl) rfl ?_
              refine w_pure want_none (y_eql rfl rfl rfl rfl) rfl ?_
              refine w_pure want_none (y_move (v := .bool _) rfl rfl) rfl ?_
              refine w_split (fun h112 => ?_) (fun h112 => ?_)
              ·
                try simp only [Bool.not_eq_true', Bool.not_eq_false', decide_eq_true_eq, decide_eq_false_iff_not, Int.not_lt, Int.not_le] at h112
                refine w_pure (want_yes rfl rfl rfl) (y_fieldAddr (o := 1) (i := 1) Try.underlying52 rfl Try.sizeOf3 rfl rfl rfl) rfl ?_
                refine w_pure (want_yes rfl rfl rfl) (y_load1 Try.isAgg3 hs107 rfl rfl (ats_own (i := 1) (vs := [_]) rfl rfl)) rfl ?_
                refine w_call (want_yes rfl rfl rfl) Try.call51 rfl rfl rfl rfl (c51 _ _ _ hs107) ?_
                rintro _ w114 ⟨rfl, hs115⟩
                refine w_pure (want_yes rfl rfl rfl) (y_not rfl rfl) rfl ?_
                refine w_pure (want_yes rfl rfl rfl) (y_move (v := .bool _) rfl rfl) rfl ?_
                refine w_split (fun h116 => ?_) (fun h116 => ?_)
                ·
                  try simp only [Bool.not_eq_true', Bool.not_eq_false', decide_eq_true_eq, decide_eq_false_iff_not, Int.not_lt, Int.not_le] at h116
                  refine w_skipop rfl rfl rfl ?_
                  refine w_skipop rfl rfl rfl ?_
                  refine w_skipop rfl rfl rfl ?_
                  refine w_skipop rfl rfl rfl ?_
                  refine w_pure (want_yes rfl rfl rfl) (y_pickT (v := _) rfl rfl rfl rfl) rfl ?_
                  refine w_pure want_none (y_pickT (v := .bool _) rfl rfl rfl rfl) rfl ?_
                  refine w_nil ?_
                  refine q_then (hK110 _ _ ?_)
                  refine w_condT rfl rfl ?_
                  refine w_region ?_
                  refine w_pure want_none (y_assign (v := _) rfl rfl) rfl ?_
                  refine w_nil ?_
                  refine q_then (hK108 _ _ ?_)
                  refine w_seq (fun K118 hK117 => ?_)
                  refine w_region ?_
                  refine w_pure want_none (y_move (v := .int _ _) rfl rfl) rfl ?_
                  refine w_pure want_none (y_neq rfl rfl rfl rfl) rfl ?_
                  refine w_nil ?_
                  refine q_then (hK117 _ _ ?_)
                  refine w_condT rfl rfl ?_
                  refine w_seq (fun K120 hK119 => ?_)
                  refine w_region ?_
                  refine w_pure want_none (y_move (v := .int _ _) rfl rfl) rfl ?_
                  refine w_pure want_none (y_move (v := .int _ _) rfl rfl) rfl ?_
                  refine w_pure want_none (y_assign (v := _) rfl rfl) rfl ?_
                  refine w_pure want_none (y_assign (v := .int _ _) rfl rfl) rfl ?_
                  refine w_pure want_none (y_assign (v := .int _ _) rfl rfl) rfl ?_
                  refine w_nil ?_
                  refine q_then (hK119 _ _ ?_)
                  refine w_ret ?_
                  refine q_blk_ret ?_
                  refine q_then_ret ?_
                  refine q_then_ret ?_
                  refine q_blk_ret ?_
                  refine q_then_ret ?_
                  refine q_ret (l := [.tmp 2, .tmp 3, .tmp 4]) (vs := [_, _, _]) rfl ⟨⟨rfl, show _ = (.int _ _ : Value) from rfl⟩, ⟨rfl, show _ = (.int _ _ : Value) from rfl⟩, ⟨rfl, show _ = (.int _ _ : Value) from rfl⟩, trivial⟩ ?_
                  first
                    | contradiction
                    | exact ⟨tup3 (chk_r (fail_most (by omega)) (by decide)), hs115.tail.tail.tail.drop⟩
                    | exact ⟨tup3 (chk_s hE1 (fail_most (by omega)) (by decide)), hs115.tail.tail.tail.drop⟩
                    | exact ⟨tup3 (chk_t hE1 hE2 (fail_most (by omega)) (by decide)), hs115.tail.tail.tail.drop⟩
                    | exact ⟨tup3 (chk_r (by rw [fail_go (by omega), hinv, firstE_stop hi2 (by rw [roomE_n (by assumption)]; assumption), roomE_n (by assumption)]) (by assumption)), hs115.tail.tail.tail.drop⟩
                    | exact ⟨tup3 (chk_r (by rw [fail_go (by omega), hinv, firstE_stop hi2 (by rw [roomE_0 (by assumption)]; assumption), roomE_0 (by assumption)]) (by assumption)), hs115.tail.tail.tail.drop⟩
                    | exact ⟨tup3 (chk_s hE1 (by rw [fail_go (by omega), hinv, firstE_stop hi2 (by rw [shopE_n (by assumption)]; assumption), shopE_n (by assumption)]) (by assumption)), hs115.tail.tail.tail.drop⟩
                    | exact ⟨tup3 (chk_s hE1 (by rw [fail_go (by omega), hinv, firstE_stop hi2 (by rw [shopE_0 (by assumption), shop_7 (by omega)]; decide), shopE_0 (by assumption), shop_7 (by omega)]) (by decide)), hs115.tail.tail.tail.drop⟩
                    | exact ⟨tup3 (chk_t hE1 hE2 (by rw [fail_go (by omega), hinv, firstE_stop hi2 (by rw [train_4 (by omega)]; decide), train_4 (by omega)]) (by decide)), hs115.tail.tail.tail.drop⟩
                    | exact ⟨tup3 (chk_t hE1 hE2 (by rw [fail_go (by omega), hinv, firstE_stop hi2 (by rw [train_7 (by omega) (by omega) (by omega)]; decide), train_7 (by omega) (by omega) (by omega)]) (by decide)), hs115.tail.tail.tail.drop⟩
                    | exact ⟨tup3 (chk_0 hE1 hE2 (by rw [fail_go (by omega), hinv, firstE_end (by omega)])), hs115.tail.tail.tail.drop⟩
                ·
                  try simp only [Bool.not_eq_true', Bool.not_eq_false', decide_eq_true_eq, decide_eq_false_iff_not, Int.not_lt, Int.not_le] at h116
                  refine w_pure (want_yes rfl rfl rfl) (y_fieldAddr (o := 2) (i := 2) Try.underlying52 rfl Try.sizeOf3 rfl rfl rfl) rfl ?_
                  refine w_pure (want_yes rfl rfl rfl) (y_load1 Try.isAgg3 hs115 rfl rfl (ats_own (i := 1) (vs := [_]) rfl rfl)) rfl ?_
                  refine w_call (want_yes rfl rfl rfl) Try.call51 rfl rfl rfl rfl (c51 _ _ _ hs115) ?_
                  rintro _ w122 ⟨rfl, hs123⟩
                  refine w_pure (want_yes rfl rfl rfl) (y_not rfl rfl) rfl ?_
                  refine w_pure (want_yes rfl rfl rfl) (y_pickF (v := .bool _) rfl rfl rfl rfl) rfl ?_
                  refine w_pure want_none (y_pickT (v := .bool _) rfl rfl rfl rfl) rfl ?_
                  refine w_nil ?_
                  refine q_then (hK110 _ _ ?_)
                  refine w_cond rfl rfl (fun h124 => ?_) (fun h124 => ?_)
                  ·
                    try simp only [Bool.not_eq_true', Bool.not_eq_false', decide_eq_true_eq, decide_eq_false_iff_not, Int.not_lt, Int.not_le] at h124
                    refine w_region ?_
                    refine w_pure want_none (y_assign (v := _) rfl rfl) rfl ?_
                    refine w_nil ?_
                    refine q_then (hK108 _ _ ?_)
                    refine w_seq (fun K126 hK125 => ?_)
                    refine w_region ?_
                    refine w_pure want_none (y_move (v := .int _ _) rfl rfl) rfl ?_
                    refine w_pure want_none (y_neq rfl rfl rfl rfl) rfl ?_
                    refine w_nil ?_
                    refine q_then (hK125 _ _ ?_)
                    refine w_condT rfl rfl ?_
                    refine w_seq (fun K128 hK127 => ?_)
                    refine w_region ?_
                    refine w_pure want_none (y_move (v := .int _ _) rfl rfl) rfl ?_
                    refine w_pure want_none (y_move (v := .int _ _) rfl rfl) rfl ?_
                    refine w_pure want_none (y_assign (v := _) rfl rfl) rfl ?_
                    refine w_pure want_none (y_assign (v := .int _ _) rfl rfl) rfl ?_
                    refine w_pure want_none (y_assign (v := .int _ _) rfl rfl) rfl ?_
                    refine w_nil ?_
                    refine q_then (hK127 _ _ ?_)
                    refine w_ret ?_
                    refine q_blk_ret ?_
                    refine q_then_ret ?_
                    refine q_then_ret ?_
                    refine q_blk_ret ?_
                    refine q_then_ret ?_
                    refine q_ret (l := [.tmp 2, .tmp 3, .tmp 4]) (vs := [_, _, _]) rfl ⟨⟨rfl, show _ = (.int _ _ : Value) from rfl⟩, ⟨rfl, show _ = (.int _ _ : Value) from rfl⟩, ⟨rfl, show _ = (.int _ _ : Value) from rfl⟩, trivial⟩ ?_
                    first
                      | contradiction
                      | exact ⟨tup3 (chk_r (fail_most (by omega)) (by decide)), hs123.tail.tail.tail.drop⟩
                      | exact ⟨tup3 (chk_s hE1 (fail_most (by omega)) (by decide)), hs123.tail.tail.tail.drop⟩
                      | exact ⟨tup3 (chk_t hE1 hE2 (fail_most (by omega)) (by decide)), hs123.tail.tail.tail.drop⟩
                      | exact ⟨tup3 (chk_r (by rw [fail_go (by omega), hinv, firstE_stop hi2 (by rw [roomE_n (by assumption)]; assumption), roomE_n (by assumption)]) (by assumption)), hs123.tail.tail.tail.drop⟩
                      | exact ⟨tup3 (chk_r (by rw [fail_go (by omega), hinv, firstE_stop hi2 (by rw [roomE_0 (by assumption)]; assumption), roomE_0 (by assumption)]) (by assumption)), hs123.tail.tail.tail.drop⟩
                      | exact ⟨tup3 (chk_s hE1 (by rw [fail_go (by omega), hinv, firstE_stop hi2 (by rw [shopE_n (by assumption)]; assumption), shopE_n (by assumption)]) (by assumption)), hs123.tail.tail.tail.drop⟩
                      | exact ⟨tup3 (chk_s hE1 (by rw [fail_go (by omega), hinv, firstE_stop hi2 (by rw [shopE_0 (by assumption), shop_7 (by omega)]; decide), shopE_0 (by assumption), shop_7 (by omega)]) (by decide)), hs123.tail.tail.tail.drop⟩
                      | exact ⟨tup3 (chk_t hE1 hE2 (by rw [fail_go (by omega), hinv, firstE_stop hi2 (by rw [train_4 (by omega)]; decide), train_4 (by omega)]) (by decide)), hs123.tail.tail.tail.drop⟩
                      | exact ⟨tup3 (chk_t hE1 hE2 (by rw [fail_go (by omega), hinv, firstE_stop hi2 (by rw [train_7 (by omega) (by omega) (by omega)]; decide), train_7 (by omega) (by omega) (by omega)]) (by decide)), hs123.tail.tail.tail.drop⟩
                      | exact ⟨tup3 (chk_0 hE1 hE2 (by rw [fail_go (by omega), hinv, firstE_end (by omega)])), hs123.tail.tail.tail.drop⟩
                  ·
                    try simp only [Bool.not_eq_true', Bool.not_eq_false', decide_eq_true_eq, decide_eq_false_iff_not, Int.not_lt, Int.not_le] at h124
                    refine w_skip ?_
                    refine q_then (hK108 _ _ ?_)
                    refine w_seq (fun K130 hK129 => ?_)
                    refine w_region ?_
                    refine w_pure want_none (y_move (v := .int _ _) rfl rfl) rfl ?_
                    refine w_pure want_none (y_neq rfl rfl rfl rfl) rfl ?_
                    refine w_nil ?_
                    refine q_then (hK129 _ _ ?_)
                    refine w_cond rfl rfl (fun h131 => ?_) (fun h131 => ?_)
                    ·
                      try simp only [Bool.not_eq_true', Bool.not_eq_false', decide_eq_true_eq, decide_eq_false_iff_not, Int.not_lt, Int.not_le] at h131
                      refine w_seq (fun K133 hK132 => ?_)
                      refine w_region ?_
                      refine w_pure want_none (y_move (v := .int _ _) rfl rfl) rfl ?_
                      refine w_pure want_none (y_move (v := .int _ _) rfl rfl) rfl ?_
                      refine w_pure want_none (y_assign (v := _) rfl rfl) rfl ?_
                      refine w_pure want_none (y_assign (v := .int _ _) rfl rfl) rfl ?_
                      refine w_pure want_none (y_assign (v := .int _ _) rfl rfl) rfl ?_
                      refine w_nil ?_
                      refine q_then (hK132 _ _ ?_)
                      refine w_ret ?_
                      refine q_blk_ret ?_
                      refine q_then_ret ?_
                      refine q_then_ret ?_
                      refine q_blk_ret ?_
                      refine q_then_ret ?_
                      refine q_ret (l := [.tmp 2, .tmp 3, .tmp 4]) (vs := [_, _, _]) rfl ⟨⟨rfl, show _ = (.int _ _ : Value) from rfl⟩, ⟨rfl, show _ = (.int _ _ : Value) from rfl⟩, ⟨rfl, show _ = (.int _ _ : Value) from rfl⟩, trivial⟩ ?_
                      first
                        | contradiction
                        | exact ⟨tup3 (chk_r (fail_most (by omega)) (by decide)), hs123.tail.tail.tail.drop⟩
                        | exact ⟨tup3 (chk_s hE1 (fail_most (by omega)) (by decide)), hs123.tail.tail.tail.drop⟩
                        | exact ⟨tup3 (chk_t hE1 hE2 (fail_most (by omega)) (by decide)), hs123.tail.tail.tail.drop⟩
                        | exact ⟨tup3 (chk_r (by rw [fail_go (by omega), hinv, firstE_stop hi2 (by rw [roomE_n (by assumption)]; assumption), roomE_n (by assumption)]) (by assumption)), hs123.tail.tail.tail.drop⟩
                        | exact ⟨tup3 (chk_r (by rw [fail_go (by omega), hinv, firstE_stop hi2 (by rw [roomE_0 (by assumption)]; assumption), roomE_0 (by assumption)]) (by assumption)), hs123.tail.tail.tail.drop⟩
                        | exact ⟨tup3 (chk_s hE1 (by rw [fail_go (by omega), hinv, firstE_stop hi2 (by rw [shopE_n (by assumption)]; assumption), shopE_n (by assumption)]) (by assumption)), hs123.tail.tail.tail.drop⟩
                        | exact ⟨tup3 (chk_s hE1 (by rw [fail_go (by omega), hinv, firstE_stop hi2 (by rw [shopE_0 (by assumption), shop_7 (by omega)]; decide), shopE_0 (by assumption), shop_7 (by omega)]) (by decide)), hs123.tail.tail.tail.drop⟩
                        | exact ⟨tup3 (chk_t hE1 hE2 (by rw [fail_go (by omega), hinv, firstE_stop hi2 (by rw [train_4 (by omega)]; decide), train_4 (by omega)]) (by decide)), hs123.tail.tail.tail.drop⟩
                        | exact ⟨tup3 (chk_t hE1 hE2 (by rw [fail_go (by omega), hinv, firstE_stop hi2 (by rw [train_7 (by omega) (by omega) (by omega)]; decide), train_7 (by omega) (by omega) (by omega)]) (by decide)), hs123.tail.tail.tail.drop⟩
                        | exact ⟨tup3 (chk_0 hE1 hE2 (by rw [fail_go (by omega), hinv, firstE_end (by omega)])), hs123.tail.tail.tail.drop⟩
                    ·
                      try simp only [Bool.not_eq_true', Bool.not_eq_false', decide_eq_true_eq, decide_eq_false_iff_not, Int.not_lt, Int.not_le] at h131
                      refine w_skip ?_
                      refine q_blk_normal ?_
                      refine q_then (hK84 _ _ ?_)
                      refine w_region ?_
                      refine w_pure want_none (y_move (v := .int _ _) rfl rfl) rfl ?_
                      refine w_pure want_none (y_add rfl rfl rfl rfl (by omega) (by omega)) rfl ?_
                      refine w_pure want_none (y_assign (v := .int _ _) rfl rfl) rfl ?_
                      refine w_nil ?_
                      refine q_then (hN76 _ _ (Nx.intro (m.shops.length - (i + 1)) (by omega) (by repeat (first | exact agree_mix | refine agree_upd rfl ?_ | refine agree_updL rfl ?_ _ | refine agree_mixin rfl ?_)) ?_))
                      first
                        | contradiction
                        | exact ⟨i + 1, _, _, rfl, by omega, rfl, hinv.trans (firstE_step hi2 (by rw [shopE_0 (by assumption)]; exact shop_0 (by omega) (by omega))), by rw [← rnames_snoc hi2]; exact ho106, hs123.tail.tail⟩
              ·
                try simp only [Bool.not_eq_true', Bool.not_eq_false', decide_eq_true_eq, decide_eq_false_iff_not, Int.not_lt, Int.not_le] at h112
                refine w_skipop rfl rfl rfl ?_
                refine w_skipop rfl rfl rfl ?_
                refine w_skipop rfl rfl rfl ?_
                refine w_skipop rfl rfl rfl ?_
                refine w_skipop rfl rfl rfl ?_
                refine w_skipop' rfl rfl rfl ?_
                refine w_skipop' rfl rfl rfl ?_
                refine w_skipop' rfl rfl rfl ?_
                refine w_skipop' rfl rfl rfl ?_
                refine w_skipop rfl rfl rfl ?_
                refine w_pure want_none (y_pickF (v := _) rfl rfl rfl rfl) rfl ?_
                refine w_nil ?_
                refine q_then (hK110 _ _ ?_)
                refine w_condF rfl rfl ?_
                refine w_skip ?_
                refine q_then (hK108 _ _ ?_)
                refine w_seq (fun K135 hK134 => ?_)
                refine w_region ?_
                refine w_pure want_none (y_move (v := .int _ _) rfl rfl) rfl ?_
                refine w_pure want_none (y_neq rfl rfl rfl rfl) rfl ?_
                refine w_nil ?_
                refine q_then (hK134 _ _ ?_)
                refine w_cond rfl rfl (fun h136 => ?_) (fun h136 => ?_)
                ·
                  try simp only [Bool.not_eq_true', Bool.not_eq_false', decide_eq_true_eq, decide_eq_false_iff_not, Int.not_lt, Int.not_le] at h136
                  refine w_seq (fun K138 hK137 => ?_)
                  refine w_region ?_
                  refine w_pure want_none (y_move (v := .int _ _) rfl rfl) rfl ?_
                  refine w_pure want_none (y_move (v := .int _ _) rfl rfl) rfl ?_
                  refine w_pure want_none (y_assign (v := _) rfl rfl) rfl ?_
                  refine w_pure want_none (y_assign (v := .int _ _) rfl rfl) rfl ?_
                  refine w_pure want_none (y_assign (v := .int _ _) rfl rfl) rfl ?_
                  refine w_nil ?_
                  refine q_then (hK137 _ _ ?_)
                  refine w_ret ?_
                  refine q_blk_ret ?_
                  refine q_then_ret ?_
                  refine q_then_ret ?_
                  refine q_blk_ret ?_
                  refine q_then_ret ?_
                  refine q_ret (l := [.tmp 2, .tmp 3, .tmp 4]) (vs := [_, _, _]) rfl ⟨⟨rfl, show _ = (.int _ _ : Value) from rfl⟩, ⟨rfl, show _ = (.int _ _ : Value) from rfl⟩, ⟨rfl, show _ = (.int _ _ : Value) from rfl⟩, trivial⟩ ?_
                  first
                    | contradiction
                    | exact ⟨tup3 (chk_r (fail_most (by omega)) (by decide)), hs107.tail.tail.tail.drop⟩
                    | exact ⟨tup3 (chk_s hE1 (fail_most (by omega)) (by decide)), hs107.tail.tail.tail.drop⟩
                    | exact ⟨tup3 (chk_t hE1 hE2 (fail_most (by omega)) (by decide)), hs107.tail.tail.tail.drop⟩
                    | exact ⟨tup3 (chk_r (by rw [fail_go (by omega), hinv, firstE_stop hi2 (by rw [roomE_n (by assumption)]; assumption), roomE_n (by assumption)]) (by assumption)), hs107.tail.tail.tail.drop⟩
                    | exact ⟨tup3 (chk_r (by rw [fail_go (by omega), hinv, firstE_stop hi2 (by rw [roomE_0 (by assumption)]; assumption), roomE_0 (by assumption)]) (by assumption)), hs107.tail.tail.tail.drop⟩
                    | exact ⟨tup3 (chk_s hE1 (by rw [fail_go (by omega), hinv, firstE_stop hi2 (by rw [shopE_n (by assumption)]; assumption), shopE_n (by assumption)]) (by assumption)), hs107.tail.tail.tail.drop⟩
                    | exact ⟨tup3 (chk_s hE1 (by rw [fail_go (by omega), hinv, firstE_stop hi2 (by rw [shopE_0 (by assumption), shop_7 (by omega)]; decide), shopE_0 (by assumption), shop_7 (by omega)]) (by decide)), hs107.tail.tail.tail.drop⟩
                    | exact ⟨tup3 (chk_t hE1 hE2 (by rw [fail_go (by omega), hinv, firstE_stop hi2 (by rw [train_4 (by omega)]; decide), train_4 (by omega)]) (by decide)), hs107.tail.tail.tail.drop⟩
                    | exact ⟨tup3 (chk_t hE1 hE2 (by rw [fail_go (by omega), hinv, firstE_stop hi2 (by rw [train_7 (by omega) (by omega) (by omega)]; decide), train_7 (by omega) (by omega) (by omega)]) (by decide)), hs107.tail.tail.tail.drop⟩
                    | exact ⟨tup3 (chk_0 hE1 hE2 (by rw [fail_go (by omega), hinv, firstE_end (by omega)])), hs107.tail.tail.tail.drop⟩
                ·
                  try simp only [Bool.not_eq_true', Bool.not_eq_false', decide_eq_true_eq, decide_eq_false_iff_not, Int.not_lt, Int.not_le] at h136
                  refine w_skip ?_
                  refine q_blk_normal ?_
                  refine q_then (hK84 _ _ ?_)
                  refine w_region ?_
                  refine w_pure want_none (y_move (v := .int _ _) rfl rfl) rfl ?_
                  refine w_pure want_none (y_add rfl rfl rfl rfl (by omega) (by omega)) rfl ?_
                  refine w_pure want_none (y_assign (v := .int _ _) rfl rfl) rfl ?_
                  refine w_nil ?_
                  refine q_then (hN76 _ _ (Nx.intro (m.shops.length - (i + 1)) (by omega) (by repeat (first | exact agree_mix | refine agree_upd rfl ?_ | refine agree_updL rfl ?_ _ | refine agree_mixin rfl ?_)) ?_))
                  first
                    | contradiction
                    | exact ⟨i + 1, _, _, rfl, by omega, rfl, hinv.trans (firstE_step hi2 (by rw [shopE_0 (by assumption)]; exact shop_0 (by omega) (by omega))), by rw [← rnames_snoc hi2]; exact ho106, hs107.tail.tail⟩
            ·
              try simp only [Bool.not_eq_true', Bool.not_eq_false', decide_eq_true_eq, decide_eq_false_iff_not, Int.not_lt, Int.not_le] at h83
              refine w_exit ?_
              refine q_then_exit ?_
              refine q_then_exit ?_
              refine q_blk_this ?_
              refine q_then (hK72 _ _ ?_)
              refine w_seq (fun K140 hK139 => ?_)
              refine w_seq (fun K142 hK141 => ?_)
              have hE2 : (failE shopE 4 m.shops).2 = 0 := by rw [fail_go (by omega), hinv, firstE_end (by omega)]
              have hs143 := keep_front (Y := B) (show St _ _ (_ :: (B ++ F)) from hs)
              refine w_region ?_
              refine w_pure want_none (y_fieldAddr (o := 2) (i := 2) Try.underlying26 rfl Try.sizeOf24 rfl rfl rfl) rfl ?_
              refine w_pure want_none (y_load1 Try.isAgg24 hs143 rfl rfl (ats_own (i := 0) (vs := [_]) rfl rfl)) rfl ?_
              refine w_pure want_none (y_lenS Try.underlying24 rfl rfl) rfl ?_
              refine w_pure want_none (y_gtr rfl rfl rfl rfl) rfl ?_
              refine w_nil ?_
              refine q_then (hK141 _ _ ?_)
              refine w_cond rfl rfl (fun h144 => ?_) (fun h144 => ?_)
              ·
                try simp only [Bool.not_eq_true', Bool.not_eq_false', decide_eq_true_eq, decide_eq_false_iff_not, Int.not_lt, Int.not_le] at h144
                refine w_seq (fun K146 hK145 => ?_)
                refine w_region ?_
                refine w_pure want_none (y_assign (v := _) rfl rfl) rfl ?_
                refine w_pure want_none (y_assign (v := _) rfl rfl) rfl ?_
                refine w_pure want_none (y_assign (v := _) rfl rfl) rfl ?_
                refine w_nil ?_
                refine q_then (hK145 _ _ ?_)
                refine w_ret ?_
                refine q_then_ret ?_
                refine q_ret (l := [.tmp 2, .tmp 3, .tmp 4]) (vs := [_, _, _]) rfl ⟨⟨rfl, show _ = (.int _ _ : Value) from rfl⟩, ⟨rfl, show _ = (.int _ _ : Value) from rfl⟩, ⟨rfl, show _ = (.int _ _ : Value) from rfl⟩, trivial⟩ ?_
                first
                  | contradiction
                  | exact ⟨tup3 (chk_r (fail_most (by omega)) (by decide)), hs143.tail⟩
                  | exact ⟨tup3 (chk_s hE1 (fail_most (by omega)) (by decide)), hs143.tail⟩
                  | exact ⟨tup3 (chk_t hE1 hE2 (fail_most (by omega)) (by decide)), hs143.tail⟩
                  | exact ⟨tup3 (chk_r (by rw [fail_go (by omega), hinv, firstE_stop hi2 (by rw [roomE_n (by assumption)]; assumption), roomE_n (by assumption)]) (by assumption)), hs143.tail⟩
                  | exact ⟨tup3 (chk_r (by rw [fail_go (by omega), hinv, firstE_stop hi2 (by rw [roomE_0 (by assumption)]; assumption), roomE_0 (by assumption)]) (by assumption)), hs143.tail⟩
                  | exact ⟨tup3 (chk_s hE1 (by rw [fail_go (by omega), hinv, firstE_stop hi2 (by rw [shopE_n (by assumption)]; assumption), shopE_n (by assumption)]) (by assumption)), hs143.tail⟩
                  | exact ⟨tup3 (chk_s hE1 (by rw [fail_go (by omega), hinv, firstE_stop hi2 (by rw [shopE_0 (by assumption), shop_7 (by omega)]; decide), shopE_0 (by assumption), shop_7 (by omega)]) (by decide)), hs143.tail⟩
                  | exact ⟨tup3 (chk_t hE1 hE2 (by rw [fail_go (by omega), hinv, firstE_stop hi2 (by rw [train_4 (by omega)]; decide), train_4 (by omega)]) (by decide)), hs143.tail⟩
                  | exact ⟨tup3 (chk_t hE1 hE2 (by rw [fail_go (by omega), hinv, firstE_stop hi2 (by rw [train_7 (by omega) (by omega) (by omega)]; decide), train_7 (by omega) (by omega) (by omega)]) (by decide)), hs143.tail⟩
                  | exact ⟨tup3 (chk_0 hE1 hE2 (by rw [fail_go (by omega), hinv, firstE_end (by omega)])), hs143.tail⟩
              ·
                try simp only [Bool.not_eq_true', Bool.not_eq_false', decide_eq_true_eq, decide_eq_false_iff_not, Int.not_lt, Int.not_le] at h144
                refine w_skip ?_
                refine q_then (hK139 _ _ ?_)
                refine w_seq (fun K148 hK147 => ?_)
                refine w_seq (fun K150 hK149 => ?_)
                refine w_region ?_
                refine w_pure want_none (y_assign (v := _) rfl rfl) rfl ?_
                refine w_nil ?_
                refine q_then (hK149 _ _ ?_)
                refine w_block ?_
                refine w_loop [2, 3, 4, 11, 12, 100, 101, 102, 103, 104, 105, 106, 107, 108, 109, 110, 111, 112, 113, 114, 115, 116, 117, 118, 119, 120, 121, 122, 123, 124, 125, 126, 127, 128, 129, 130, 131, 132, 133, 134, 135, 136, 137, 138, 139, 140, 141] [11] (fun k vs w => ∃ i : Nat, vs = [.int .i64 i] ∧ i ≤ m.trains.length ∧ k = m.trains.length - i ∧ firstE (trainE m) [] 0 m.trains = firstE (trainE m) (m.trains.take i) (i : Nat) (m.trains.drop i) ∧ St w0 w ((b3, blk 26 (m.cells ⟨ar, cr, as_, cs, at_, ct⟩)) :: F)) (m.trains.length) ?_ ?_
                ·
                  exact ⟨0, rfl, by omega, by omega, by simp, hs143⟩
                ·
                  intro k vs μ w153 hI K152 hN151
                  obtain ⟨i, rfl, hia, rfl, hinv, hs⟩ := hI
                  refine w_seq (fun K155 hK154 => ?_)
                  refine w_seq (fun K157 hK156 => ?_)
                  refine w_region ?_
                  refine w_pure want_none (y_move (v := .int _ _) rfl rfl) rfl ?_
                  refine w_pure want_none (y_fieldAddr (o := 2) (i := 2) Try.underlying26 rfl Try.sizeOf24 rfl rfl rfl) rfl ?_
                  refine w_pure want_none (y_load1 Try.isAgg24 hs rfl rfl (ats_own (i := 0) (vs := [_]) rfl rfl)) rfl ?_
                  refine w_pure want_none (y_lenS Try.underlying24 rfl rfl) rfl ?_
                  refine w_pure want_none (y_lss rfl rfl rfl rfl) rfl ?_
                  refine w_nil ?_
                  refine q_then (hK156 _ _ ?_)
                  refine w_cond rfl rfl (fun h158 => ?_) (fun h158 => ?_)
                  ·
                    try simp only [Bool.not_eq_true', Bool.not_eq_false', decide_eq_true_eq, decide_eq_false_iff_not, Int.not_lt, Int.not_le] at h158
                    refine w_skip ?_
                    refine q_then (hK154 _ _ ?_)
                    refine w_seq (fun K160 hK159 => ?_)
                    refine w_block ?_
                    refine w_seq (fun K162 hK161 => ?_)
                    have hi2 : i < m.trains.length := by omega
                    obtain ⟨t1, ot1, hbt1, hxt1⟩ := sl_trows hm.t hi2
                    subst hbt1
                    refine w_region ?_
                    refine w_pure want_none (y_fieldAddr (o := 2) (i := 2) Try.underlying26 rfl Try.sizeOf24 rfl rfl rfl) rfl ?_
                    refine w_pure want_none (y_load1 Try.isAgg24 hs rfl rfl (ats_own (i := 0) (vs := [_]) rfl rfl)) rfl ?_
                    refine w_pure want_none (y_move (v := .int _ _) rfl rfl) rfl ?_
                    refine w_pure want_none (y_indexS Try.underlying24 Try.sizeOf63 rfl rfl rfl rfl (i := _) rfl (by omega)) rfl ?_
                    refine w_pure want_none (y_loadN (vs := [_, _, _, _]) Try.isAgg63 Try.sizeOf63 hs.tail rfl rfl hxt1) rfl ?_
                    refine w_alloc (cs := [_, _, _, _]) want_none Try.zeroValue63 rfl hs (fun b163 w164 hs165 => ?_)
                    refine w_store (i := 0) (v := .agg #[.int _ _, .int _ _, .int _ _, .int _ _]) (vs := [_, _, _, _]) want_none Try.sizeOf63 rfl rfl rfl rfl rfl (by simp [Value.oneCell']) hs165 rfl (Nat.le_of_ble_eq_true rfl) (fun w166 hs167 => ?_)
                    refine w_nil ?_
                    refine q_then (hK161 _ _ ?_)
                    refine w_seq (fun K169 hK168 => ?_)
                    refine w_seq (fun K171 hK170 => ?_)
                    refine w_region ?_
                    refine w_pure want_none (y_fieldAddr (o := 0) (i := 0) Try.underlying63 rfl Try.sizeOf3 rfl rfl rfl) rfl ?_
                    refine w_pure want_none (y_load1 Try.isAgg3 hs167 rfl rfl (ats_own (i := 0) (vs := [_]) rfl rfl)) rfl ?_
                    refine w_pure want_none (y_fieldAddr (o := 0) (i := 0) Try.underlying26 rfl Try.sizeOf22 rfl rfl rfl) rfl ?_
                    refine w_pure want_none (y_load1 Try.isAgg22 hs167 rfl rfl (ats_own (i := 1) (vs := [_]) rfl rfl)) rfl ?_
                    refine w_pure want_none (y_lenS Try.underlying22 rfl rfl) rfl ?_
                    refine w_pure want_none (y_sub rfl rfl rfl rfl (by omega) (by omega)) rfl ?_
                    refine w_call want_none Try.call51 rfl rfl rfl rfl (c51 _ _ _ hs167) ?_
                    rintro _ w173 ⟨rfl, hs174⟩
                    refine w_pure want_none (y_not rfl rfl) rfl ?_
                    refine w_pure want_none (y_move (v := .bool _) rfl rfl) rfl ?_
                    refine w_split (fun h175 => ?_) (fun h175 => ?_)
                    ·
                      try simp only [Bool.not_eq_true', Bool.not_eq_false', decide_eq_true_eq, decide_eq_false_iff_not, Int.not_lt, Int.not_le] at h175
                      refine w_skipop rfl rfl rfl ?_
                      refine w_skipop rfl rfl rfl ?_
                      refine w_skipop rfl rfl rfl ?_
                      refine w_skipop rfl rfl rfl ?_
                      refine w_skipop rfl rfl rfl ?_
                      refine w_skipop rfl rfl rfl ?_
                      refine w_skipop rfl rfl rfl ?_
                      refine w_skipop rfl rfl rfl ?_
                      refine w_pure want_none (y_pickT (v := _) rfl rfl rfl rfl) rfl ?_
                      refine w_nil ?_
                      refine q_then (hK170 _ _ ?_)
                      refine w_condT rfl rfl ?_
                      refine w_seq (fun K177 hK176 => ?_)
                      refine w_region ?_
                      refine w_pure want_none (y_move (v := .int _ _) rfl rfl) rfl ?_
                      refine w_pure want_none (y_assign (v := _) rfl rfl) rfl ?_
                      refine w_pure want_none (y_assign (v := .int _ _) rfl rfl) rfl ?_
                      refine w_pure want_none (y_assign (v := _) rfl rfl) rfl ?_
                      refine w_nil ?_
                      refine q_then (hK176 _ _ ?_)
                      refine w_ret ?_
                      refine q_then_ret ?_
                      refine q_blk_ret ?_
                      refine q_then_ret ?_
                      refine q_then_ret ?_
                      refine q_blk_ret ?_
                      refine q_then_ret ?_
                      refine q_ret (l := [.tmp 2, .tmp 3, .tmp 4]) (vs := [_, _, _]) rfl ⟨⟨rfl, show _ = (.int _ _ : Value) from rfl⟩, ⟨rfl, show _ = (.int _ _ : Value) from rfl⟩, ⟨rfl, show _ = (.int _ _ : Value) from rfl⟩, trivial⟩ ?_
                      first
                        | contradiction
                        | exact ⟨tup3 (chk_r (fail_most (by omega)) (by decide)), hs174.tail.tail⟩
                        | exact ⟨tup3 (chk_s hE1 (fail_most (by omega)) (by decide)), hs174.tail.tail⟩
                        | exact ⟨tup3 (chk_t hE1 hE2 (fail_most (by omega)) (by decide)), hs174.tail.tail⟩
                        | exact ⟨tup3 (chk_r (by rw [fail_go (by omega), hinv, firstE_stop hi2 (by rw [roomE_n (by assumption)]; assumption), roomE_n (by assumption)]) (by assumption)), hs174.tail.tail⟩
                        | exact ⟨tup3 (chk_r (by rw [fail_go (by omega), hinv, firstE_stop hi2 (by rw [roomE_0 (by assumption)]; assumption), roomE_0 (by assumption)]) (by assumption)), hs174.tail.tail⟩
                        | exact ⟨tup3 (chk_s hE1 (by rw [fail_go (by omega), hinv, firstE_stop hi2 (by rw [shopE_n (by assumption)]; assumption), shopE_n (by assumption)]) (by assumption)), hs174.tail.tail⟩
                        | exact ⟨tup3 (chk_s hE1 (by rw [fail_go (by omega), hinv, firstE_stop hi2 (by rw [shopE_0 (by assumption), shop_7 (by omega)]; decide), shopE_0 (by assumption), shop_7 (by omega)]) (by decide)), hs174.tail.tail⟩
                        | exact ⟨tup3 (chk_t hE1 hE2 (by rw [fail_go (by omega), hinv, firstE_stop hi2 (by rw [train_4 (by omega)]; decide), train_4 (by omega)]) (by decide)), hs174.tail.tail⟩
                        | exact ⟨tup3 (chk_t hE1 hE2 (by rw [fail_go (by omega), hinv, firstE_stop hi2 (by rw [train_7 (by omega) (by omega) (by omega)]; decide), train_7 (by omega) (by omega) (by omega)]) (by decide)), hs174.tail.tail⟩
                        | exact ⟨tup3 (chk_0 hE1 hE2 (by rw [fail_go (by omega), hinv, firstE_end (by omega)])), hs174.tail.tail⟩
                    ·
                      try simp only [Bool.not_eq_true', Bool.not_eq_false', decide_eq_true_eq, decide_eq_false_iff_not, Int.not_lt, Int.not_le] at h175
                      refine w_pure (want_yes rfl rfl rfl) (y_fieldAddr (o := 1) (i := 1) Try.underlying63 rfl Try.sizeOf3 rfl rfl rfl) rfl ?_
                      refine w_pure (want_yes rfl rfl rfl) (y_load1 Try.isAgg3 hs174 rfl rfl (ats_own (i := 0) (vs := [_]) rfl rfl)) rfl ?_
                      refine w_pure (want_yes rfl rfl rfl) (y_fieldAddr (o := 1) (i := 1) Try.underlying26 rfl Try.sizeOf23 rfl rfl rfl) rfl ?_
                      refine w_pure (want_yes rfl rfl rfl) (y_load1 Try.isAgg23 hs174 rfl rfl (ats_own (i := 1) (vs := [_]) rfl rfl)) rfl ?_
                      refine w_pure (want_yes rfl rfl rfl) (y_lenS Try.underlying23 rfl rfl) rfl ?_
                      refine w_pure (want_yes rfl rfl rfl) (y_sub rfl rfl rfl rfl (by omega) (by omega)) rfl ?_
                      refine w_call (want_yes rfl rfl rfl) Try.call51 rfl rfl rfl rfl (c51 _ _ _ hs174) ?_
                      rintro _ w179 ⟨rfl, hs180⟩
                      refine w_pure (want_yes rfl rfl rfl) (y_not rfl rfl) rfl ?_
                      refine w_pure want_none (y_pickF (v := .bool _) rfl rfl rfl rfl) rfl ?_
                      refine w_nil ?_
                      refine q_then (hK170 _ _ ?_)
                      refine w_cond rfl rfl (fun h181 => ?_) (fun h181 => ?_)
                      ·
                        try simp only [Bool.not_eq_true', Bool.not_eq_false', decide_eq_true_eq, decide_eq_false_iff_not, Int.not_lt, Int.not_le] at h181
                        refine w_seq (fun K183 hK182 => ?_)
                        refine w_region ?_
                        refine w_pure want_none (y_move (v := .int _ _) rfl rfl) rfl ?_
                        refine w_pure want_none (y_assign (v := _) rfl rfl) rfl ?_
                        refine w_pure want_none (y_assign (v := .int _ _) rfl rfl) rfl ?_
                        refine w_pure want_none (y_assign (v := _) rfl rfl) rfl ?_
                        refine w_nil ?_
                        refine q_then (hK182 _ _ ?_)
                        refine w_ret ?_
                        refine q_then_ret ?_
                        refine q_blk_ret ?_
                        refine q_then_ret ?_
                        refine q_then_ret ?_
                        refine q_blk_ret ?_
                        refine q_then_ret ?_
                        refine q_ret (l := [.tmp 2, .tmp 3, .tmp 4]) (vs := [_, _, _]) rfl ⟨⟨rfl, show _ = (.int _ _ : Value) from rfl⟩, ⟨rfl, show _ = (.int _ _ : Value) from rfl⟩, ⟨rfl, show _ = (.int _ _ : Value) from rfl⟩, trivial⟩ ?_
                        first
                          | contradiction
                          | exact ⟨tup3 (chk_r (fail_most (by omega)) (by decide)), hs180.tail.tail⟩
                          | exact ⟨tup3 (chk_s hE1 (fail_most (by omega)) (by decide)), hs180.tail.tail⟩
                          | exact ⟨tup3 (chk_t hE1 hE2 (fail_most (by omega)) (by decide)), hs180.tail.tail⟩
                          | exact ⟨tup3 (chk_r (by rw [fail_go (by omega), hinv, firstE_stop hi2 (by rw [roomE_n (by assumption)]; assumption), roomE_n (by assumption)]) (by assumption)), hs180.tail.tail⟩
                          | exact ⟨tup3 (chk_r (by rw [fail_go (by omega), hinv, firstE_stop hi2 (by rw [roomE_0 (by assumption)]; assumption), roomE_0 (by assumption)]) (by assumption)), hs180.tail.tail⟩
                          | exact ⟨tup3 (chk_s hE1 (by rw [fail_go (by omega), hinv, firstE_stop hi2 (by rw [shopE_n (by assumption)]; assumption), shopE_n (by assumption)]) (by assumption)), hs180.tail.tail⟩
                          | exact ⟨tup3 (chk_s hE1 (by rw [fail_go (by omega), hinv, firstE_stop hi2 (by rw [shopE_0 (by assumption), shop_7 (by omega)]; decide), shopE_0 (by assumption), shop_7 (by omega)]) (by decide)), hs180.tail.tail⟩
                          | exact ⟨tup3 (chk_t hE1 hE2 (by rw [fail_go (by omega), hinv, firstE_stop hi2 (by rw [train_4 (by omega)]; decide), train_4 (by omega)]) (by decide)), hs180.tail.tail⟩
                          | exact ⟨tup3 (chk_t hE1 hE2 (by rw [fail_go (by omega), hinv, firstE_stop hi2 (by rw [train_7 (by omega) (by omega) (by omega)]; decide), train_7 (by omega) (by omega) (by omega)]) (by decide)), hs180.tail.tail⟩
                          | exact ⟨tup3 (chk_0 hE1 hE2 (by rw [fail_go (by omega), hinv, firstE_end (by omega)])), hs180.tail.tail⟩
                      ·
                        try simp only [Bool.not_eq_true', Bool.not_eq_false', decide_eq_true_eq, decide_eq_false_iff_not, Int.not_lt, Int.not_le] at h181
                        refine w_skip ?_
                        refine q_then (hK168 _ _ ?_)
                        refine w_seq (fun K185 hK184 => ?_)
                        refine w_region ?_
                        refine w_pure want_none (y_fieldAddr (o := 2) (i := 2) Try.underlying63 rfl Try.sizeOf3 rfl rfl rfl) rfl ?_
                        refine w_pure want_none (y_load1 Try.isAgg3 hs180 rfl rfl (ats_own (i := 0) (vs := [_]) rfl rfl)) rfl ?_
                        refine w_call want_none Try.call51 rfl rfl rfl rfl (c51 _ _ _ hs180) ?_
                        rintro _ w187 ⟨rfl, hs188⟩
                        refine w_pure want_none (y_not rfl rfl) rfl ?_
                        refine w_pure want_none (y_move (v := .bool _) rfl rfl) rfl ?_
                        refine w_split (fun h189 => ?_) (fun h189 => ?_)
                        ·
                          try simp only [Bool.not_eq_true', Bool.not_eq_false', decide_eq_true_eq, decide_eq_false_iff_not, Int.not_lt, Int.not_le] at h189
                          refine w_skipop rfl rfl rfl ?_
                          refine w_skipop rfl rfl rfl ?_
                          refine w_skipop rfl rfl rfl ?_
                          refine w_skipop rfl rfl rfl ?_
                          refine w_pure want_none (y_pickT (v := _) rfl rfl rfl rfl) rfl ?_
                          refine w_nil ?_
                          refine q_then (hK184 _ _ ?_)
                          refine w_condT rfl rfl ?_
                          refine w_seq (fun K191 hK190 => ?_)
                          refine w_region ?_
                          refine w_pure want_none (y_move (v := .int _ _) rfl rfl) rfl ?_
                          refine w_pure want_none (y_assign (v := _) rfl rfl) rfl ?_
                          refine w_pure want_none (y_assign (v := .int _ _) rfl rfl) rfl ?_
                          refine w_pure want_none (y_assign (v := _) rfl rfl) rfl ?_
                          refine w_nil ?_
                          refine q_then (hK190 _ _ ?_)
                          refine w_ret ?_
                          refine q_blk_ret ?_
                          refine q_then_ret ?_
                          refine q_then_ret ?_
                          refine q_blk_ret ?_
                          refine q_then_ret ?_
                          refine q_ret (l := [.tmp 2, .tmp 3, .tmp 4]) (vs := [_, _, _]) rfl ⟨⟨rfl, show _ = (.int _ _ : Value) from rfl⟩, ⟨rfl, show _ = (.int _ _ : Value) from rfl⟩, ⟨rfl, show _ = (.int _ _ : Value) from rfl⟩, trivial⟩ ?_
                          first
                            | contradiction
                            | exact ⟨tup3 (chk_r (fail_most (by omega)) (by decide)), hs188.tail.tail⟩
                            | exact ⟨tup3 (chk_s hE1 (fail_most (by omega)) (by decide)), hs188.tail.tail⟩
                            | exact ⟨tup3 (chk_t hE1 hE2 (fail_most (by omega)) (by decide)), hs188.tail.tail⟩
                            | exact ⟨tup3 (chk_r (by rw [fail_go (by omega), hinv, firstE_stop hi2 (by rw [roomE_n (by assumption)]; assumption), roomE_n (by assumption)]) (by assumption)), hs188.tail.tail⟩
                            | exact ⟨tup3 (chk_r (by rw [fail_go (by omega), hinv, firstE_stop hi2 (by rw [roomE_0 (by assumption)]; assumption), roomE_0 (by assumption)]) (by assumption)), hs188.tail.tail⟩
                            | exact ⟨tup3 (chk_s hE1 (by rw [fail_go (by omega), hinv, firstE_stop hi2 (by rw [shopE_n (by assumption)]; assumption), shopE_n (by assumption)]) (by assumption)), hs188.tail.tail⟩
                            | exact ⟨tup3 (chk_s hE1 (by rw [fail_go (by omega), hinv, firstE_stop hi2 (by rw [shopE_0 (by assumption), shop_7 (by omega)]; decide), shopE_0 (by assumption), shop_7 (by omega)]) (by decide)), hs188.tail.tail⟩
                            | exact ⟨tup3 (chk_t hE1 hE2 (by rw [fail_go (by omega), hinv, firstE_stop hi2 (by rw [train_4 (by omega)]; decide), train_4 (by omega)]) (by decide)), hs188.tail.tail⟩
                            | exact ⟨tup3 (chk_t hE1 hE2 (by rw [fail_go (by omega), hinv, firstE_stop hi2 (by rw [train_7 (by omega) (by omega) (by omega)]; decide), train_7 (by omega) (by omega) (by omega)]) (by decide)), hs188.tail.tail⟩
                            | exact ⟨tup3 (chk_0 hE1 hE2 (by rw [fail_go (by omega), hinv, firstE_end (by omega)])), hs188.tail.tail⟩
                        ·
                          try simp only [Bool.not_eq_true', Bool.not_eq_false', decide_eq_true_eq, decide_eq_false_iff_not, Int.not_lt, Int.not_le] at h189
                          refine w_pure (want_yes rfl rfl rfl) (y_fieldAddr (o := 3) (i := 3) Try.underlying63 rfl Try.sizeOf3 rfl rfl rfl) rfl ?_
                          refine w_pure (want_yes rfl rfl rfl) (y_load1 Try.isAgg3 hs188 rfl rfl (ats_own (i := 0) (vs := [_]) rfl rfl)) rfl ?_
                          refine w_call (want_yes rfl rfl rfl) Try.call51 rfl rfl rfl rfl (c51 _ _ _ hs188) ?_
                          rintro _ w193 ⟨rfl, hs194⟩
                          refine w_pure (want_yes rfl rfl rfl) (y_not rfl rfl) rfl ?_
                          refine w_pure want_none (y_pickF (v := .bool _) rfl rfl rfl rfl) rfl ?_
                          refine w_nil ?_
                          refine q_then (hK184 _ _ ?_)
                          refine w_cond rfl rfl (fun h195 => ?_) (fun h195 => ?_)
                          ·
                            try simp only [Bool.not_eq_true', Bool.not_eq_false', decide_eq_true_eq, decide_eq_false_iff_not, Int.not_lt, Int.not_le] at h195
                            refine w_seq (fun K197 hK196 => ?_)
                            refine w_region ?_
                            refine w_pure want_none (y_move (v := .int _ _) rfl rfl) rfl ?_
                            refine w_pure want_none (y_assign (v := _) rfl rfl) rfl ?_
                            refine w_pure want_none (y_assign (v := .int _ _) rfl rfl) rfl ?_
                            refine w_pure want_none (y_assign (v := _) rfl rfl) rfl ?_
                            refine w_nil ?_
                            refine q_then (hK196 _ _ ?_)
                            refine w_ret ?_
                            refine q_blk_ret ?_
                            refine q_then_ret ?_
                            refine q_then_ret ?_
                            refine q_blk_ret ?_
                            refine q_then_ret ?_
                            refine q_ret (l := [.tmp 2, .tmp 3, .tmp 4]) (vs := [_, _, _]) rfl ⟨⟨rfl, show _ = (.int _ _ : Value) from rfl⟩, ⟨rfl, show _ = (.int _ _ : Value) from rfl⟩, ⟨rfl, show _ = (.int _ _ : Value) from rfl⟩, trivial⟩ ?_
                            first
                              | contradiction
                              | exact ⟨tup3 (chk_r (fail_most (by omega)) (by decide)), hs194.tail.tail⟩
                              | exact ⟨tup3 (chk_s hE1 (fail_most (by omega)) (by decide)), hs194.tail.tail⟩
                              | exact ⟨tup3 (chk_t hE1 hE2 (fail_most (by omega)) (by decide)), hs194.tail.tail⟩
                              | exact ⟨tup3 (chk_r (by rw [fail_go (by omega), hinv, firstE_stop hi2 (by rw [roomE_n (by assumption)]; assumption), roomE_n (by assumption)]) (by assumption)), hs194.tail.tail⟩
                              | exact ⟨tup3 (chk_r (by rw [fail_go (by omega), hinv, firstE_stop hi2 (by rw [roomE_0 (by assumption)]; assumption), roomE_0 (by assumption)]) (by assumption)), hs194.tail.tail⟩
                              | exact ⟨tup3 (chk_s hE1 (by rw [fail_go (by omega), hinv, firstE_stop hi2 (by rw [shopE_n (by assumption)]; assumption), shopE_n (by assumption)]) (by assumption)), hs194.tail.tail⟩
                              | exact ⟨tup3 (chk_s hE1 (by rw [fail_go (by omega), hinv, firstE_stop hi2 (by rw [shopE_0 (by assumption), shop_7 (by omega)]; decide), shopE_0 (by assumption), shop_7 (by omega)]) (by decide)), hs194.tail.tail⟩
                              | exact ⟨tup3 (chk_t hE1 hE2 (by rw [fail_go (by omega), hinv, firstE_stop hi2 (by rw [train_4 (by omega)]; decide), train_4 (by omega)]) (by decide)), hs194.tail.tail⟩
                              | exact ⟨tup3 (chk_t hE1 hE2 (by rw [fail_go (by omega), hinv, firstE_stop hi2 (by rw [train_7 (by omega) (by omega) (by omega)]; decide), train_7 (by omega) (by omega) (by omega)]) (by decide)), hs194.tail.tail⟩
                              | exact ⟨tup3 (chk_0 hE1 hE2 (by rw [fail_go (by omega), hinv, firstE_end (by omega)])), hs194.tail.tail⟩
                          ·
                            try simp only [Bool.not_eq_true', Bool.not_eq_false', decide_eq_true_eq, decide_eq_false_iff_not, Int.not_lt, Int.not_le] at h195
                            refine w_skip ?_
                            refine q_blk_normal ?_
                            refine q_then (hK159 _ _ ?_)
                            refine w_region ?_
                            refine w_pure want_none (y_move (v := .int _ _) rfl rfl) rfl ?_
                            refine w_pure want_none (y_add rfl rfl rfl rfl (by omega) (by omega)) rfl ?_
                            refine w_pure want_none (y_assign (v := .int _ _) rfl rfl) rfl ?_
                            refine w_nil ?_
                            refine q_then (hN151 _ _ (Nx.intro (m.trains.length - (i + 1)) (by omega) (by repeat (first | exact agree_mix | refine agree_upd rfl ?_ | refine agree_updL rfl ?_ _ | refine agree_mixin rfl ?_)) ?_))
                            exact ⟨i + 1, rfl, by omega, rfl, hinv.trans (firstE_step hi2 (train_0 (by omega) (by omega) (by omega) (by omega))), hs194.tail⟩
                  ·
                    try simp only [Bool.not_eq_true', Bool.not_eq_false', decide_eq_true_eq, decide_eq_false_iff_not, Int.not_lt, Int.not_le] at h158
                    refine w_exit ?_
                    refine q_then_exit ?_
                    refine q_then_exit ?_
                    refine q_blk_this ?_
                    refine q_then (hK147 _ _ ?_)
                    refine w_seq (fun K199 hK198 => ?_)
                    refine w_region ?_
                    refine w_pure want_none (y_assign (v := _) rfl rfl) rfl ?_
                    refine w_pure want_none (y_assign (v := _) rfl rfl) rfl ?_
                    refine w_pure want_none (y_assign (v := _) rfl rfl) rfl ?_
                    refine w_nil ?_
                    refine q_then (hK198 _ _ ?_)
                    refine w_ret ?_
                    refine q_ret (l := [.tmp 2, .tmp 3, .tmp 4]) (vs := [_, _, _]) rfl ⟨⟨rfl, show _ = (.int _ _ : Value) from rfl⟩, ⟨rfl, show _ = (.int _ _ : Value) from rfl⟩, ⟨rfl, show _ = (.int _ _ : Value) from rfl⟩, trivial⟩ ?_
                    first
                      | contradiction
                      | exact ⟨tup3 (chk_r (fail_most (by omega)) (by decide)), hs.tail⟩
                      | exact ⟨tup3 (chk_s hE1 (fail_most (by omega)) (by decide)), hs.tail⟩
                      | exact ⟨tup3 (chk_t hE1 hE2 (fail_most (by omega)) (by decide)), hs.tail⟩
                      | exact ⟨tup3 (chk_r (by rw [fail_go (by omega), hinv, firstE_stop hi2 (by rw [roomE_n (by assumption)]; assumption), roomE_n (by assumption)]) (by assumption)), hs.tail⟩
                      | exact ⟨tup3 (chk_r (by rw [fail_go (by omega), hinv, firstE_stop hi2 (by rw [roomE_0 (by assumption)]; assumption), roomE_0 (by assumption)]) (by assumption)), hs.tail⟩
                      | exact ⟨tup3 (chk_s hE1 (by rw [fail_go (by omega), hinv, firstE_stop hi2 (by rw [shopE_n (by assumption)]; assumption), shopE_n (by assumption)]) (by assumption)), hs.tail⟩
                      | exact ⟨tup3 (chk_s hE1 (by rw [fail_go (by omega), hinv, firstE_stop hi2 (by rw [shopE_0 (by assumption), shop_7 (by omega)]; decide), shopE_0 (by assumption), shop_7 (by omega)]) (by decide)), hs.tail⟩
                      | exact ⟨tup3 (chk_t hE1 hE2 (by rw [fail_go (by omega), hinv, firstE_stop hi2 (by rw [train_4 (by omega)]; decide), train_4 (by omega)]) (by decide)), hs.tail⟩
                      | exact ⟨tup3 (chk_t hE1 hE2 (by rw [fail_go (by omega), hinv, firstE_stop hi2 (by rw [train_7 (by omega) (by omega) (by omega)]; decide), train_7 (by omega) (by omega) (by omega)]) (by decide)), hs.tail⟩
                      | exact ⟨tup3 (chk_0 hE1 hE2 (by rw [fail_go (by omega), hinv, firstE_end (by omega)])), hs.tail⟩

end Go.Proofs
