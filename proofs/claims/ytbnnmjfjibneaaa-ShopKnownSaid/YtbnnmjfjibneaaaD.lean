/- Walks of this seat, printed by gen.py over the engine: what each function returns, in whatever world. No conditions but those of each contract. -/
import Derived.Test.YtbnnmjfjibneaaaC
set_option linter.unusedVariables false
set_option linter.unusedSimpArgs false
set_option maxRecDepth 20000
namespace Go.Proofs
open Go.Rt Go.Rt.Sh
attribute [local irreducible] WL WC Con Yd At Ats Sl Agree DW
theorem Try_D_fb0 (x0 : ByteArray) (w : World) : (Instr.buildSlice 73 1 [(0, .string x0)].toArray).run Try.prog w = .ok (.slice (some ⟨w.heap.size, 0, none⟩) 1 1) (w.alloc (Go.Rt.blk 9 [.string x0])) := by kernel_rfl
theorem Try_info9 : Try.prog.info? 9 = some Try.t9 := by kernel_rfl
theorem Try_D_fb2 (x0 : Int) (x1 : Int) (w : World) : (Instr.buildSlice 30 2 [(0, .int .i64 x0), (1, .int .i64 x1)].toArray).run Try.prog w = .ok (.slice (some ⟨w.heap.size, 0, none⟩) 2 2) (w.alloc (Go.Rt.blk 3 [.int .i64 x0, .int .i64 x1])) := by kernel_rfl
theorem Try_D_fb3 (x0 : Int) (w : World) : (Instr.buildSlice 30 1 [(0, .int .i64 x0)].toArray).run Try.prog w = .ok (.slice (some ⟨w.heap.size, 0, none⟩) 1 1) (w.alloc (Go.Rt.blk 3 [.int .i64 x0])) := by kernel_rfl
/-- What is known of a market that comes in. -/
structure MIn (w0 : World) (F : List (Nat × Obj)) (m : Market) (p : At3) : Prop where
  r : Sl w0 F p.ar 5 (rrows m.rooms)
  s : Sl w0 F p.as 3 (srows m.shops)
  t : Sl w0 F p.at_ 4 (trows m.trains)
  lr : m.rooms.length ≤ 9223372036854775807
  ls : m.shops.length ≤ 9223372036854775807
  lt : m.trains.length ≤ 9223372036854775807
  cr : m.rooms.length ≤ p.cr
  cs : m.shops.length ≤ p.cs
  ct : m.trains.length ≤ p.ct
  nr : ∀ x ∈ m.rooms, x.name.size ≤ 9223372036854775807
  ns : ∀ x ∈ m.shops, x.name.size ≤ 9223372036854775807
theorem MIn.mono {w0 : World} {F F' : List (Nat × Obj)} {m : Market} {p : At3} (h : MIn w0 F m p) (hs : ∀ w, St w0 w F' → St w0 w F) : MIn w0 F' m p := ⟨h.r.mono hs, h.s.mono hs, h.t.mono hs, h.lr, h.ls, h.lt, h.cr, h.cs, h.ct, h.nr, h.ns⟩
theorem MIn.cons {w0 : World} {F : List (Nat × Obj)} {x : Nat × Obj} {m : Market} {p : At3} (h : MIn w0 F m p) : MIn w0 (x :: F) m p := h.mono fun _ h => h.tail
theorem MIn.app {w0 : World} {F B : List (Nat × Obj)} {m : Market} {p : At3} (h : MIn w0 F m p) : MIn w0 (B ++ F) m p := h.mono fun _ h => h.drop
theorem keep_front {w0 w : World} {x : Nat × Obj} {Y F : List (Nat × Obj)} (h : St w0 w (x :: (Y ++ F))) : St w0 w (x :: F) := (h.perm (perm_mid [x] Y F)).drop
theorem tup3 {x : Int × Int × Int} {a b c : Int} (h : x = (a, b, c)) : Value.tuple #[.int .i64 a, .int .i64 b, .int .i64 c] = .tuple #[.int .i64 x.1, .int .i64 x.2.1, .int .i64 x.2.2] := by subst h; rfl
theorem nameE_nz {b : List ByteArray} {s : ByteArray} : nameE b s = 0 ∨ nameE b s = 5 ∨ nameE b s = 6 := by unfold nameE; split <;> (try split) <;> simp
theorem roomE_name {bf : List Room} {x : Room} (h : ¬ nameE (bf.map (·.name)) x.name = 0) : nameE (bf.map (·.name)) x.name = roomE bf x := by unfold roomE; rw [if_pos h]
theorem roomE_own {bf : List Room} {x : Room} (h : nameE (bf.map (·.name)) x.name = 0) : roomE bf x = roomOwn x := by unfold roomE; rw [if_neg (by simp [h])]
theorem shopE_name {bf : List Shop} {x : Shop} (h : ¬ nameE (bf.map (·.name)) x.name = 0) : nameE (bf.map (·.name)) x.name = shopE bf x := by unfold shopE; rw [if_pos h]
theorem shopE_own {bf : List Shop} {x : Shop} (h : nameE (bf.map (·.name)) x.name = 0) : shopE bf x = shopOwn x := by unfold shopE; rw [if_neg (by simp [h])]
theorem own_name {v : Value} {l : List ByteArray} {s : ByteArray} {B : List (Nat × Obj)} (h : Rt.Own v 9 1 (l.length + 1) (strs l ++ [[Value.string s]].flatten) B) : Rt.Own v 9 1 (l ++ [s]).length (strs (l ++ [s])) B := by simpa [strs] using h
theorem c55 {w0 w : World} {F : List (Nat × Obj)} (i : Int) (x : Room) (hx : x.name.size ≤ 9223372036854775807) (bf : List Room) (hbf : bf.length ≤ 1000) (bn : Nat) (v : Value) (N : List (Nat × Obj)) (hown : Rt.Own v 9 1 (bf.map (·.name)).length (strs (bf.map (·.name))) N) (hs : St w0 w ((bn, blk 73 [v]) :: (N ++ F))) :
    Con Try.prog 55 [.int .i64 i, .agg x.cells.toArray, .pointer (some ⟨bn, 0, none⟩)] w fun u w' => u = .int .i64 (roomE bf x) ∧ ∃ v' N', (roomE bf x = 0 → Rt.Own v' 9 1 (bf.map (·.name) ++ [x.name]).length (strs (bf.map (·.name) ++ [x.name])) N') ∧ St w0 w' ((bn, blk 73 [v']) :: (N' ++ F)) := by
  refine con_of_wc (n := 51) Try.func55 rfl rfl (Nat.le_of_ble_eq_true rfl) ?_
  have hbl : (bf.map (·.name)).length ≤ 1000 := by rw [List.length_map]; exact hbf
  obtain ⟨ab, cb, rfl, hsb⟩ := own_sl_map (w0 := w0) hown rfl F
  refine w_seq (fun K2 hK1 => ?_)
  refine w_region ?_
  refine w_box (v := .agg #[.string _, .int _ _, .int _ _, .int _ _, .int _ _]) (cs := [_, _, _, _, _]) want_none rfl rfl rfl hs (fun b3 w4 hs5 => ?_)
  refine w_pure want_none (y_assign (v := _) rfl rfl) rfl ?_
  refine w_nil ?_
  refine q_then (hK1 _ _ ?_)
  refine w_seq (fun K7 hK6 => ?_)
  refine w_seq (fun K9 hK8 => ?_)
  refine w_region ?_
  refine w_pure want_none (y_fieldAddr (o := 0) (i := 0) Try.underlying69 rfl Try.sizeOf9 rfl rfl rfl) rfl ?_
  refine w_pure want_none (y_load1 Try.isAgg9 hs5 rfl rfl (ats_own (i := 0) (vs := [_]) rfl rfl)) rfl ?_
  refine w_pure want_none (y_load1 Try.isAgg73 hs5 rfl rfl (ats_own (i := 1) (vs := [_]) rfl rfl)) rfl ?_
  refine w_call want_none Try.call56 rfl rfl rfl rfl (c56 _ _ _ (by omega) hsb.cons.cons _ (by omega) hs5) ?_
  rintro _ w11 ⟨rfl, hs12⟩
  refine w_pure want_none (y_assign (v := .int _ _) rfl rfl) rfl ?_
  refine w_nil ?_
  refine q_then (hK8 _ _ ?_)
  refine w_seq (fun K14 hK13 => ?_)
  refine w_region ?_
  refine w_pure want_none (y_move (v := .int _ _) rfl rfl) rfl ?_
  refine w_pure want_none (y_neq rfl rfl rfl rfl) rfl ?_
  refine w_nil ?_
  refine q_then (hK13 _ _ ?_)
  refine w_cond rfl rfl (fun h15 => ?_) (fun h15 => ?_)
  ·
    try simp only [Bool.not_eq_true', Bool.not_eq_false', decide_eq_true_eq, decide_eq_false_iff_not, Int.not_lt, Int.not_le] at h15
    refine w_seq (fun K17 hK16 => ?_)
    refine w_region ?_
    refine w_pure want_none (y_move (v := .int _ _) rfl rfl) rfl ?_
    refine w_pure want_none (y_assign (v := .int _ _) rfl rfl) rfl ?_
    refine w_nil ?_
    refine q_then (hK16 _ _ ?_)
    refine w_ret ?_
    refine q_then_ret ?_
    refine q_ret (l := [.tmp 5]) (vs := [_]) rfl ⟨⟨rfl, show _ = (.int _ _ : Value) from rfl⟩, trivial⟩ ?_
    try simp only [List.any_cons, List.any_nil, Bool.or_false, Bool.or_eq_false_iff] at h15
    first
      | exact ⟨congrArg (Value.int .i64) (roomE_name (by assumption)), _, N, fun h => absurd (roomE_name (by assumption) ▸ h) (by assumption), hs12.tail⟩
      | exact ⟨congrArg (Value.int .i64) (by rw [roomE_own (by assumption)]; simp [roomOwn, h15] <;> omega), _, N, fun _ => hN, hs12.tail⟩
  ·
    try simp only [Bool.not_eq_true', Bool.not_eq_false', decide_eq_true_eq, decide_eq_false_iff_not, Int.not_lt, Int.not_le] at h15
    refine w_skip ?_
    refine q_then (hK6 _ _ ?_)
    refine w_seq (fun K19 hK18 => ?_)
    refine w_region ?_
    refine w_pure want_none (y_load1 Try.isAgg73 hs12 rfl rfl (ats_own (i := 1) (vs := [_]) rfl rfl)) rfl ?_
    refine w_pure want_none (y_fieldAddr (o := 0) (i := 0) Try.underlying69 rfl Try.sizeOf9 rfl rfl rfl) rfl ?_
    refine w_pure want_none (y_load1 Try.isAgg9 hs12 rfl rfl (ats_own (i := 0) (vs := [_]) rfl rfl)) rfl ?_
    refine w_bslice (ps := [(0, _)]) (pv := [(0, .string _)]) (cs := [_]) want_none rfl rfl (fun w => Try_D_fb0 _ w) hs12 (fun b20 w21 hs22 => ?_)
    refine w_append (X := (_ :: _ :: _ :: [])) (B := N) (rows := [[_]]) (sz := 1) (bytes := 16) want_none Try.underlying73 Try_info9 rfl rfl rfl rfl rfl rfl rfl rfl rfl hs22 hown (sl_own (i := 0) rfl (by simp) rfl) rfl (by simp) (by simp [Value.oneCell']) (by simp only [maxLen]; omega) (by omega) (fun v23 w24 B25 ho26 hs27 => ?_)
    replace hs27 := (show St _ _ (_ :: _ :: _ :: B25 ++ (F)) from hs27)
    have hN := own_name ho26
    obtain ⟨an, cn, rfl⟩ := hN.slice
    refine w_store (i := 2) (v := .slice _ _ _) (vs := [_]) want_none Try.sizeOf73 rfl rfl rfl rfl rfl (by simp [Value.oneCell']) hs27 rfl (Nat.le_of_ble_eq_true rfl) (fun w28 hs29 => ?_)
    refine w_nil ?_
    refine q_then (hK18 _ _ ?_)
    refine w_seq (fun K31 hK30 => ?_)
    refine w_block ?_
    refine w_seq (fun K33 hK32 => ?_)
    refine w_region ?_
    refine w_pure want_none (y_fieldAddr (o := 1) (i := 1) Try.underlying69 rfl Try.sizeOf67 rfl rfl rfl) rfl ?_
    refine w_pure want_none (y_fieldAddr (o := 0) (i := 0) Try.underlying67 rfl Try.sizeOf3 rfl rfl rfl) rfl ?_
    refine w_pure want_none (y_load1 Try.isAgg3 hs29 rfl rfl (ats_own (i := 1) (vs := [_]) rfl rfl)) rfl ?_
    refine w_pure want_none (y_fieldAddr (o := 1) (i := 1) Try.underlying69 rfl Try.sizeOf67 rfl rfl rfl) rfl ?_
    refine w_pure want_none (y_fieldAddr (o := 1) (i := 1) Try.underlying67 rfl Try.sizeOf3 rfl rfl rfl) rfl ?_
    refine w_pure want_none (y_load1 Try.isAgg3 hs29 rfl rfl (ats_own (i := 1) (vs := [_]) rfl rfl)) rfl ?_
    refine w_bslice (ps := [(0, _), (1, _)]) (pv := [(0, .int _ _), (1, .int _ _)]) (cs := [_, _]) want_none rfl rfl (fun w => Try_D_fb2 _ _ w) hs29 (fun b34 w35 hs36 => ?_)
    refine w_call want_none Try.call57 rfl rfl rfl rfl (c57 _ _ _ [_, _] _ (by simp) (sl_own (i := 0) (rows := [[_], [_]]) rfl (by simp) rfl) hs36) ?_
    rintro _ w38 ⟨rfl, hs39⟩
    refine w_pure want_none (y_move (v := .bool _) rfl rfl) rfl ?_
    refine w_split (fun h40 => ?_) (fun h40 => ?_)
    ·
      try simp only [Bool.not_eq_true', Bool.not_eq_false', decide_eq_true_eq, decide_eq_false_iff_not, Int.not_lt, Int.not_le] at h40
      refine w_skipop rfl rfl rfl ?_
      refine w_skipop rfl rfl rfl ?_
      refine w_skipop rfl rfl rfl ?_
      refine w_skipop rfl rfl rfl ?_
      refine w_skipop rfl rfl rfl ?_
      refine w_skipop rfl rfl rfl ?_
      refine w_pure want_none (y_pickT (v := _) rfl rfl rfl rfl) rfl ?_
      refine w_pure want_none (y_assign (v := .bool _) rfl rfl) rfl ?_
      refine w_nil ?_
      refine q_then (hK32 _ _ ?_)
      refine w_condT rfl rfl ?_
      refine w_seq (fun K42 hK41 => ?_)
      refine w_region ?_
      refine w_pure want_none (y_assign (v := _) rfl rfl) rfl ?_
      refine w_nil ?_
      refine q_then (hK41 _ _ ?_)
      refine w_ret ?_
      refine q_blk_ret ?_
      refine q_then_ret ?_
      refine q_ret (l := [.tmp 5]) (vs := [_]) rfl ⟨⟨rfl, show _ = (.int _ _ : Value) from rfl⟩, trivial⟩ ?_
      try simp only [List.any_cons, List.any_nil, Bool.or_false, Bool.or_eq_false_iff] at h15 h40
      first
        | exact ⟨congrArg (Value.int .i64) (roomE_name (by assumption)), _, N, fun h => absurd (roomE_name (by assumption) ▸ h) (by assumption), hs39.tail.tail.tail⟩
        | exact ⟨congrArg (Value.int .i64) (by rw [roomE_own (by assumption)]; simp [roomOwn, h15, h40] <;> omega), _, B25, fun _ => hN, hs39.tail.tail.tail⟩
    ·
      try simp only [Bool.not_eq_true', Bool.not_eq_false', decide_eq_true_eq, decide_eq_false_iff_not, Int.not_lt, Int.not_le] at h40
      refine w_pure (want_yes rfl rfl rfl) (y_fieldAddr (o := 3) (i := 2) Try.underlying69 rfl Try.sizeOf3 rfl rfl rfl) rfl ?_
      refine w_pure (want_yes rfl rfl rfl) (y_load1 Try.isAgg3 hs39 rfl rfl (ats_own (i := 2) (vs := [_]) rfl rfl)) rfl ?_
      refine w_pure (want_yes rfl rfl rfl) (y_fieldAddr (o := 4) (i := 3) Try.underlying69 rfl Try.sizeOf3 rfl rfl rfl) rfl ?_
      refine w_pure (want_yes rfl rfl rfl) (y_load1 Try.isAgg3 hs39 rfl rfl (ats_own (i := 2) (vs := [_]) rfl rfl)) rfl ?_
      refine w_bslice (ps := [(0, _), (1, _)]) (pv := [(0, .int _ _), (1, .int _ _)]) (cs := [_, _]) (want_yes rfl rfl rfl) rfl rfl (fun w => Try_D_fb2 _ _ w) hs39 (fun b43 w44 hs45 => ?_)
      refine w_call (want_yes rfl rfl rfl) Try.call57 rfl rfl rfl rfl (c57 _ _ _ [_, _] _ (by simp) (sl_own (i := 0) (rows := [[_], [_]]) rfl (by simp) rfl) hs45) ?_
      rintro _ w47 ⟨rfl, hs48⟩
      refine w_pure want_none (y_pickF (v := .bool _) rfl rfl rfl rfl) rfl ?_
      refine w_pure want_none (y_assign (v := .bool _) rfl rfl) rfl ?_
      refine w_nil ?_
      refine q_then (hK32 _ _ ?_)
      refine w_cond rfl rfl (fun h49 => ?_) (fun h49 => ?_)
      ·
        try simp only [Bool.not_eq_true', Bool.not_eq_false', decide_eq_true_eq, decide_eq_false_iff_not, Int.not_lt, Int.not_le] at h49
        refine w_seq (fun K51 hK50 => ?_)
        refine w_region ?_
        refine w_pure want_none (y_assign (v := _) rfl rfl) rfl ?_
        refine w_nil ?_
        refine q_then (hK50 _ _ ?_)
        refine w_ret ?_
        refine q_blk_ret ?_
        refine q_then_ret ?_
        refine q_ret (l := [.tmp 5]) (vs := [_]) rfl ⟨⟨rfl, show _ = (.int _ _ : Value) from rfl⟩, trivial⟩ ?_
        try simp only [List.any_cons, List.any_nil, Bool.or_false, Bool.or_eq_false_iff] at h15 h40 h49
        first
          | exact ⟨congrArg (Value.int .i64) (roomE_name (by assumption)), _, N, fun h => absurd (roomE_name (by assumption) ▸ h) (by assumption), hs48.tail.tail.tail.tail⟩
          | exact ⟨congrArg (Value.int .i64) (by rw [roomE_own (by assumption)]; simp [roomOwn, h15, h40, h49] <;> omega), _, B25, fun _ => hN, hs48.tail.tail.tail.tail⟩
      ·
        try simp only [Bool.not_eq_true', Bool.not_eq_false', decide_eq_true_eq, decide_eq_false_iff_not, Int.not_lt, Int.not_le] at h49
        refine w_seq (fun K53 hK52 => ?_)
        refine w_region ?_
        refine w_pure want_none (y_fieldAddr (o := 1) (i := 1) Try.underlying69 rfl Try.sizeOf67 rfl rfl rfl) rfl ?_
        refine w_pure want_none (y_fieldAddr (o := 0) (i := 0) Try.underlying67 rfl Try.sizeOf3 rfl rfl rfl) rfl ?_
        refine w_pure want_none (y_load1 Try.isAgg3 hs48 rfl rfl (ats_own (i := 3) (vs := [_]) rfl rfl)) rfl ?_
        refine w_pure want_none (y_fieldAddr (o := 1) (i := 1) Try.underlying69 rfl Try.sizeOf67 rfl rfl rfl) rfl ?_
        refine w_pure want_none (y_fieldAddr (o := 1) (i := 1) Try.underlying67 rfl Try.sizeOf3 rfl rfl rfl) rfl ?_
        refine w_pure want_none (y_load1 Try.isAgg3 hs48 rfl rfl (ats_own (i := 3) (vs := [_]) rfl rfl)) rfl ?_
        refine w_pure want_none (y_gtr rfl rfl rfl rfl) rfl ?_
        refine w_pure want_none (y_move (v := .bool _) rfl rfl) rfl ?_
        refine w_split (fun h54 => ?_) (fun h54 => ?_)
        ·
          try simp only [Bool.not_eq_true', Bool.not_eq_false', decide_eq_true_eq, decide_eq_false_iff_not, Int.not_lt, Int.not_le] at h54
          refine w_skipop rfl rfl rfl ?_
          refine w_skipop rfl rfl rfl ?_
          refine w_skipop rfl rfl rfl ?_
          refine w_skipop rfl rfl rfl ?_
          refine w_skipop rfl rfl rfl ?_
          refine w_pure want_none (y_pickT (v := _) rfl rfl rfl rfl) rfl ?_
          refine w_pure want_none (y_assign (v := .bool _) rfl rfl) rfl ?_
          refine w_nil ?_
          refine q_then (hK52 _ _ ?_)
          refine w_condT rfl rfl ?_
          refine w_seq (fun K56 hK55 => ?_)
          refine w_region ?_
          refine w_pure want_none (y_assign (v := _) rfl rfl) rfl ?_
          refine w_nil ?_
          refine q_then (hK55 _ _ ?_)
          refine w_ret ?_
          refine q_blk_ret ?_
          refine q_then_ret ?_
          refine q_ret (l := [.tmp 5]) (vs := [_]) rfl ⟨⟨rfl, show _ = (.int _ _ : Value) from rfl⟩, trivial⟩ ?_
          try simp only [List.any_cons, List.any_nil, Bool.or_false, Bool.or_eq_false_iff] at h15 h40 h49 h54
          first
            | exact ⟨congrArg (Value.int .i64) (roomE_name (by assumption)), _, N, fun h => absurd (roomE_name (by assumption) ▸ h) (by assumption), hs48.tail.tail.tail.tail⟩
            | exact ⟨congrArg (Value.int .i64) (by rw [roomE_own (by assumption)]; simp [roomOwn, h15, h40, h49, h54] <;> omega), _, B25, fun _ => hN, hs48.tail.tail.tail.tail⟩
        ·
          try simp only [Bool.not_eq_true', Bool.not_eq_false', decide_eq_true_eq, decide_eq_false_iff_not, Int.not_lt, Int.not_le] at h54
          refine w_pure (want_yes rfl rfl rfl) (y_fieldAddr (o := 3) (i := 2) Try.underlying69 rfl Try.sizeOf3 rfl rfl rfl) rfl ?_
          refine w_pure (want_yes rfl rfl rfl) (y_load1 Try.isAgg3 hs48 rfl rfl (ats_own (i := 3) (vs := [_]) rfl rfl)) rfl ?_
          refine w_pure (want_yes rfl rfl rfl) (y_fieldAddr (o := 4) (i := 3) Try.underlying69 rfl Try.sizeOf3 rfl rfl rfl) rfl ?_
          refine w_pure (want_yes rfl rfl rfl) (y_load1 Try.isAgg3 hs48 rfl rfl (ats_own (i := 3) (vs := [_]) rfl rfl)) rfl ?_
          refine w_pure (want_yes rfl rfl rfl) (y_gtr rfl rfl rfl rfl) rfl ?_
          refine w_pure want_none (y_pickF (v := .bool _) rfl rfl rfl rfl) rfl ?_
          refine w_pure want_none (y_assign (v := .bool _) rfl rfl) rfl ?_
          refine w_nil ?_
          refine q_then (hK52 _ _ ?_)
          refine w_cond rfl rfl (fun h57 => ?_) (fun h57 => ?_)
          ·
            try simp only [Bool.not_eq_true', Bool.not_eq_false', decide_eq_true_eq, decide_eq_false_iff_not, Int.not_lt, Int.not_le] at h57
            refine w_seq (fun K59 hK58 => ?_)
            refine w_region ?_
            refine w_pure want_none (y_assign (v := _) rfl rfl) rfl ?_
            refine w_nil ?_
            refine q_then (hK58 _ _ ?_)
            refine w_ret ?_
            refine q_blk_ret ?_
            refine q_then_ret ?_
            refine q_ret (l := [.tmp 5]) (vs := [_]) rfl ⟨⟨rfl, show _ = (.int _ _ : Value) from rfl⟩, trivial⟩ ?_
            try simp only [List.any_cons, List.any_nil, Bool.or_false, Bool.or_eq_false_iff] at h15 h40 h49 h54 h57
            first
              | exact ⟨congrArg (Value.int .i64) (roomE_name (by assumption)), _, N, fun h => absurd (roomE_name (by assumption) ▸ h) (by assumption), hs48.tail.tail.tail.tail⟩
              | exact ⟨congrArg (Value.int .i64) (by rw [roomE_own (by assumption)]; simp [roomOwn, h15, h40, h49, h54, h57] <;> omega), _, B25, fun _ => hN, hs48.tail.tail.tail.tail⟩
          ·
            try simp only [Bool.not_eq_true', Bool.not_eq_false', decide_eq_true_eq, decide_eq_false_iff_not, Int.not_lt, Int.not_le] at h57
            refine w_skip ?_
            refine q_blk_normal ?_
            refine q_then (hK30 _ _ ?_)
            refine w_seq (fun K61 hK60 => ?_)
            refine w_region ?_
            refine w_pure want_none (y_assign (v := _) rfl rfl) rfl ?_
            refine w_nil ?_
            refine q_then (hK60 _ _ ?_)
            refine w_ret ?_
            refine q_ret (l := [.tmp 5]) (vs := [_]) rfl ⟨⟨rfl, show _ = (.int _ _ : Value) from rfl⟩, trivial⟩ ?_
            try simp only [List.any_cons, List.any_nil, Bool.or_false, Bool.or_eq_false_iff] at h15 h40 h49 h54 h57
            first
              | exact ⟨congrArg (Value.int .i64) (roomE_name (by assumption)), _, N, fun h => absurd (roomE_name (by assumption) ▸ h) (by assumption), hs48.tail.tail.tail.tail⟩
              | exact ⟨congrArg (Value.int .i64) (by rw [roomE_own (by assumption)]; simp [roomOwn, h15, h40, h49, h54, h57] <;> omega), _, B25, fun _ => hN, hs48.tail.tail.tail.tail⟩

theorem c59 {w0 w : World} {F : List (Nat × Obj)} (i : Int) (x : Shop) (hx : x.name.size ≤ 9223372036854775807) (bf : List Shop) (hbf : bf.length ≤ 1000) (bn : Nat) (v : Value) (N : List (Nat × Obj)) (hown : Rt.Own v 9 1 (bf.map (·.name)).length (strs (bf.map (·.name))) N) (hs : St w0 w ((bn, blk 73 [v]) :: (N ++ F))) :
    Con Try.prog 59 [.int .i64 i, .agg x.cells.toArray, .pointer (some ⟨bn, 0, none⟩)] w fun u w' => u = .int .i64 (shopE bf x) ∧ ∃ v' N', (shopE bf x = 0 → Rt.Own v' 9 1 (bf.map (·.name) ++ [x.name]).length (strs (bf.map (·.name) ++ [x.name])) N') ∧ St w0 w' ((bn, blk 73 [v']) :: (N' ++ F)) := by
  refine con_of_wc (n := 29) Try.func59 rfl rfl (Nat.le_of_ble_eq_true rfl) ?_
  have hbl : (bf.map (·.name)).length ≤ 1000 := by rw [List.length_map]; exact hbf
  obtain ⟨ab, cb, rfl, hsb⟩ := own_sl_map (w0 := w0) hown rfl F
  refine w_seq (fun K2 hK1 => ?_)
  refine w_region ?_
  refine w_box (v := .agg #[.string _, .int _ _, .int _ _]) (cs := [_, _, _]) want_none rfl rfl rfl hs (fun b3 w4 hs5 => ?_)
  refine w_pure want_none (y_assign (v := _) rfl rfl) rfl ?_
  refine w_nil ?_
  refine q_then (hK1 _ _ ?_)
  refine w_seq (fun K7 hK6 => ?_)
  refine w_seq (fun K9 hK8 => ?_)
  refine w_region ?_
  refine w_pure want_none (y_fieldAddr (o := 0) (i := 0) Try.underlying52 rfl Try.sizeOf9 rfl rfl rfl) rfl ?_
  refine w_pure want_none (y_load1 Try.isAgg9 hs5 rfl rfl (ats_own (i := 0) (vs := [_]) rfl rfl)) rfl ?_
  refine w_pure want_none (y_load1 Try.isAgg73 hs5 rfl rfl (ats_own (i := 1) (vs := [_]) rfl rfl)) rfl ?_
  refine w_call want_none Try.call56 rfl rfl rfl rfl (c56 _ _ _ (by omega) hsb.cons.cons _ (by omega) hs5) ?_
  rintro _ w11 ⟨rfl, hs12⟩
  refine w_pure want_none (y_assign (v := .int _ _) rfl rfl) rfl ?_
  refine w_nil ?_
  refine q_then (hK8 _ _ ?_)
  refine w_seq (fun K14 hK13 => ?_)
  refine w_region ?_
  refine w_pure want_none (y_move (v := .int _ _) rfl rfl) rfl ?_
  refine w_pure want_none (y_neq rfl rfl rfl rfl) rfl ?_
  refine w_nil ?_
  refine q_then (hK13 _ _ ?_)
  refine w_cond rfl rfl (fun h15 => ?_) (fun h15 => ?_)
  ·
    try simp only [Bool.not_eq_true', Bool.not_eq_false', decide_eq_true_eq, decide_eq_false_iff_not, Int.not_lt, Int.not_le] at h15
    refine w_seq (fun K17 hK16 => ?_)
    refine w_region ?_
    refine w_pure want_none (y_move (v := .int _ _) rfl rfl) rfl ?_
    refine w_pure want_none (y_assign (v := .int _ _) rfl rfl) rfl ?_
    refine w_nil ?_
    refine q_then (hK16 _ _ ?_)
    refine w_ret ?_
    refine q_then_ret ?_
    refine q_ret (l := [.tmp 5]) (vs := [_]) rfl ⟨⟨rfl, show _ = (.int _ _ : Value) from rfl⟩, trivial⟩ ?_
    try simp only [List.any_cons, List.any_nil, Bool.or_false, Bool.or_eq_false_iff] at h15
    first
      | exact ⟨congrArg (Value.int .i64) (shopE_name (by assumption)), _, N, fun h => absurd (shopE_name (by assumption) ▸ h) (by assumption), hs12.tail⟩
      | exact ⟨congrArg (Value.int .i64) (by rw [shopE_own (by assumption)]; simp [shopOwn, h15] <;> omega), _, N, fun _ => hN, hs12.tail⟩
  ·
    try simp only [Bool.not_eq_true', Bool.not_eq_false', decide_eq_true_eq, decide_eq_false_iff_not, Int.not_lt, Int.not_le] at h15
    refine w_skip ?_
    refine q_then (hK6 _ _ ?_)
    refine w_seq (fun K19 hK18 => ?_)
    refine w_region ?_
    refine w_pure want_none (y_load1 Try.isAgg73 hs12 rfl rfl (ats_own (i := 1) (vs := [_]) rfl rfl)) rfl ?_
    refine w_pure want_none (y_fieldAddr (o := 0) (i := 0) Try.underlying52 rfl Try.sizeOf9 rfl rfl rfl) rfl ?_
    refine w_pure want_none (y_load1 Try.isAgg9 hs12 rfl rfl (ats_own (i := 0) (vs := [_]) rfl rfl)) rfl ?_
    refine w_bslice (ps := [(0, _)]) (pv := [(0, .string _)]) (cs := [_]) want_none rfl rfl (fun w => Try_D_fb0 _ w) hs12 (fun b20 w21 hs22 => ?_)
    refine w_append (X := (_ :: _ :: _ :: [])) (B := N) (rows := [[_]]) (sz := 1) (bytes := 16) want_none Try.underlying73 Try_info9 rfl rfl rfl rfl rfl rfl rfl rfl rfl hs22 hown (sl_own (i := 0) rfl (by simp) rfl) rfl (by simp) (by simp [Value.oneCell']) (by simp only [maxLen]; omega) (by omega) (fun v23 w24 B25 ho26 hs27 => ?_)
    replace hs27 := (show St _ _ (_ :: _ :: _ :: B25 ++ (F)) from hs27)
    have hN := own_name ho26
    obtain ⟨an, cn, rfl⟩ := hN.slice
    refine w_store (i := 2) (v := .slice _ _ _) (vs := [_]) want_none Try.sizeOf73 rfl rfl rfl rfl rfl (by simp [Value.oneCell']) hs27 rfl (Nat.le_of_ble_eq_true rfl) (fun w28 hs29 => ?_)
    refine w_nil ?_
    refine q_then (hK18 _ _ ?_)
    refine w_seq (fun K31 hK30 => ?_)
    refine w_seq (fun K33 hK32 => ?_)
    refine w_region ?_
    refine w_pure want_none (y_fieldAddr (o := 1) (i := 1) Try.underlying52 rfl Try.sizeOf3 rfl rfl rfl) rfl ?_
    refine w_pure want_none (y_load1 Try.isAgg3 hs29 rfl rfl (ats_own (i := 1) (vs := [_]) rfl rfl)) rfl ?_
    refine w_bslice (ps := [(0, _)]) (pv := [(0, .int _ _)]) (cs := [_]) want_none rfl rfl (fun w => Try_D_fb3 _ w) hs29 (fun b34 w35 hs36 => ?_)
    refine w_call want_none Try.call57 rfl rfl rfl rfl (c57 _ _ _ [_] _ (by simp) (sl_own (i := 0) (rows := [[_]]) rfl (by simp) rfl) hs36) ?_
    rintro _ w38 ⟨rfl, hs39⟩
    refine w_pure want_none (y_move (v := .bool _) rfl rfl) rfl ?_
    refine w_split (fun h40 => ?_) (fun h40 => ?_)
    ·
      try simp only [Bool.not_eq_true', Bool.not_eq_false', decide_eq_true_eq, decide_eq_false_iff_not, Int.not_lt, Int.not_le] at h40
      refine w_skipop rfl rfl rfl ?_
      refine w_skipop rfl rfl rfl ?_
      refine w_skipop rfl rfl rfl ?_
      refine w_skipop rfl rfl rfl ?_
      refine w_pure want_none (y_pickT (v := _) rfl rfl rfl rfl) rfl ?_
      refine w_nil ?_
      refine q_then (hK32 _ _ ?_)
      refine w_condT rfl rfl ?_
      refine w_seq (fun K42 hK41 => ?_)
      refine w_region ?_
      refine w_pure want_none (y_assign (v := _) rfl rfl) rfl ?_
      refine w_nil ?_
      refine q_then (hK41 _ _ ?_)
      refine w_ret ?_
      refine q_then_ret ?_
      refine q_ret (l := [.tmp 5]) (vs := [_]) rfl ⟨⟨rfl, show _ = (.int _ _ : Value) from rfl⟩, trivial⟩ ?_
      try simp only [List.any_cons, List.any_nil, Bool.or_false, Bool.or_eq_false_iff] at h15 h40
      first
        | exact ⟨congrArg (Value.int .i64) (shopE_name (by assumption)), _, N, fun h => absurd (shopE_name (by assumption) ▸ h) (by assumption), hs39.tail.tail.tail⟩
        | exact ⟨congrArg (Value.int .i64) (by rw [shopE_own (by assumption)]; simp [shopOwn, h15, h40] <;> omega), _, B25, fun _ => hN, hs39.tail.tail.tail⟩
    ·
      try simp only [Bool.not_eq_true', Bool.not_eq_false', decide_eq_true_eq, decide_eq_false_iff_not, Int.not_lt, Int.not_le] at h40
      refine w_pure (want_yes rfl rfl rfl) (y_fieldAddr (o := 2) (i := 2) Try.underlying52 rfl Try.sizeOf3 rfl rfl rfl) rfl ?_
      refine w_pure (want_yes rfl rfl rfl) (y_load1 Try.isAgg3 hs39 rfl rfl (ats_own (i := 2) (vs := [_]) rfl rfl)) rfl ?_
      refine w_bslice (ps := [(0, _)]) (pv := [(0, .int _ _)]) (cs := [_]) (want_yes rfl rfl rfl) rfl rfl (fun w => Try_D_fb3 _ w) hs39 (fun b43 w44 hs45 => ?_)
      refine w_call (want_yes rfl rfl rfl) Try.call57 rfl rfl rfl rfl (c57 _ _ _ [_] _ (by simp) (sl_own (i := 0) (rows := [[_]]) rfl (by simp) rfl) hs45) ?_
      rintro _ w47 ⟨rfl, hs48⟩
      refine w_pure want_none (y_pickF (v := .bool _) rfl rfl rfl rfl) rfl ?_
      refine w_nil ?_
      refine q_then (hK32 _ _ ?_)
      refine w_cond rfl rfl (fun h49 => ?_) (fun h49 => ?_)
      ·
        try simp only [Bool.not_eq_true', Bool.not_eq_false', decide_eq_true_eq, decide_eq_false_iff_not, Int.not_lt, Int.not_le] at h49
        refine w_seq (fun K51 hK50 => ?_)
        refine w_region ?_
        refine w_pure want_none (y_assign (v := _) rfl rfl) rfl ?_
        refine w_nil ?_
        refine q_then (hK50 _ _ ?_)
        refine w_ret ?_
        refine q_then_ret ?_
        refine q_ret (l := [.tmp 5]) (vs := [_]) rfl ⟨⟨rfl, show _ = (.int _ _ : Value) from rfl⟩, trivial⟩ ?_
        try simp only [List.any_cons, List.any_nil, Bool.or_false, Bool.or_eq_false_iff] at h15 h40 h49
        first
          | exact ⟨congrArg (Value.int .i64) (shopE_name (by assumption)), _, N, fun h => absurd (shopE_name (by assumption) ▸ h) (by assumption), hs48.tail.tail.tail.tail⟩
          | exact ⟨congrArg (Value.int .i64) (by rw [shopE_own (by assumption)]; simp [shopOwn, h15, h40, h49] <;> omega), _, B25, fun _ => hN, hs48.tail.tail.tail.tail⟩
      ·
        try simp only [Bool.not_eq_true', Bool.not_eq_false', decide_eq_true_eq, decide_eq_false_iff_not, Int.not_lt, Int.not_le] at h49
        refine w_skip ?_
        refine q_then (hK30 _ _ ?_)
        refine w_seq (fun K53 hK52 => ?_)
        refine w_region ?_
        refine w_pure want_none (y_assign (v := _) rfl rfl) rfl ?_
        refine w_nil ?_
        refine q_then (hK52 _ _ ?_)
        refine w_ret ?_
        refine q_ret (l := [.tmp 5]) (vs := [_]) rfl ⟨⟨rfl, show _ = (.int _ _ : Value) from rfl⟩, trivial⟩ ?_
        try simp only [List.any_cons, List.any_nil, Bool.or_false, Bool.or_eq_false_iff] at h15 h40 h49
        first
          | exact ⟨congrArg (Value.int .i64) (shopE_name (by assumption)), _, N, fun h => absurd (shopE_name (by assumption) ▸ h) (by assumption), hs48.tail.tail.tail.tail⟩
          | exact ⟨congrArg (Value.int .i64) (by rw [shopE_own (by assumption)]; simp [shopOwn, h15, h40, h49] <;> omega), _, B25, fun _ => hN, hs48.tail.tail.tail.tail⟩

theorem c61 {w0 w : World} {F : List (Nat × Obj)} (m : Market) (p : At3) (hm : MIn w0 F m p) (i : Int) (t : Train) (bm : Nat) (hb : Ats w0 F bm 0 (m.cells p)) (bf : List Train) (hs : St w0 w F) :
  Con Try.prog 61 [.int .i64 i, .agg t.cells.toArray, .pointer (some ⟨bm, 0, none⟩)] w fun v w' => v = .int .i64 (trainE m bf t) ∧ St w0 w' F := by
  refine con_of_wc (n := 36) Try.func61 rfl rfl (Nat.le_of_ble_eq_true rfl) ?_
  have hlr := hm.lr
  have hls := hm.ls
  refine w_seq (fun K2 hK1 => ?_)
  refine w_region ?_
  refine w_box (v := .agg #[.int _ _, .int _ _, .int _ _, .int _ _]) (cs := [_, _, _, _]) want_none rfl rfl rfl hs (fun b3 w4 hs5 => ?_)
  refine w_pure want_none (y_assign (v := _) rfl rfl) rfl ?_
  refine w_nil ?_
  refine q_then (hK1 _ _ ?_)
  refine w_seq (fun K7 hK6 => ?_)
  refine w_block ?_
  refine w_seq (fun K9 hK8 => ?_)
  refine w_region ?_
  refine w_pure want_none (y_fieldAddr (o := 0) (i := 0) Try.underlying26 rfl Try.sizeOf22 rfl rfl rfl) rfl ?_
  refine w_pure want_none (y_load1 Try.isAgg22 hs5.tail rfl rfl (show Ats _ _ _ _ [_] from Ats.part hb 0 1)) rfl ?_
  refine w_pure want_none (y_lenS Try.underlying22 rfl rfl) rfl ?_
  refine w_pure want_none (y_sub rfl rfl rfl rfl (by omega) (by omega)) rfl ?_
  refine w_pure want_none (y_fieldAddr (o := 0) (i := 0) Try.underlying63 rfl Try.sizeOf3 rfl rfl rfl) rfl ?_
  refine w_pure want_none (y_load1 Try.isAgg3 hs5 rfl rfl (ats_own (i := 0) (vs := [_]) rfl rfl)) rfl ?_
  refine w_bslice (ps := [(0, _)]) (pv := [(0, .int _ _)]) (cs := [_]) want_none rfl rfl (fun w => Try_D_fb3 _ w) hs5 (fun b10 w11 hs12 => ?_)
  refine w_call want_none Try.call57 rfl rfl rfl rfl (c57 _ _ _ [_] _ (by simp) (sl_own (i := 0) (rows := [[_]]) rfl (by simp) rfl) hs12) ?_
  rintro _ w14 ⟨rfl, hs15⟩
  refine w_pure want_none (y_move (v := .bool _) rfl rfl) rfl ?_
  refine w_split (fun h16 => ?_) (fun h16 => ?_)
  ·
    try simp only [Bool.not_eq_true', Bool.not_eq_false', decide_eq_true_eq, decide_eq_false_iff_not, Int.not_lt, Int.not_le] at h16
    refine w_skipop rfl rfl rfl ?_
    refine w_skipop rfl rfl rfl ?_
    refine w_skipop rfl rfl rfl ?_
    refine w_skipop rfl rfl rfl ?_
    refine w_skipop rfl rfl rfl ?_
    refine w_skipop rfl rfl rfl ?_
    refine w_skipop rfl rfl rfl ?_
    refine w_skipop rfl rfl rfl ?_
    refine w_pure want_none (y_pickT (v := _) rfl rfl rfl rfl) rfl ?_
    refine w_pure want_none (y_assign (v := .bool _) rfl rfl) rfl ?_
    refine w_nil ?_
    refine q_then (hK8 _ _ ?_)
    refine w_condT rfl rfl ?_
    refine w_seq (fun K18 hK17 => ?_)
    refine w_region ?_
    refine w_pure want_none (y_assign (v := _) rfl rfl) rfl ?_
    refine w_nil ?_
    refine q_then (hK17 _ _ ?_)
    refine w_ret ?_
    refine q_blk_ret ?_
    refine q_then_ret ?_
    refine q_ret (l := [.tmp 5]) (vs := [_]) rfl ⟨⟨rfl, show _ = (.int _ _ : Value) from rfl⟩, trivial⟩ ?_
    try simp only [List.any_cons, List.any_nil, Bool.or_false, Bool.or_eq_false_iff] at h16
    exact ⟨congrArg (Value.int .i64) (by simp [trainE, h16]), hs15.tail.tail⟩
  ·
    try simp only [Bool.not_eq_true', Bool.not_eq_false', decide_eq_true_eq, decide_eq_false_iff_not, Int.not_lt, Int.not_le] at h16
    refine w_pure (want_yes rfl rfl rfl) (y_fieldAddr (o := 1) (i := 1) Try.underlying26 rfl Try.sizeOf23 rfl rfl rfl) rfl ?_
    refine w_pure (want_yes rfl rfl rfl) (y_load1 Try.isAgg23 hs15.tail.tail rfl rfl (show Ats _ _ _ _ [_] from Ats.part hb 1 1)) rfl ?_
    refine w_pure (want_yes rfl rfl rfl) (y_lenS Try.underlying23 rfl rfl) rfl ?_
    refine w_pure (want_yes rfl rfl rfl) (y_sub rfl rfl rfl rfl (by omega) (by omega)) rfl ?_
    refine w_pure (want_yes rfl rfl rfl) (y_fieldAddr (o := 1) (i := 1) Try.underlying63 rfl Try.sizeOf3 rfl rfl rfl) rfl ?_
    refine w_pure (want_yes rfl rfl rfl) (y_load1 Try.isAgg3 hs15 rfl rfl (ats_own (i := 1) (vs := [_]) rfl rfl)) rfl ?_
    refine w_bslice (ps := [(0, _)]) (pv := [(0, .int _ _)]) (cs := [_]) (want_yes rfl rfl rfl) rfl rfl (fun w => Try_D_fb3 _ w) hs15 (fun b19 w20 hs21 => ?_)
    refine w_call (want_yes rfl rfl rfl) Try.call57 rfl rfl rfl rfl (c57 _ _ _ [_] _ (by simp) (sl_own (i := 0) (rows := [[_]]) rfl (by simp) rfl) hs21) ?_
    rintro _ w23 ⟨rfl, hs24⟩
    refine w_pure want_none (y_pickF (v := .bool _) rfl rfl rfl rfl) rfl ?_
    refine w_pure want_none (y_assign (v := .bool _) rfl rfl) rfl ?_
    refine w_nil ?_
    refine q_then (hK8 _ _ ?_)
    refine w_cond rfl rfl (fun h25 => ?_) (fun h25 => ?_)
    ·
      try simp only [Bool.not_eq_true', Bool.not_eq_false', decide_eq_true_eq, decide_eq_false_iff_not, Int.not_lt, Int.not_le] at h25
      refine w_seq (fun K27 hK26 => ?_)
      refine w_region ?_
      refine w_pure want_none (y_assign (v := _) rfl rfl) rfl ?_
      refine w_nil ?_
      refine q_then (hK26 _ _ ?_)
      refine w_ret ?_
      refine q_blk_ret ?_
      refine q_then_ret ?_
      refine q_ret (l := [.tmp 5]) (vs := [_]) rfl ⟨⟨rfl, show _ = (.int _ _ : Value) from rfl⟩, trivial⟩ ?_
      try simp only [List.any_cons, List.any_nil, Bool.or_false, Bool.or_eq_false_iff] at h16 h25
      exact ⟨congrArg (Value.int .i64) (by simp [trainE, h16, h25]), hs24.tail.tail.tail⟩
    ·
      try simp only [Bool.not_eq_true', Bool.not_eq_false', decide_eq_true_eq, decide_eq_false_iff_not, Int.not_lt, Int.not_le] at h25
      refine w_seq (fun K29 hK28 => ?_)
      refine w_region ?_
      refine w_pure want_none (y_fieldAddr (o := 2) (i := 2) Try.underlying63 rfl Try.sizeOf3 rfl rfl rfl) rfl ?_
      refine w_pure want_none (y_load1 Try.isAgg3 hs24 rfl rfl (ats_own (i := 2) (vs := [_]) rfl rfl)) rfl ?_
      refine w_bslice (ps := [(0, _)]) (pv := [(0, .int _ _)]) (cs := [_]) want_none rfl rfl (fun w => Try_D_fb3 _ w) hs24 (fun b30 w31 hs32 => ?_)
      refine w_call want_none Try.call57 rfl rfl rfl rfl (c57 _ _ _ [_] _ (by simp) (sl_own (i := 0) (rows := [[_]]) rfl (by simp) rfl) hs32) ?_
      rintro _ w34 ⟨rfl, hs35⟩
      refine w_pure want_none (y_move (v := .bool _) rfl rfl) rfl ?_
      refine w_split (fun h36 => ?_) (fun h36 => ?_)
      ·
        try simp only [Bool.not_eq_true', Bool.not_eq_false', decide_eq_true_eq, decide_eq_false_iff_not, Int.not_lt, Int.not_le] at h36
        refine w_skipop rfl rfl rfl ?_
        refine w_skipop rfl rfl rfl ?_
        refine w_skipop rfl rfl rfl ?_
        refine w_skipop rfl rfl rfl ?_
        refine w_pure want_none (y_pickT (v := _) rfl rfl rfl rfl) rfl ?_
        refine w_pure want_none (y_assign (v := .bool _) rfl rfl) rfl ?_
        refine w_nil ?_
        refine q_then (hK28 _ _ ?_)
        refine w_condT rfl rfl ?_
        refine w_seq (fun K38 hK37 => ?_)
        refine w_region ?_
        refine w_pure want_none (y_assign (v := _) rfl rfl) rfl ?_
        refine w_nil ?_
        refine q_then (hK37 _ _ ?_)
        refine w_ret ?_
        refine q_blk_ret ?_
        refine q_then_ret ?_
        refine q_ret (l := [.tmp 5]) (vs := [_]) rfl ⟨⟨rfl, show _ = (.int _ _ : Value) from rfl⟩, trivial⟩ ?_
        try simp only [List.any_cons, List.any_nil, Bool.or_false, Bool.or_eq_false_iff] at h16 h25 h36
        exact ⟨congrArg (Value.int .i64) (by simp [trainE, h16, h25, h36]), hs35.tail.tail.tail.tail⟩
      ·
        try simp only [Bool.not_eq_true', Bool.not_eq_false', decide_eq_true_eq, decide_eq_false_iff_not, Int.not_lt, Int.not_le] at h36
        refine w_pure (want_yes rfl rfl rfl) (y_fieldAddr (o := 3) (i := 3) Try.underlying63 rfl Try.sizeOf3 rfl rfl rfl) rfl ?_
        refine w_pure (want_yes rfl rfl rfl) (y_load1 Try.isAgg3 hs35 rfl rfl (ats_own (i := 3) (vs := [_]) rfl rfl)) rfl ?_
        refine w_bslice (ps := [(0, _)]) (pv := [(0, .int _ _)]) (cs := [_]) (want_yes rfl rfl rfl) rfl rfl (fun w => Try_D_fb3 _ w) hs35 (fun b39 w40 hs41 => ?_)
        refine w_call (want_yes rfl rfl rfl) Try.call57 rfl rfl rfl rfl (c57 _ _ _ [_] _ (by simp) (sl_own (i := 0) (rows := [[_]]) rfl (by simp) rfl) hs41) ?_
        rintro _ w43 ⟨rfl, hs44⟩
        refine w_pure want_none (y_pickF (v := .bool _) rfl rfl rfl rfl) rfl ?_
        refine w_pure want_none (y_assign (v := .bool _) rfl rfl) rfl ?_
        refine w_nil ?_
        refine q_then (hK28 _ _ ?_)
        refine w_cond rfl rfl (fun h45 => ?_) (fun h45 => ?_)
        ·
          try simp only [Bool.not_eq_true', Bool.not_eq_false', decide_eq_true_eq, decide_eq_false_iff_not, Int.not_lt, Int.not_le] at h45
          refine w_seq (fun K47 hK46 => ?_)
          refine w_region ?_
          refine w_pure want_none (y_assign (v := _) rfl rfl) rfl ?_
          refine w_nil ?_
          refine q_then (hK46 _ _ ?_)
          refine w_ret ?_
          refine q_blk_ret ?_
          refine q_then_ret ?_
          refine q_ret (l := [.tmp 5]) (vs := [_]) rfl ⟨⟨rfl, show _ = (.int _ _ : Value) from rfl⟩, trivial⟩ ?_
          try simp only [List.any_cons, List.any_nil, Bool.or_false, Bool.or_eq_false_iff] at h16 h25 h36 h45
          exact ⟨congrArg (Value.int .i64) (by simp [trainE, h16, h25, h36, h45]), hs44.tail.tail.tail.tail.tail⟩
        ·
          try simp only [Bool.not_eq_true', Bool.not_eq_false', decide_eq_true_eq, decide_eq_false_iff_not, Int.not_lt, Int.not_le] at h45
          refine w_skip ?_
          refine q_blk_normal ?_
          refine q_then (hK6 _ _ ?_)
          refine w_seq (fun K49 hK48 => ?_)
          refine w_region ?_
          refine w_pure want_none (y_assign (v := _) rfl rfl) rfl ?_
          refine w_nil ?_
          refine q_then (hK48 _ _ ?_)
          refine w_ret ?_
          refine q_ret (l := [.tmp 5]) (vs := [_]) rfl ⟨⟨rfl, show _ = (.int _ _ : Value) from rfl⟩, trivial⟩ ?_
          try simp only [List.any_cons, List.any_nil, Bool.or_false, Bool.or_eq_false_iff] at h16 h25 h36 h45
          exact ⟨congrArg (Value.int .i64) (by simp [trainE, h16, h25, h36, h45]), hs44.tail.tail.tail.tail.tail⟩

def NI (bn : Nat) (nm : Nat → List ByteArray) (i : Nat) (B : List (Nat × Obj)) : Prop := ∃ v N, B = (bn, blk 73 [v]) :: N ∧ Rt.Own v 9 1 (nm i).length (strs (nm i)) N
theorem NI0 (bn : Nat) {nm : Nat → List ByteArray} (h : nm 0 = []) : NI bn nm 0 [(bn, blk 73 [.slice none 0 0])] := ⟨_, [], rfl, by rw [h]; exact own_nil 9 1⟩
theorem nm_rooms {w0 : World} {G : List (Nat × Obj)} (l : List Room) (hn : ∀ x ∈ l, x.name.size ≤ 9223372036854775807) (hl : l.length ≤ 1000) (bn : Nat) (i : Nat) (hi : i < l.length) (X B : List (Nat × Obj)) (w : World) (hI : NI bn (fun i => (l.take i).map (·.name)) i B) (hs : St w0 w (X ++ (B ++ G))) :
    FCon Try.prog (.func (.func 55) #[] #[.pointer (some ⟨bn, 0, none⟩)]) [.int .i64 i, .agg l[i].cells.toArray] w fun v w' => v = .int .i64 (roomE (l.take i) l[i]) ∧ ∃ B', (roomE (l.take i) l[i] = 0 → NI bn (fun i => (l.take i).map (·.name)) (i + 1) B') ∧ St w0 w' (X ++ (B' ++ G)) := by
  obtain ⟨v, N, rfl, hown⟩ := hI
  have hs2 : St w0 w ((bn, blk 73 [v]) :: (N ++ (X ++ G))) := hs.perm (perm_mid X ((bn, blk 73 [v]) :: N) G)
  refine fcon_fn Try.call55 ((c55 i l[i] (hn _ (List.getElem_mem hi)) (l.take i) (by rw [List.length_take]; omega) bn v N hown hs2).mono fun u w' h => ?_)
  obtain ⟨h1, v', N', h2, h3⟩ := h
  refine ⟨h1, (bn, blk 73 [v']) :: N', fun h => ⟨v', N', rfl, ?_⟩, h3.perm (perm_mid ((bn, blk 73 [v']) :: N') X G)⟩
  have e : (l.take (i + 1)).map (·.name) = (l.take i).map (·.name) ++ [l[i].name] := by rw [List.take_succ_eq_append_getElem hi, List.map_append]; rfl
  show Rt.Own v' 9 1 ((l.take (i + 1)).map (·.name)).length (strs ((l.take (i + 1)).map (·.name))) N'
  rw [e]; exact h2 h
theorem nm_shops {w0 : World} {G : List (Nat × Obj)} (l : List Shop) (hn : ∀ x ∈ l, x.name.size ≤ 9223372036854775807) (hl : l.length ≤ 1000) (bn : Nat) (i : Nat) (hi : i < l.length) (X B : List (Nat × Obj)) (w : World) (hI : NI bn (fun i => (l.take i).map (·.name)) i B) (hs : St w0 w (X ++ (B ++ G))) :
    FCon Try.prog (.func (.func 59) #[] #[.pointer (some ⟨bn, 0, none⟩)]) [.int .i64 i, .agg l[i].cells.toArray] w fun v w' => v = .int .i64 (shopE (l.take i) l[i]) ∧ ∃ B', (shopE (l.take i) l[i] = 0 → NI bn (fun i => (l.take i).map (·.name)) (i + 1) B') ∧ St w0 w' (X ++ (B' ++ G)) := by
  obtain ⟨v, N, rfl, hown⟩ := hI
  have hs2 : St w0 w ((bn, blk 73 [v]) :: (N ++ (X ++ G))) := hs.perm (perm_mid X ((bn, blk 73 [v]) :: N) G)
  refine fcon_fn Try.call59 ((c59 i l[i] (hn _ (List.getElem_mem hi)) (l.take i) (by rw [List.length_take]; omega) bn v N hown hs2).mono fun u w' h => ?_)
  obtain ⟨h1, v', N', h2, h3⟩ := h
  refine ⟨h1, (bn, blk 73 [v']) :: N', fun h => ⟨v', N', rfl, ?_⟩, h3.perm (perm_mid ((bn, blk 73 [v']) :: N') X G)⟩
  have e : (l.take (i + 1)).map (·.name) = (l.take i).map (·.name) ++ [l[i].name] := by rw [List.take_succ_eq_append_getElem hi, List.map_append]; rfl
  show Rt.Own v' 9 1 ((l.take (i + 1)).map (·.name)).length (strs ((l.take (i + 1)).map (·.name))) N'
  rw [e]; exact h2 h
theorem c16 {w0 w : World} {F : List (Nat × Obj)} (m : Market) (p : At3) (hm : MIn w0 F m p)  (hs : St w0 w F) :
  Con Try.prog 16 [.agg (m.cells p).toArray] w fun v w' => v = .tuple #[.int .i64 (check m).1, .int .i64 (check m).2.1, .int .i64 (check m).2.2] ∧ St w0 w' F := by
  refine con_of_wc (n := 39) Try.func16 rfl rfl (Nat.le_of_ble_eq_true rfl) ?_
  have hlr := hm.lr
  have hls := hm.ls
  have hlt := hm.lt
  refine w_seq (fun K2 hK1 => ?_)
  refine w_region ?_
  refine w_box (v := .agg #[.slice _ _ _, .slice _ _ _, .slice _ _ _]) (cs := [_, _, _]) want_none rfl rfl rfl hs (fun b3 w4 hs5 => ?_)
  refine w_pure want_none (y_assign (v := _) rfl rfl) rfl ?_
  refine w_pure want_none (y_assign (v := _) rfl rfl) rfl ?_
  refine w_pure want_none (y_assign (v := _) rfl rfl) rfl ?_
  refine w_nil ?_
  refine q_then (hK1 _ _ ?_)
  refine w_seq (fun K7 hK6 => ?_)
  refine w_region ?_
  refine w_alloc (cs := [_]) want_none Try.zeroValue73 rfl hs5 (fun b8 w9 hs10 => ?_)
  refine w_nil ?_
  refine q_then (hK6 _ _ ?_)
  refine w_seq (fun K12 hK11 => ?_)
  refine w_region ?_
  refine w_pure want_none (y_fieldAddr (o := 0) (i := 0) Try.underlying26 rfl Try.sizeOf22 rfl rfl rfl) rfl ?_
  refine w_pure want_none (y_load1 Try.isAgg22 hs10 rfl rfl (ats_own (i := 1) (vs := [_]) rfl rfl)) rfl ?_
  refine w_pure want_none (y_makeFunc (fv := []) (cv := [_]) rfl rfl rfl rfl) rfl ?_
  refine w_call want_none Try.call54 rfl rfl rfl rfl (c54 (F := ((b3, blk 26 (m.cells p)) :: F)) _ _ m.rooms hlr hm.r.cons 3 (.func (.func 55) #[] #[.pointer (some ⟨b8, 0, none⟩)]) roomE (NI b8 fun i => (m.rooms.take i).map (·.name)) [_] (NI0 _ rfl) (fun hle i hi X B w hI hs => nm_rooms m.rooms hm.nr (by omega) _ i hi X B w hI hs) hs10) ?_
  rintro _ w14 ⟨rfl, B1, h_B1, hs15⟩
  replace hs15 := (show St _ _ (B1 ++ (_ :: F)) from hs15)
  refine w_pure want_none (y_move (v := .tuple _) rfl rfl) rfl ?_
  refine w_pure want_none (y_extract (v := .int _ _) rfl rfl rfl) rfl ?_
  refine w_pure want_none (y_extract (v := .int _ _) rfl rfl rfl) rfl ?_
  refine w_pure want_none (y_assign (v := .int _ _) rfl rfl) rfl ?_
  refine w_pure want_none (y_assign (v := .int _ _) rfl rfl) rfl ?_
  refine w_nil ?_
  refine q_then (hK11 _ _ ?_)
  refine w_seq (fun K17 hK16 => ?_)
  refine w_seq (fun K19 hK18 => ?_)
  refine w_region ?_
  refine w_pure want_none (y_move (v := .int _ _) rfl rfl) rfl ?_
  refine w_pure want_none (y_neq rfl rfl rfl rfl) rfl ?_
  refine w_nil ?_
  refine q_then (hK18 _ _ ?_)
  refine w_cond rfl rfl (fun h20 => ?_) (fun h20 => ?_)
  ·
    try simp only [Bool.not_eq_true', Bool.not_eq_false', decide_eq_true_eq, decide_eq_false_iff_not, Int.not_lt, Int.not_le] at h20
    refine w_seq (fun K22 hK21 => ?_)
    refine w_region ?_
    refine w_pure want_none (y_move (v := .int _ _) rfl rfl) rfl ?_
    refine w_pure want_none (y_move (v := .int _ _) rfl rfl) rfl ?_
    refine w_pure want_none (y_assign (v := _) rfl rfl) rfl ?_
    refine w_pure want_none (y_assign (v := .int _ _) rfl rfl) rfl ?_
    refine w_pure want_none (y_assign (v := .int _ _) rfl rfl) rfl ?_
    refine w_nil ?_
    refine q_then (hK21 _ _ ?_)
    refine w_ret ?_
    refine q_then_ret ?_
    refine q_ret (l := [.tmp 2, .tmp 3, .tmp 4]) (vs := [_, _, _]) rfl ⟨⟨rfl, show _ = (.int _ _ : Value) from rfl⟩, ⟨rfl, show _ = (.int _ _ : Value) from rfl⟩, ⟨rfl, show _ = (.int _ _ : Value) from rfl⟩, trivial⟩ ?_
    refine ⟨tup3 ?_, hs15.drop.tail⟩; unfold check; simp [h20]
  ·
    try simp only [Bool.not_eq_true', Bool.not_eq_false', decide_eq_true_eq, decide_eq_false_iff_not, Int.not_lt, Int.not_le] at h20
    refine w_skip ?_
    refine q_then (hK16 _ _ ?_)
    refine w_seq (fun K24 hK23 => ?_)
    obtain ⟨v_B1, N_B1, rfl, _⟩ := h_B1 (by assumption)
    have hs25 := keep_front (Y := N_B1) (show St _ _ (_ :: (N_B1 ++ (_ :: F))) from hs15)
    refine w_region ?_
    refine w_store (i := 0) (v := .slice _ _ _) (vs := [_]) want_none Try.sizeOf73 rfl rfl rfl rfl rfl (by simp [Value.oneCell']) hs25 rfl (Nat.le_of_ble_eq_true rfl) (fun w26 hs27 => ?_)
    refine w_nil ?_
    refine q_then (hK23 _ _ ?_)
    refine w_seq (fun K29 hK28 => ?_)
    refine w_region ?_
    refine w_pure want_none (y_fieldAddr (o := 1) (i := 1) Try.underlying26 rfl Try.sizeOf23 rfl rfl rfl) rfl ?_
    refine w_pure want_none (y_load1 Try.isAgg23 hs27 rfl rfl (ats_own (i := 1) (vs := [_]) rfl rfl)) rfl ?_
    refine w_pure want_none (y_makeFunc (fv := []) (cv := [_]) rfl rfl rfl rfl) rfl ?_
    refine w_call want_none Try.call58 rfl rfl rfl rfl (c58 (F := ((b3, blk 26 (m.cells p)) :: F)) _ _ m.shops hls hm.s.cons 4 (.func (.func 59) #[] #[.pointer (some ⟨b8, 0, none⟩)]) shopE (NI b8 fun i => (m.shops.take i).map (·.name)) [_] (NI0 _ rfl) (fun hle i hi X B w hI hs => nm_shops m.shops hm.ns (by omega) _ i hi X B w hI hs) hs27) ?_
    rintro _ w31 ⟨rfl, B2, h_B2, hs32⟩
    replace hs32 := (show St _ _ (B2 ++ (_ :: F)) from hs32)
    refine w_pure want_none (y_move (v := .tuple _) rfl rfl) rfl ?_
    refine w_pure want_none (y_extract (v := .int _ _) rfl rfl rfl) rfl ?_
    refine w_pure want_none (y_extract (v := .int _ _) rfl rfl rfl) rfl ?_
    refine w_pure want_none (y_assign (v := .int _ _) rfl rfl) rfl ?_
    refine w_pure want_none (y_assign (v := .int _ _) rfl rfl) rfl ?_
    refine w_nil ?_
    refine q_then (hK28 _ _ ?_)
    refine w_seq (fun K34 hK33 => ?_)
    refine w_seq (fun K36 hK35 => ?_)
    refine w_region ?_
    refine w_pure want_none (y_move (v := .int _ _) rfl rfl) rfl ?_
    refine w_pure want_none (y_neq rfl rfl rfl rfl) rfl ?_
    refine w_nil ?_
    refine q_then (hK35 _ _ ?_)
    refine w_cond rfl rfl (fun h37 => ?_) (fun h37 => ?_)
    ·
      try simp only [Bool.not_eq_true', Bool.not_eq_false', decide_eq_true_eq, decide_eq_false_iff_not, Int.not_lt, Int.not_le] at h37
      refine w_seq (fun K39 hK38 => ?_)
      refine w_region ?_
      refine w_pure want_none (y_move (v := .int _ _) rfl rfl) rfl ?_
      refine w_pure want_none (y_move (v := .int _ _) rfl rfl) rfl ?_
      refine w_pure want_none (y_assign (v := _) rfl rfl) rfl ?_
      refine w_pure want_none (y_assign (v := .int _ _) rfl rfl) rfl ?_
      refine w_pure want_none (y_assign (v := .int _ _) rfl rfl) rfl ?_
      refine w_nil ?_
      refine q_then (hK38 _ _ ?_)
      refine w_ret ?_
      refine q_then_ret ?_
      refine q_ret (l := [.tmp 2, .tmp 3, .tmp 4]) (vs := [_, _, _]) rfl ⟨⟨rfl, show _ = (.int _ _ : Value) from rfl⟩, ⟨rfl, show _ = (.int _ _ : Value) from rfl⟩, ⟨rfl, show _ = (.int _ _ : Value) from rfl⟩, trivial⟩ ?_
      refine ⟨tup3 ?_, hs32.drop.tail⟩; unfold check; simp [h20, h37]
    ·
      try simp only [Bool.not_eq_true', Bool.not_eq_false', decide_eq_true_eq, decide_eq_false_iff_not, Int.not_lt, Int.not_le] at h37
      refine w_skip ?_
      refine q_then (hK33 _ _ ?_)
      refine w_seq (fun K41 hK40 => ?_)
      obtain ⟨v_B2, N_B2, rfl, _⟩ := h_B2 (by assumption)
      have hs42 := keep_front (Y := N_B2) (show St _ _ (_ :: (N_B2 ++ (_ :: F))) from hs32)
      refine w_region ?_
      refine w_pure want_none (y_fieldAddr (o := 2) (i := 2) Try.underlying26 rfl Try.sizeOf24 rfl rfl rfl) rfl ?_
      refine w_pure want_none (y_load1 Try.isAgg24 hs42 rfl rfl (ats_own (i := 1) (vs := [_]) rfl rfl)) rfl ?_
      refine w_pure want_none (y_makeFunc (fv := []) (cv := [_]) rfl rfl rfl rfl) rfl ?_
      refine w_call want_none Try.call60 rfl rfl rfl rfl (c60 (F := _ :: ((b3, blk 26 (m.cells p)) :: F)) _ _ m.trains hlt hm.t.cons.cons 6 (.func (.func 61) #[] #[.pointer (some ⟨b3, 0, none⟩)]) (trainE m) (fun _ B => B = []) [] rfl (fun _ i hi X B w hI hs => fcon_fn Try.call61 ((c61 (F := X ++ (B ++ _)) m p hm.cons.cons.app.app i m.trains[i] _ (Ats.mono (ats_own (i := 1) (vs := m.cells p) (L := _ :: ((b3, blk 26 (m.cells p)) :: F)) rfl rfl) fun _ h => h.drop.drop) _ hs).mono fun u w2 h => ⟨h.1, B, fun _ => hI, h.2⟩)) hs42) ?_
      rintro _ w44 ⟨rfl, B3, h_B3, hs45⟩
      replace hs45 := (show St _ _ (B3 ++ (_ :: _ :: F)) from hs45)
      refine w_pure want_none (y_move (v := .tuple _) rfl rfl) rfl ?_
      refine w_pure want_none (y_extract (v := .int _ _) rfl rfl rfl) rfl ?_
      refine w_pure want_none (y_extract (v := .int _ _) rfl rfl rfl) rfl ?_
      refine w_pure want_none (y_assign (v := .int _ _) rfl rfl) rfl ?_
      refine w_pure want_none (y_assign (v := .int _ _) rfl rfl) rfl ?_
      refine w_nil ?_
      refine q_then (hK40 _ _ ?_)
      refine w_seq (fun K47 hK46 => ?_)
      refine w_seq (fun K49 hK48 => ?_)
      refine w_region ?_
      refine w_pure want_none (y_move (v := .int _ _) rfl rfl) rfl ?_
      refine w_pure want_none (y_neq rfl rfl rfl rfl) rfl ?_
      refine w_nil ?_
      refine q_then (hK48 _ _ ?_)
      refine w_cond rfl rfl (fun h50 => ?_) (fun h50 => ?_)
      ·
        try simp only [Bool.not_eq_true', Bool.not_eq_false', decide_eq_true_eq, decide_eq_false_iff_not, Int.not_lt, Int.not_le] at h50
        refine w_seq (fun K52 hK51 => ?_)
        refine w_region ?_
        refine w_pure want_none (y_move (v := .int _ _) rfl rfl) rfl ?_
        refine w_pure want_none (y_move (v := .int _ _) rfl rfl) rfl ?_
        refine w_pure want_none (y_assign (v := _) rfl rfl) rfl ?_
        refine w_pure want_none (y_assign (v := .int _ _) rfl rfl) rfl ?_
        refine w_pure want_none (y_assign (v := .int _ _) rfl rfl) rfl ?_
        refine w_nil ?_
        refine q_then (hK51 _ _ ?_)
        refine w_ret ?_
        refine q_then_ret ?_
        refine q_ret (l := [.tmp 2, .tmp 3, .tmp 4]) (vs := [_, _, _]) rfl ⟨⟨rfl, show _ = (.int _ _ : Value) from rfl⟩, ⟨rfl, show _ = (.int _ _ : Value) from rfl⟩, ⟨rfl, show _ = (.int _ _ : Value) from rfl⟩, trivial⟩ ?_
        refine ⟨tup3 ?_, hs45.drop.tail.tail⟩; unfold check; simp [h20, h37, h50]
      ·
        try simp only [Bool.not_eq_true', Bool.not_eq_false', decide_eq_true_eq, decide_eq_false_iff_not, Int.not_lt, Int.not_le] at h50
        refine w_skip ?_
        refine q_then (hK46 _ _ ?_)
        refine w_seq (fun K54 hK53 => ?_)
        refine w_region ?_
        refine w_pure want_none (y_assign (v := _) rfl rfl) rfl ?_
        refine w_pure want_none (y_assign (v := _) rfl rfl) rfl ?_
        refine w_pure want_none (y_assign (v := _) rfl rfl) rfl ?_
        refine w_nil ?_
        refine q_then (hK53 _ _ ?_)
        refine w_ret ?_
        refine q_ret (l := [.tmp 2, .tmp 3, .tmp 4]) (vs := [_, _, _]) rfl ⟨⟨rfl, show _ = (.int _ _ : Value) from rfl⟩, ⟨rfl, show _ = (.int _ _ : Value) from rfl⟩, ⟨rfl, show _ = (.int _ _ : Value) from rfl⟩, trivial⟩ ?_
        refine ⟨tup3 ?_, hs45.drop.tail.tail⟩; unfold check; simp [h20, h37, h50]

end Go.Proofs
