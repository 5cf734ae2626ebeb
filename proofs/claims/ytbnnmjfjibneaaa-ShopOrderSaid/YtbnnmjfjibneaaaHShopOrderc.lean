/- Own texts of this claim, joined. No conditions. -/
import Derived.Test.YtbnnmjfjibneaaaRows
import Derived.OpenShut
import Derived.Laws.Bits64b
import Derived.Test.YtbnnmjfjibneaaaHShopOrdera
import Derived.Test.YtbnnmjfjibneaaaHShopOrderb
/- Walks of this seat, printed by gen.py over the engine: what each function returns, in whatever world. No conditions but those of each contract. -/
set_option linter.unusedVariables false
set_option linter.unusedSimpArgs false
set_option maxRecDepth 20000
namespace Go.Proofs
open Go.Rt Go.Rt.Sh
attribute [local irreducible] WL WC Con Yd At Ats Sl Agree DW
theorem Try_D_fb0 (x0 : ByteArray) (w : World) : (Instr.buildSlice 73 1 [(0, .string x0)].toArray).run Try.prog w = .ok (.slice (some ⟨w.heap.size, 0, none⟩) 1 1) (w.alloc (Go.Rt.blk 9 [.string x0])) := by kernel_rfl
theorem Try_info9 : Try.prog.info? 9 = some Try.t9 := by kernel_rfl
theorem Try_D_fb2 (x0 : Int) (x1 : Int) (w : World) : (Instr.buildSlice 30 2 [(0, .int .i64 x0), (1, .int .i64 x1)].toArray).run Try.prog w = .ok (.slice (some ⟨w.heap.size, 0, none⟩) 2 2) (w.alloc (Go.Rt.blk 3 [.int .i64 x0, .int .i64 x1])) := by kernel_rfl
theorem Try_D_fb3 (x0 : Int) (w : World) : (Instr.buildSlice 30 1 [(0, .int .i64 x0)].toArray).run Try.prog w = .ok (.slice (some ⟨w.heap.size, 0, none⟩) 1 1) (w.alloc (Go.Rt.blk 3 [.int .i64 x0])) := by kernel_rfl
/-- What is known of a market that comes in. -/
structure MIn (w0 : World) (F : List (Nat × Obj)) (m : Market) (p : At3) : Prop where
  r : Sl w0 F p.ar 5 (rrows m.rooms)
  s : Sl w0 F p.az 3 (srows m.shops)
  t : Sl w0 F p.at_ 4 (trows m.trains)
  lr : m.rooms.length ≤ 9223372036854775807
  ls : m.shops.length ≤ 9223372036854775807
  lt : m.trains.length ≤ 9223372036854775807
  cr : m.rooms.length ≤ p.cr
  cs : m.shops.length ≤ p.cs
  ct : m.trains.length ≤ p.ct
  nr : ∀ x ∈ m.rooms, x.name.size ≤ 9223372036854775807
  ns : ∀ x ∈ m.shops, x.name.size ≤ 9223372036854775807
theorem MIn.mono {w0 : World} {F F' : List (Nat × Obj)} {m : Market} {p : At3} (h : MIn w0 F m p) (hs : ∀ w, St w0 w F' → St w0 w F) : MIn w0 F' m p := ⟨h.r.mono hs, h.s.mono hs, h.t.mono hs, h.lr, h.ls, h.lt, h.cr, h.cs, h.ct, h.nr, h.ns⟩
theorem MIn.cons {w0 : World} {F : List (Nat × Obj)} {x : Nat × Obj} {m : Market} {p : At3} (h : MIn w0 F m p) : MIn w0 (x :: F) m p := h.mono fun _ h => h.tail
theorem MIn.app {w0 : World} {F B : List (Nat × Obj)} {m : Market} {p : At3} (h : MIn w0 F m p) : MIn w0 (B ++ F) m p := h.mono fun _ h => h.drop
theorem keep_front {w0 w : World} {x : Nat × Obj} {Y F : List (Nat × Obj)} (h : St w0 w (x :: (Y ++ F))) : St w0 w (x :: F) := (h.perm (perm_mid [x] Y F)).drop
theorem tup3 {x : Int × Int × Int} {a b c : Int} (h : x = (a, b, c)) : Value.tuple #[.int .i64 a, .int .i64 b, .int .i64 c] = .tuple #[.int .i64 x.1, .int .i64 x.2.1, .int .i64 x.2.2] := by subst h; rfl
theorem nameE_nz {b : List ByteArray} {s : ByteArray} : nameE b s = 0 ∨ nameE b s = 5 ∨ nameE b s = 6 := by unfold nameE; split <;> (try split) <;> simp
theorem roomE_name {bf : List Room} {x : Room} (h : ¬ nameE (bf.map (·.name)) x.name = 0) : nameE (bf.map (·.name)) x.name = roomE bf x := by unfold roomE; rw [if_pos h]
theorem roomE_own {bf : List Room} {x : Room} (h : nameE (bf.map (·.name)) x.name = 0) : roomE bf x = roomOwn x := by unfold roomE; rw [if_neg (by simp [h])]
theorem shopE_name {bf : List Shop} {x : Shop} (h : ¬ nameE (bf.map (·.name)) x.name = 0) : nameE (bf.map (·.name)) x.name = shopE bf x := by unfold shopE; rw [if_pos h]
theorem shopE_own {bf : List Shop} {x : Shop} (h : nameE (bf.map (·.name)) x.name = 0) : shopE bf x = shopOwn x := by unfold shopE; rw [if_neg (by simp [h])]
theorem own_name {v : Value} {l : List ByteArray} {s : ByteArray} {B : List (Nat × Obj)} (h : Rt.Own v 9 1 (l.length + 1) (strs l ++ [[Value.string s]].flatten) B) : Rt.Own v 9 1 (l ++ [s]).length (strs (l ++ [s])) B := by simpa [strs] using h
theorem c55 {w0 w : World} {F : List (Nat × Obj)} (i : Int) (x : Room) (hx : x.name.size ≤ 9223372036854775807) (bf : List Room) (hbf : bf.length ≤ 1000) (bn : Nat) (v : Value) (N : List (Nat × Obj)) (hown : Rt.Own v 9 1 (bf.map (·.name)).length (strs (bf.map (·.name))) N) (hs : St w0 w ((bn, blk 73 [v]) :: (N ++ F))) :
    Con Try.prog 55 [.int .i64 i, .agg x.cells.toArray, .pointer (some ⟨bn, 0, none⟩)] w fun u w' => u = .int .i64 (roomE bf x) ∧ ∃ v' N', (roomE bf x = 0 → Rt.Own v' 9 1 (bf.map (·.name) ++ [x.name]).length (strs (bf.map (·.name) ++ [x.name])) N') ∧ St w0 w' ((bn, blk 73 [v']) :: (N' ++ F)) := by
  refine con_of_wc (n := 51) Try.func55 rfl rfl (Nat.le_of_ble_eq_true rfl) ?_
  have hbl : (bf.map (·.name)).length ≤ 1000 := by rw [List.length_map]; exact hbf
  obtain ⟨ab, cb, rfl, hsb⟩ := own_sl_map (w0 := w0) hown rfl F
  refine w_seq (fun K2 hK1 => ?_)
  refine w_region ?_
  refine w_box (v := .agg #[.string _, .int _ _, .int _ _, .int _ _, .int _ _]) (cs := [_, _, _, _, _]) want_none rfl rfl rfl hs (fun b3 w4 hs5 => ?_)
  refine w_pure want_none (y_assign (v := _) rfl rfl) rfl ?_
  refine w_nil ?_
  refine q_then (hK1 _ _ ?_)
  refine w_seq (fun K7 hK6 => ?_)
  refine w_seq (fun K9 hK8 => ?_)
  refine w_region ?_
  refine w_pure want_none (y_fieldAddr (o := 0) (i := 0) Try.underlying69 rfl Try.sizeOf9 rfl rfl rfl) rfl ?_
  refine w_pure want_none (y_load1 Try.isAgg9 hs5 rfl rfl (ats_own (i := 0) (vs := [_]) rfl rfl)) rfl ?_
  refine w_pure want_none (y_load1 Try.isAgg73 hs5 rfl rfl (ats_own (i := 1) (vs := [_]) rfl rfl)) rfl ?_
  refine w_call want_none Try.call56 rfl rfl rfl rfl (c56 _ _ _ (by omega) hsb.cons.cons _ (by omega) hs5) ?_
  rintro _ w11 ⟨rfl, hs12⟩
  refine w_pure want_none (y_assign (v := .int _ _) rfl rfl) rfl ?_
  refine w_nil ?_
  refine q_then (hK8 _ _ ?_)
  refine w_seq (fun K14 hK13 => ?_)
  refine w_region ?_
  refine w_pure want_none (y_move (v := .int _ _) rfl rfl) rfl ?_
  refine w_pure want_none (y_neq rfl rfl rfl rfl) rfl ?_
  refine w_nil ?_
  refine q_then (hK13 _ _ ?_)
  refine w_cond rfl rfl (fun h15 => ?_) (fun h15 => ?_)
  ·
   try simp only [Bool.not_eq_true', Bool.not_eq_false', decide_eq_true_eq, decide_eq_false_iff_not, Int.not_lt, Int.not_le] at h15
   refine w_seq (fun K17 hK16 => ?_)
   refine w_region ?_
   refine w_pure want_none (y_move (v := .int _ _) rfl rfl) rfl ?_
   refine w_pure want_none (y_assign (v := .int _ _) rfl rfl) rfl ?_
   refine w_nil ?_
   refine q_then (hK16 _ _ ?_)
   refine w_ret ?_
   refine q_then_ret ?_
   refine q_ret (l := [.tmp 5]) (vs := [_]) rfl ⟨⟨rfl, show _ = (.int _ _ : Value) from rfl⟩, trivial⟩ ?_
   try simp only [List.any_cons, List.any_nil, Bool.or_false, Bool.or_eq_false_iff] at h15
   first
     | exact ⟨congrArg (Value.int .i64) (roomE_name (by assumption)), _, N, fun h => absurd (roomE_name (by assumption) ▸ h) (by assumption), hs12.tail⟩
     | exact ⟨congrArg (Value.int .i64) (by rw [roomE_own (by assumption)]; simp [roomOwn, h15] <;> omega), _, N, fun _ => hN, hs12.tail⟩
  ·
   try simp only [Bool.not_eq_true', Bool.not_eq_false', decide_eq_true_eq, decide_eq_false_iff_not, Int.not_lt, Int.not_le] at h15
   refine w_skip ?_
   refine q_then (hK6 _ _ ?_)
   refine w_seq (fun K19 hK18 => ?_)
   refine w_region ?_
   refine w_pure want_none (y_load1 Try.isAgg73 hs12 rfl rfl (ats_own (i := 1) (vs := [_]) rfl rfl)) rfl ?_
   refine w_pure want_none (y_fieldAddr (o := 0) (i := 0) Try.underlying69 rfl Try.sizeOf9 rfl rfl rfl) rfl ?_
   refine w_pure want_none (y_load1 Try.isAgg9 hs12 rfl rfl (ats_own (i := 0) (vs := [_]) rfl rfl)) rfl ?_
   refine w_bslice (ps := [(0, _)]) (pv := [(0, .string _)]) (cs := [_]) want_none rfl rfl (fun w => Try_D_fb0 _ w) hs12 (fun b20 w21 hs22 => ?_)
   refine w_append (X := (_ :: _ :: _ :: [])) (B := N) (rows := [[_]]) (sz := 1) (bytes := 16) want_none Try.underlying73 Try_info9 rfl rfl rfl rfl rfl rfl rfl rfl rfl hs22 hown (sl_own (i := 0) rfl (by simp) rfl) rfl (by simp) (by simp [Value.oneCell']) (by simp only [maxLen]; omega) (by omega) (fun v23 w24 B25 ho26 hs27 => ?_)
   replace hs27 := (show St _ _ (_ :: _ :: _ :: B25 ++ (F)) from hs27)
   have hN := own_name ho26
   obtain ⟨an, cn, rfl⟩ := hN.slice
   refine w_store (i := 2) (v := .slice _ _ _) (vs := [_]) want_none Try.sizeOf73 rfl rfl rfl rfl rfl (by simp [Value.oneCell']) hs27 rfl (Nat.le_of_ble_eq_true rfl) (fun w28 hs29 => ?_)
   refine w_nil ?_
   refine q_then (hK18 _ _ ?_)
   refine w_seq (fun K31 hK30 => ?_)
   refine w_block ?_
   refine w_seq (fun K33 hK32 => ?_)
   refine w_region ?_
   refine w_pure want_none (y_fieldAddr (o := 1) (i := 1) Try.underlying69 rfl Try.sizeOf67 rfl rfl rfl) rfl ?_
   refine w_pure want_none (y_fieldAddr (o := 0) (i := 0) Try.underlying67 rfl Try.sizeOf3 rfl rfl rfl) rfl ?_
   refine w_pure want_none (y_load1 Try.isAgg3 hs29 rfl rfl (ats_own (i := 1) (vs := [_]) rfl rfl)) rfl ?_
   refine w_pure want_none (y_fieldAddr (o := 1) (i := 1) Try.underlying69 rfl Try.sizeOf67 rfl rfl rfl) rfl ?_
   refine w_pure want_none (y_fieldAddr (o := 1) (i := 1) Try.underlying67 rfl Try.sizeOf3 rfl rfl rfl) rfl ?_
   refine w_pure want_none (y_load1 Try.isAgg3 hs29 rfl rfl (ats_own (i := 1) (vs := [_]) rfl rfl)) rfl ?_
   refine w_bslice (ps := [(0, _), (1, _)]) (pv := [(0, .int _ _), (1, .int _ _)]) (cs := [_, _]) want_none rfl rfl (fun w => Try_D_fb2 _ _ w) hs29 (fun b34 w35 hs36 => ?_)
   refine w_call want_none Try.call57 rfl rfl rfl rfl (c57 _ _ _ [_, _] _ (by simp) (sl_own (i := 0) (rows := [[_], [_]]) rfl (by simp) rfl) hs36) ?_
   rintro _ w38 ⟨rfl, hs39⟩
   refine w_pure want_none (y_move (v := .bool _) rfl rfl) rfl ?_
   refine w_split (fun h40 => ?_) (fun h40 => ?_)
   ·
    try simp only [Bool.not_eq_true', Bool.not_eq_false', decide_eq_true_eq, decide_eq_false_iff_not, Int.not_lt, Int.not_le] at h40
    refine w_skipop rfl rfl rfl ?_
    refine w_skipop rfl rfl rfl ?_
    refine w_skipop rfl rfl rfl ?_
    refine w_skipop rfl rfl rfl ?_
    refine w_skipop rfl rfl rfl ?_
    refine w_skipop rfl rfl rfl ?_
    refine w_pure want_none (y_pickT (v := _) rfl rfl rfl rfl) rfl ?_
    refine w_pure want_none (y_assign (v := .bool _) rfl rfl) rfl ?_
    refine w_nil ?_
    refine q_then (hK32 _ _ ?_)
    refine w_condT rfl rfl ?_
    refine w_seq (fun K42 hK41 => ?_)
    refine w_region ?_
    refine w_pure want_none (y_assign (v := _) rfl rfl) rfl ?_
    refine w_nil ?_
    refine q_then (hK41 _ _ ?_)
    refine w_ret ?_
    refine q_blk_ret ?_
    refine q_then_ret ?_
    refine q_ret (l := [.tmp 5]) (vs := [_]) rfl ⟨⟨rfl, show _ = (.int _ _ : Value) from rfl⟩, trivial⟩ ?_
    try simp only [List.any_cons, List.any_nil, Bool.or_false, Bool.or_eq_false_iff] at h15 h40
    first
      | exact ⟨congrArg (Value.int .i64) (roomE_name (by assumption)), _, N, fun h => absurd (roomE_name (by assumption) ▸ h) (by assumption), hs39.tail.tail.tail⟩
      | exact ⟨congrArg (Value.int .i64) (by rw [roomE_own (by assumption)]; simp [roomOwn, h15, h40] <;> omega), _, B25, fun _ => hN, hs39.tail.tail.tail⟩
   ·
    try simp only [Bool.not_eq_true', Bool.not_eq_false', decide_eq_true_eq, decide_eq_false_iff_not, Int.not_lt, Int.not_le] at h40
    refine w_pure (want_yes rfl rfl rfl) (y_fieldAddr (o := 3) (i := 2) Try.underlying69 rfl Try.sizeOf3 rfl rfl rfl) rfl ?_
    refine w_pure (want_yes rfl rfl rfl) (y_load1 Try.isAgg3 hs39 rfl rfl (ats_own (i := 2) (vs := [_]) rfl rfl)) rfl ?_
    refine w_pure (want_yes rfl rfl rfl) (y_fieldAddr (o := 4) (i := 3) Try.underlying69 rfl Try.sizeOf3 rfl rfl rfl) rfl ?_
    refine w_pure (want_yes rfl rfl rfl) (y_load1 Try.isAgg3 hs39 rfl rfl (ats_own (i := 2) (vs := [_]) rfl rfl)) rfl ?_
    refine w_bslice (ps := [(0, _), (1, _)]) (pv := [(0, .int _ _), (1, .int _ _)]) (cs := [_, _]) (want_yes rfl rfl rfl) rfl rfl (fun w => Try_D_fb2 _ _ w) hs39 (fun b43 w44 hs45 => ?_)
    refine w_call (want_yes rfl rfl rfl) Try.call57 rfl rfl rfl rfl (c57 _ _ _ [_, _] _ (by simp) (sl_own (i := 0) (rows := [[_], [_]]) rfl (by simp) rfl) hs45) ?_
    rintro _ w47 ⟨rfl, hs48⟩
    refine w_pure want_none (y_pickF (v := .bool _) rfl rfl rfl rfl) rfl ?_
    refine w_pure want_none (y_assign (v := .bool _) rfl rfl) rfl ?_
    refine w_nil ?_
    refine q_then (hK32 _ _ ?_)
    refine w_cond rfl rfl (fun h49 => ?_) (fun h49 => ?_)
    ·
     try simp only [Bool.not_eq_true', Bool.not_eq_false', decide_eq_true_eq, decide_eq_false_iff_not, Int.not_lt, Int.not_le] at h49
     refine w_seq (fun K51 hK50 => ?_)
     refine w_region ?_
     refine w_pure want_none (y_assign (v := _) rfl rfl) rfl ?_
     refine w_nil ?_
     refine q_then (hK50 _ _ ?_)
     refine w_ret ?_
     refine q_blk_ret ?_
     refine q_then_ret ?_
     refine q_ret (l := [.tmp 5]) (vs := [_]) rfl ⟨⟨rfl, show _ = (.int _ _ : Value) from rfl⟩, trivial⟩ ?_
     try simp only [List.any_cons, List.any_nil, Bool.or_false, Bool.or_eq_false_iff] at h15 h40 h49
     first
       | exact ⟨congrArg (Value.int .i64) (roomE_name (by assumption)), _, N, fun h => absurd (roomE_name (by assumption) ▸ h) (by assumption), hs48.tail.tail.tail.tail⟩
       | exact ⟨congrArg (Value.int .i64) (by rw [roomE_own (by assumption)]; simp [roomOwn, h15, h40, h49] <;> omega), _, B25, fun _ => hN, hs48.tail.tail.tail.tail⟩
    ·
     try simp only [Bool.not_eq_true', Bool.not_eq_false', decide_eq_true_eq, decide_eq_false_iff_not, Int.not_lt, Int.not_le] at h49
     refine w_seq (fun K53 hK52 => ?_)
     refine w_region ?_
     refine w_pure want_none (y_fieldAddr (o := 1) (i := 1) Try.underlying69 rfl Try.sizeOf67 rfl rfl rfl) rfl ?_
     refine w_pure want_none (y_fieldAddr (o := 0) (i := 0) Try.underlying67 rfl Try.sizeOf3 rfl rfl rfl) rfl ?_
     refine w_pure want_none (y_load1 Try.isAgg3 hs48 rfl rfl (ats_own (i := 3) (vs := [_]) rfl rfl)) rfl ?_
     refine w_pure want_none (y_fieldAddr (o := 1) (i := 1) Try.underlying69 rfl Try.sizeOf67 rfl rfl rfl) rfl ?_
     refine w_pure want_none (y_fieldAddr (o := 1) (i := 1) Try.underlying67 rfl Try.sizeOf3 rfl rfl rfl) rfl ?_
     refine w_pure want_none (y_load1 Try.isAgg3 hs48 rfl rfl (ats_own (i := 3) (vs := [_]) rfl rfl)) rfl ?_
     refine w_pure want_none (y_gtr rfl rfl rfl rfl) rfl ?_
     refine w_pure want_none (y_move (v := .bool _) rfl rfl) rfl ?_
     refine w_split (fun h54 => ?_) (fun h54 => ?_)
     ·
      try simp only [Bool.not_eq_true', Bool.not_eq_false', decide_eq_true_eq, decide_eq_false_iff_not, Int.not_lt, Int.not_le] at h54
      refine w_skipop rfl rfl rfl ?_
      refine w_skipop rfl rfl rfl ?_
      refine w_skipop rfl rfl rfl ?_
      refine w_skipop rfl rfl rfl ?_
      refine w_skipop rfl rfl rfl ?_
      refine w_pure want_none (y_pickT (v := _) rfl rfl rfl rfl) rfl ?_
      refine w_pure want_none (y_assign (v := .bool _) rfl rfl) rfl ?_
      refine w_nil ?_
      refine q_then (hK52 _ _ ?_)
      refine w_condT rfl rfl ?_
      refine w_seq (fun K56 hK55 => ?_)
      refine w_region ?_
      refine w_pure want_none (y_assign (v := _) rfl rfl) rfl ?_
      refine w_nil ?_
      refine q_then (hK55 _ _ ?_)
      refine w_ret ?_
      refine q_blk_ret ?_
      refine q_then_ret ?_
      refine q_ret (l := [.tmp 5]) (vs := [_]) rfl ⟨⟨rfl, show _ = (.int _ _ : Value) from rfl⟩, trivial⟩ ?_
      try simp only [List.any_cons, List.any_nil, Bool.or_false, Bool.or_eq_false_iff] at h15 h40 h49 h54
      first
        | exact ⟨congrArg (Value.int .i64) (roomE_name (by assumption)), _, N, fun h => absurd (roomE_name (by assumption) ▸ h) (by assumption), hs48.tail.tail.tail.tail⟩
        | exact ⟨congrArg (Value.int .i64) (by rw [roomE_own (by assumption)]; simp [roomOwn, h15, h40, h49, h54] <;> omega), _, B25, fun _ => hN, hs48.tail.tail.tail.tail⟩
     ·
      try simp only [Bool.not_eq_true', Bool.not_eq_false', decide_eq_true_eq, decide_eq_false_iff_not, Int.not_lt, Int.not_le] at h54
      refine w_pure (want_yes rfl rfl rfl) (y_fieldAddr (o := 3) (i := 2) Try.underlying69 rfl Try.sizeOf3 rfl rfl rfl) rfl ?_
      refine w_pure (want_yes rfl rfl rfl) (y_load1 Try.isAgg3 hs48 rfl rfl (ats_own (i := 3) (vs := [_]) rfl rfl)) rfl ?_
      refine w_pure (want_yes rfl rfl rfl) (y_fieldAddr (o := 4) (i := 3) Try.underlying69 rfl Try.sizeOf3 rfl rfl rfl) rfl ?_
      refine w_pure (want_yes rfl rfl rfl) (y_load1 Try.isAgg3 hs48 rfl rfl (ats_own (i := 3) (vs := [_]) rfl rfl)) rfl ?_
      refine w_pure (want_yes rfl rfl rfl) (y_gtr rfl rfl rfl rfl) rfl ?_
      refine w_pure want_none (y_pickF (v := .bool _) rfl rfl rfl rfl) rfl ?_
      refine w_pure want_none (y_assign (v := .bool _) rfl rfl) rfl ?_
      refine w_nil ?_
      refine q_then (hK52 _ _ ?_)
      refine w_cond rfl rfl (fun h57 => ?_) (fun h57 => ?_)
      ·
       try simp only [Bool.not_eq_true', Bool.not_eq_false', decide_eq_true_eq, decide_eq_false_iff_not, Int.not_lt, Int.not_le] at h57
       refine w_seq (fun K59 hK58 => ?_)
       refine w_region ?_
       refine w_pure want_none (y_assign (v := _) rfl rfl) rfl ?_
       refine w_nil ?_
       refine q_then (hK58 _ _ ?_)
       refine w_ret ?_
       refine q_blk_ret ?_
       refine q_then_ret ?_
       refine q_ret (l := [.tmp 5]) (vs := [_]) rfl ⟨⟨rfl, show _ = (.int _ _ : Value) from rfl⟩, trivial⟩ ?_
       try simp only [List.any_cons, List.any_nil, Bool.or_false, Bool.or_eq_false_iff] at h15 h40 h49 h54 h57
       first
         | exact ⟨congrArg (Value.int .i64) (roomE_name (by assumption)), _, N, fun h => absurd (roomE_name (by assumption) ▸ h) (by assumption), hs48.tail.tail.tail.tail⟩
         | exact ⟨congrArg (Value.int .i64) (by rw [roomE_own (by assumption)]; simp [roomOwn, h15, h40, h49, h54, h57] <;> omega), _, B25, fun _ => hN, hs48.tail.tail.tail.tail⟩
      ·
       try simp only [Bool.not_eq_true', Bool.not_eq_false', decide_eq_true_eq, decide_eq_false_iff_not, Int.not_lt, Int.not_le] at h57
       refine w_skip ?_
       refine q_blk_normal ?_
       refine q_then (hK30 _ _ ?_)
       refine w_seq (fun K61 hK60 => ?_)
       refine w_region ?_
       refine w_pure want_none (y_assign (v := _) rfl rfl) rfl ?_
       refine w_nil ?_
       refine q_then (hK60 _ _ ?_)
       refine w_ret ?_
       refine q_ret (l := [.tmp 5]) (vs := [_]) rfl ⟨⟨rfl, show _ = (.int _ _ : Value) from rfl⟩, trivial⟩ ?_
       try simp only [List.any_cons, List.any_nil, Bool.or_false, Bool.or_eq_false_iff] at h15 h40 h49 h54 h57
       first
         | exact ⟨congrArg (Value.int .i64) (roomE_name (by assumption)), _, N, fun h => absurd (roomE_name (by assumption) ▸ h) (by assumption), hs48.tail.tail.tail.tail⟩
         | exact ⟨congrArg (Value.int .i64) (by rw [roomE_own (by assumption)]; simp [roomOwn, h15, h40, h49, h54, h57] <;> omega), _, B25, fun _ => hN, hs48.tail.tail.tail.tail⟩

theorem c59 {w0 w : World} {F : List (Nat × Obj)} (i : Int) (x : Shop) (hx : x.name.size ≤ 9223372036854775807) (bf : List Shop) (hbf : bf.length ≤ 1000) (bn : Nat) (v : Value) (N : List (Nat × Obj)) (hown : Rt.Own v 9 1 (bf.map (·.name)).length (strs (bf.map (·.name))) N) (hs : St w0 w ((bn, blk 73 [v]) :: (N ++ F))) :
    Con Try.prog 59 [.int .i64 i, .agg x.cells.toArray, .pointer (some ⟨bn, 0, none⟩)] w fun u w' => u = .int .i64 (shopE bf x) ∧ ∃ v' N', (shopE bf x = 0 → Rt.Own v' 9 1 (bf.map (·.name) ++ [x.name]).length (strs (bf.map (·.name) ++ [x.name])) N') ∧ St w0 w' ((bn, blk 73 [v']) :: (N' ++ F)) := by
  refine con_of_wc (n := 29) Try.func59 rfl rfl (Nat.le_of_ble_eq_true rfl) ?_
  have hbl : (bf.map (·.name)).length ≤ 1000 := by rw [List.length_map]; exact hbf
  obtain ⟨ab, cb, rfl, hsb⟩ := own_sl_map (w0 := w0) hown rfl F
  refine w_seq (fun K2 hK1 => ?_)
  refine w_region ?_
  refine w_box (v := .agg #[.string _, .int _ _, .int _ _]) (cs := [_, _, _]) want_none rfl rfl rfl hs (fun b3 w4 hs5 => ?_)
  refine w_pure want_none (y_assign (v := _) rfl rfl) rfl ?_
  refine w_nil ?_
  refine q_then (hK1 _ _ ?_)
  refine w_seq (fun K7 hK6 => ?_)
  refine w_seq (fun K9 hK8 => ?_)
  refine w_region ?_
  refine w_pure want_none (y_fieldAddr (o := 0) (i := 0) Try.underlying52 rfl Try.sizeOf9 rfl rfl rfl) rfl ?_
  refine w_pure want_none (y_load1 Try.isAgg9 hs5 rfl rfl (ats_own (i := 0) (vs := [_]) rfl rfl)) rfl ?_
  refine w_pure want_none (y_load1 Try.isAgg73 hs5 rfl rfl (ats_own (i := 1) (vs := [_]) rfl rfl)) rfl ?_
  refine w_call want_none Try.call56 rfl rfl rfl rfl (c56 _ _ _ (by omega) hsb.cons.cons _ (by omega) hs5) ?_
  rintro _ w11 ⟨rfl, hs12⟩
  refine w_pure want_none (y_assign (v := .int _ _) rfl rfl) rfl ?_
  refine w_nil ?_
  refine q_then (hK8 _ _ ?_)
  refine w_seq (fun K14 hK13 => ?_)
  refine w_region ?_
  refine w_pure want_none (y_move (v := .int _ _) rfl rfl) rfl ?_
  refine w_pure want_none (y_neq rfl rfl rfl rfl) rfl ?_
  refine w_nil ?_
  refine q_then (hK13 _ _ ?_)
  refine w_cond rfl rfl (fun h15 => ?_) (fun h15 => ?_)
  ·
   try simp only [Bool.not_eq_true', Bool.not_eq_false', decide_eq_true_eq, decide_eq_false_iff_not, Int.not_lt, Int.not_le] at h15
   refine w_seq (fun K17 hK16 => ?_)
   refine w_region ?_
   refine w_pure want_none (y_move (v := .int _ _) rfl rfl) rfl ?_
   refine w_pure want_none (y_assign (v := .int _ _) rfl rfl) rfl ?_
   refine w_nil ?_
   refine q_then (hK16 _ _ ?_)
   refine w_ret ?_
   refine q_then_ret ?_
   refine q_ret (l := [.tmp 5]) (vs := [_]) rfl ⟨⟨rfl, show _ = (.int _ _ : Value) from rfl⟩, trivial⟩ ?_
   try simp only [List.any_cons, List.any_nil, Bool.or_false, Bool.or_eq_false_iff] at h15
   first
     | exact ⟨congrArg (Value.int .i64) (shopE_name (by assumption)), _, N, fun h => absurd (shopE_name (by assumption) ▸ h) (by assumption), hs12.tail⟩
     | exact ⟨congrArg (Value.int .i64) (by rw [shopE_own (by assumption)]; simp [shopOwn, h15] <;> omega), _, N, fun _ => hN, hs12.tail⟩
  ·
   try simp only [Bool.not_eq_true', Bool.not_eq_false', decide_eq_true_eq, decide_eq_false_iff_not, Int.not_lt, Int.not_le] at h15
   refine w_skip ?_
   refine q_then (hK6 _ _ ?_)
   refine w_seq (fun K19 hK18 => ?_)
   refine w_region ?_
   refine w_pure want_none (y_load1 Try.isAgg73 hs12 rfl rfl (ats_own (i := 1) (vs := [_]) rfl rfl)) rfl ?_
   refine w_pure want_none (y_fieldAddr (o := 0) (i := 0) Try.underlying52 rfl Try.sizeOf9 rfl rfl rfl) rfl ?_
   refine w_pure want_none (y_load1 Try.isAgg9 hs12 rfl rfl (ats_own (i := 0) (vs := [_]) rfl rfl)) rfl ?_
   refine w_bslice (ps := [(0, _)]) (pv := [(0, .string _)]) (cs := [_]) want_none rfl rfl (fun w => Try_D_fb0 _ w) hs12 (fun b20 w21 hs22 => ?_)
   refine w_append (X := (_ :: _ :: _ :: [])) (B := N) (rows := [[_]]) (sz := 1) (bytes := 16) want_none Try.underlying73 Try_info9 rfl rfl rfl rfl rfl rfl rfl rfl rfl hs22 hown (sl_own (i := 0) rfl (by simp) rfl) rfl (by simp) (by simp [Value.oneCell']) (by simp only [maxLen]; omega) (by omega) (fun v23 w24 B25 ho26 hs27 => ?_)
   replace hs27 := (show St _ _ (_ :: _ :: _ :: B25 ++ (F)) from hs27)
   have hN := own_name ho26
   obtain ⟨an, cn, rfl⟩ := hN.slice
   refine w_store (i := 2) (v := .slice _ _ _) (vs := [_]) want_none Try.sizeOf73 rfl rfl rfl rfl rfl (by simp [Value.oneCell']) hs27 rfl (Nat.le_of_ble_eq_true rfl) (fun w28 hs29 => ?_)
   refine w_nil ?_
   refine q_then (hK18 _ _ ?_)
   refine w_seq (fun K31 hK30 => ?_)
   refine w_seq (fun K33 hK32 => ?_)
   refine w_region ?_
   refine w_pure want_none (y_fieldAddr (o := 1) (i := 1) Try.underlying52 rfl Try.sizeOf3 rfl rfl rfl) rfl ?_
   refine w_pure want_none (y_load1 Try.isAgg3 hs29 rfl rfl (ats_own (i := 1) (vs := [_]) rfl rfl)) rfl ?_
   refine w_bslice (ps := [(0, _)]) (pv := [(0, .int _ _)]) (cs := [_]) want_none rfl rfl (fun w => Try_D_fb3 _ w) hs29 (fun b34 w35 hs36 => ?_)
   refine w_call want_none Try.call57 rfl rfl rfl rfl (c57 _ _ _ [_] _ (by simp) (sl_own (i := 0) (rows := [[_]]) rfl (by simp) rfl) hs36) ?_
   rintro _ w38 ⟨rfl, hs39⟩
   refine w_pure want_none (y_move (v := .bool _) rfl rfl) rfl ?_
   refine w_split (fun h40 => ?_) (fun h40 => ?_)
   ·
    try simp only [Bool.not_eq_true', Bool.not_eq_false', decide_eq_true_eq, decide_eq_false_iff_not, Int.not_lt, Int.not_le] at h40
    refine w_skipop rfl rfl rfl ?_
    refine w_skipop rfl rfl rfl ?_
    refine w_skipop rfl rfl rfl ?_
    refine w_skipop rfl rfl rfl ?_
    refine w_pure want_none (y_pickT (v := _) rfl rfl rfl rfl) rfl ?_
    refine w_nil ?_
    refine q_then (hK32 _ _ ?_)
    refine w_condT rfl rfl ?_
    refine w_seq (fun K42 hK41 => ?_)
    refine w_region ?_
    refine w_pure want_none (y_assign (v := _) rfl rfl) rfl ?_
    refine w_nil ?_
    refine q_then (hK41 _ _ ?_)
    refine w_ret ?_
    refine q_then_ret ?_
    refine q_ret (l := [.tmp 5]) (vs := [_]) rfl ⟨⟨rfl, show _ = (.int _ _ : Value) from rfl⟩, trivial⟩ ?_
    try simp only [List.any_cons, List.any_nil, Bool.or_false, Bool.or_eq_false_iff] at h15 h40
    first
      | exact ⟨congrArg (Value.int .i64) (shopE_name (by assumption)), _, N, fun h => absurd (shopE_name (by assumption) ▸ h) (by assumption), hs39.tail.tail.tail⟩
      | exact ⟨congrArg (Value.int .i64) (by rw [shopE_own (by assumption)]; simp [shopOwn, h15, h40] <;> omega), _, B25, fun _ => hN, hs39.tail.tail.tail⟩
   ·
    try simp only [Bool.not_eq_true', Bool.not_eq_false', decide_eq_true_eq, decide_eq_false_iff_not, Int.not_lt, Int.not_le] at h40
    refine w_pure (want_yes rfl rfl rfl) (y_fieldAddr (o := 2) (i := 2) Try.underlying52 rfl Try.sizeOf3 rfl rfl rfl) rfl ?_
    refine w_pure (want_yes rfl rfl rfl) (y_load1 Try.isAgg3 hs39 rfl rfl (ats_own (i := 2) (vs := [_]) rfl rfl)) rfl ?_
    refine w_bslice (ps := [(0, _)]) (pv := [(0, .int _ _)]) (cs := [_]) (want_yes rfl rfl rfl) rfl rfl (fun w => Try_D_fb3 _ w) hs39 (fun b43 w44 hs45 => ?_)
    refine w_call (want_yes rfl rfl rfl) Try.call57 rfl rfl rfl rfl (c57 _ _ _ [_] _ (by simp) (sl_own (i := 0) (rows := [[_]]) rfl (by simp) rfl) hs45) ?_
    rintro _ w47 ⟨rfl, hs48⟩
    refine w_pure want_none (y_pickF (v := .bool _) rfl rfl rfl rfl) rfl ?_
    refine w_nil ?_
    refine q_then (hK32 _ _ ?_)
    refine w_cond rfl rfl (fun h49 => ?_) (fun h49 => ?_)
    ·
     try simp only [Bool.not_eq_true', Bool.not_eq_false', decide_eq_true_eq, decide_eq_false_iff_not, Int.not_lt, Int.not_le] at h49
     refine w_seq (fun K51 hK50 => ?_)
     refine w_region ?_
     refine w_pure want_none (y_assign (v := _) rfl rfl) rfl ?_
     refine w_nil ?_
     refine q_then (hK50 _ _ ?_)
     refine w_ret ?_
     refine q_then_ret ?_
     refine q_ret (l := [.tmp 5]) (vs := [_]) rfl ⟨⟨rfl, show _ = (.int _ _ : Value) from rfl⟩, trivial⟩ ?_
     try simp only [List.any_cons, List.any_nil, Bool.or_false, Bool.or_eq_false_iff] at h15 h40 h49
     first
       | exact ⟨congrArg (Value.int .i64) (shopE_name (by assumption)), _, N, fun h => absurd (shopE_name (by assumption) ▸ h) (by assumption), hs48.tail.tail.tail.tail⟩
       | exact ⟨congrArg (Value.int .i64) (by rw [shopE_own (by assumption)]; simp [shopOwn, h15, h40, h49] <;> omega), _, B25, fun _ => hN, hs48.tail.tail.tail.tail⟩
    ·
     try simp only [Bool.not_eq_true', Bool.not_eq_false', decide_eq_true_eq, decide_eq_false_iff_not, Int.not_lt, Int.not_le] at h49
     refine w_skip ?_
     refine q_then (hK30 _ _ ?_)
     refine w_seq (fun K53 hK52 => ?_)
     refine w_region ?_
     refine w_pure want_none (y_assign (v := _) rfl rfl) rfl ?_
     refine w_nil ?_
     refine q_then (hK52 _ _ ?_)
     refine w_ret ?_
     refine q_ret (l := [.tmp 5]) (vs := [_]) rfl ⟨⟨rfl, show _ = (.int _ _ : Value) from rfl⟩, trivial⟩ ?_
     try simp only [List.any_cons, List.any_nil, Bool.or_false, Bool.or_eq_false_iff] at h15 h40 h49
     first
       | exact ⟨congrArg (Value.int .i64) (shopE_name (by assumption)), _, N, fun h => absurd (shopE_name (by assumption) ▸ h) (by assumption), hs48.tail.tail.tail.tail⟩
       | exact ⟨congrArg (Value.int .i64) (by rw [shopE_own (by assumption)]; simp [shopOwn, h15, h40, h49] <;> omega), _, B25, fun _ => hN, hs48.tail.tail.tail.tail⟩

theorem c61 {w0 w : World} {F : List (Nat × Obj)} (m : Market) (p : At3) (hm : MIn w0 F m p) (i : Int) (t : Train) (bm : Nat) (hb : Ats w0 F bm 0 (m.cells p)) (bf : List Train) (hs : St w0 w F) :
  Con Try.prog 61 [.int .i64 i, .agg t.cells.toArray, .pointer (some ⟨bm, 0, none⟩)] w fun v w' => v = .int .i64 (trainE m bf t) ∧ St w0 w' F := by
  refine con_of_wc (n := 36) Try.func61 rfl rfl (Nat.le_of_ble_eq_true rfl) ?_
  have hlr := hm.lr
  have hls := hm.ls
  refine w_seq (fun K2 hK1 => ?_)
  refine w_region ?_
  refine w_box (v := .agg #[.int _ _, .int _ _, .int _ _, .int _ _]) (cs := [_, _, _, _]) want_none rfl rfl rfl hs (fun b3 w4 hs5 => ?_)
  refine w_pure want_none (y_assign (v := _) rfl rfl) rfl ?_
  refine w_nil ?_
  refine q_then (hK1 _ _ ?_)
  refine w_seq (fun K7 hK6 => ?_)
  refine w_block ?_
  refine w_seq (fun K9 hK8 => ?_)
  refine w_region ?_
  refine w_pure want_none (y_fieldAddr (o := 0) (i := 0) Try.underlying26 rfl Try.sizeOf22 rfl rfl rfl) rfl ?_
  refine w_pure want_none (y_load1 Try.isAgg22 hs5.tail rfl rfl (show Ats _ _ _ _ [_] from Ats.part hb 0 1)) rfl ?_
  refine w_pure want_none (y_lenS Try.underlying22 rfl rfl) rfl ?_
  refine w_pure want_none (y_sub rfl rfl rfl rfl (by omega) (by omega)) rfl ?_
  refine w_pure want_none (y_fieldAddr (o := 0) (i := 0) Try.underlying63 rfl Try.sizeOf3 rfl rfl rfl) rfl ?_
  refine w_pure want_none (y_load1 Try.isAgg3 hs5 rfl rfl (ats_own (i := 0) (vs := [_]) rfl rfl)) rfl ?_
  refine w_bslice (ps := [(0, _)]) (pv := [(0, .int _ _)]) (cs := [_]) want_none rfl rfl (fun w => Try_D_fb3 _ w) hs5 (fun b10 w11 hs12 => ?_)
  refine w_call want_none Try.call57 rfl rfl rfl rfl (c57 _ _ _ [_] _ (by simp) (sl_own (i := 0) (rows := [[_]]) rfl (by simp) rfl) hs12) ?_
  rintro _ w14 ⟨rfl, hs15⟩
  refine w_pure want_none (y_move (v := .bool _) rfl rfl) rfl ?_
  refine w_split (fun h16 => ?_) (fun h16 => ?_)
  ·
   try simp only [Bool.not_eq_true', Bool.not_eq_false', decide_eq_true_eq, decide_eq_false_iff_not, Int.not_lt, Int.not_le] at h16
   refine w_skipop rfl rfl rfl ?_
   refine w_skipop rfl rfl rfl ?_
   refine w_skipop rfl rfl rfl ?_
   refine w_skipop rfl rfl rfl ?_
   refine w_skipop rfl rfl rfl ?_
   refine w_skipop rfl rfl rfl ?_
   refine w_skipop rfl rfl rfl ?_
   refine w_skipop rfl rfl rfl ?_
   refine w_pure want_none (y_pickT (v := _) rfl rfl rfl rfl) rfl ?_
   refine w_pure want_none (y_assign (v := .bool _) rfl rfl) rfl ?_
   refine w_nil ?_
   refine q_then (hK8 _ _ ?_)
   refine w_condT rfl rfl ?_
   refine w_seq (fun K18 hK17 => ?_)
   refine w_region ?_
   refine w_pure want_none (y_assign (v := _) rfl rfl) rfl ?_
   refine w_nil ?_
   refine q_then (hK17 _ _ ?_)
   refine w_ret ?_
   refine q_blk_ret ?_
   refine q_then_ret ?_
   refine q_ret (l := [.tmp 5]) (vs := [_]) rfl ⟨⟨rfl, show _ = (.int _ _ : Value) from rfl⟩, trivial⟩ ?_
   try simp only [List.any_cons, List.any_nil, Bool.or_false, Bool.or_eq_false_iff] at h16
   exact ⟨congrArg (Value.int .i64) (by simp [trainE, h16]), hs15.tail.tail⟩
  ·
   try simp only [Bool.not_eq_true', Bool.not_eq_false', decide_eq_true_eq, decide_eq_false_iff_not, Int.not_lt, Int.not_le] at h16
   refine w_pure (want_yes rfl rfl rfl) (y_fieldAddr (o := 1) (i := 1) Try.underlying26 rfl Try.sizeOf23 rfl rfl rfl) rfl ?_
   refine w_pure (want_yes rfl rfl rfl) (y_load1 Try.isAgg23 hs15.tail.tail rfl rfl (show Ats _ _ _ _ [_] from Ats.part hb 1 1)) rfl ?_
   refine w_pure (want_yes rfl rfl rfl) (y_lenS Try.underlying23 rfl rfl) rfl ?_
   refine w_pure (want_yes rfl rfl rfl) (y_sub rfl rfl rfl rfl (by omega) (by omega)) rfl ?_
   refine w_pure (want_yes rfl rfl rfl) (y_fieldAddr (o := 1) (i := 1) Try.underlying63 rfl Try.sizeOf3 rfl rfl rfl) rfl ?_
   refine w_pure (want_yes rfl rfl rfl) (y_load1 Try.isAgg3 hs15 rfl rfl (ats_own (i := 1) (vs := [_]) rfl rfl)) rfl ?_
   refine w_bslice (ps := [(0, _)]) (pv := [(0, .int _ _)]) (cs := [_]) (want_yes rfl rfl rfl) rfl rfl (fun w => Try_D_fb3 _ w) hs15 (fun b19 w20 hs21 => ?_)
   refine w_call (want_yes rfl rfl rfl) Try.call57 rfl rfl rfl rfl (c57 _ _ _ [_] _ (by simp) (sl_own (i := 0) (rows := [[_]]) rfl (by simp) rfl) hs21) ?_
   rintro _ w23 ⟨rfl, hs24⟩
   refine w_pure want_none (y_pickF (v := .bool _) rfl rfl rfl rfl) rfl ?_
   refine w_pure want_none (y_assign (v := .bool _) rfl rfl) rfl ?_
   refine w_nil ?_
   refine q_then (hK8 _ _ ?_)
   refine w_cond rfl rfl (fun h25 => ?_) (fun h25 => ?_)
   ·
    try simp only [Bool.not_eq_true', Bool.not_eq_false', decide_eq_true_eq, decide_eq_false_iff_not, Int.not_lt, Int.not_le] at h25
    refine w_seq (fun K27 hK26 => ?_)
    refine w_region ?_
    refine w_pure want_none (y_assign (v := _) rfl rfl) rfl ?_
    refine w_nil ?_
    refine q_then (hK26 _ _ ?_)
    refine w_ret ?_
    refine q_blk_ret ?_
    refine q_then_ret ?_
    refine q_ret (l := [.tmp 5]) (vs := [_]) rfl ⟨⟨rfl, show _ = (.int _ _ : Value) from rfl⟩, trivial⟩ ?_
    try simp only [List.any_cons, List.any_nil, Bool.or_false, Bool.or_eq_false_iff] at h16 h25
    exact ⟨congrArg (Value.int .i64) (by simp [trainE, h16, h25]), hs24.tail.tail.tail⟩
   ·
    try simp only [Bool.not_eq_true', Bool.not_eq_false', decide_eq_true_eq, decide_eq_false_iff_not, Int.not_lt, Int.not_le] at h25
    refine w_seq (fun K29 hK28 => ?_)
    refine w_region ?_
    refine w_pure want_none (y_fieldAddr (o := 2) (i := 2) Try.underlying63 rfl Try.sizeOf3 rfl rfl rfl) rfl ?_
    refine w_pure want_none (y_load1 Try.isAgg3 hs24 rfl rfl (ats_own (i := 2) (vs := [_]) rfl rfl)) rfl ?_
    refine w_bslice (ps := [(0, _)]) (pv := [(0, .int _ _)]) (cs := [_]) want_none rfl rfl (fun w => Try_D_fb3 _ w) hs24 (fun b30 w31 hs32 => ?_)
    refine w_call want_none Try.call57 rfl rfl rfl rfl (c57 _ _ _ [_] _ (by simp) (sl_own (i := 0) (rows := [[_]]) rfl (by simp) rfl) hs32) ?_
    rintro _ w34 ⟨rfl, hs35⟩
    refine w_pure want_none (y_move (v := .bool _) rfl rfl) rfl ?_
    refine w_split (fun h36 => ?_) (fun h36 => ?_)
    ·
     try simp only [Bool.not_eq_true', Bool.not_eq_false', decide_eq_true_eq, decide_eq_false_iff_not, Int.not_lt, Int.not_le] at h36
     refine w_skipop rfl rfl rfl ?_
     refine w_skipop rfl rfl rfl ?_
     refine w_skipop rfl rfl rfl ?_
     refine w_skipop rfl rfl rfl ?_
     refine w_pure want_none (y_pickT (v := _) rfl rfl rfl rfl) rfl ?_
     refine w_pure want_none (y_assign (v := .bool _) rfl rfl) rfl ?_
     refine w_nil ?_
     refine q_then (hK28 _ _ ?_)
     refine w_condT rfl rfl ?_
     refine w_seq (fun K38 hK37 => ?_)
     refine w_region ?_
     refine w_pure want_none (y_assign (v := _) rfl rfl) rfl ?_
     refine w_nil ?_
     refine q_then (hK37 _ _ ?_)
     refine w_ret ?_
     refine q_blk_ret ?_
     refine q_then_ret ?_
     refine q_ret (l := [.tmp 5]) (vs := [_]) rfl ⟨⟨rfl, show _ = (.int _ _ : Value) from rfl⟩, trivial⟩ ?_
     try simp only [List.any_cons, List.any_nil, Bool.or_false, Bool.or_eq_false_iff] at h16 h25 h36
     exact ⟨congrArg (Value.int .i64) (by simp [trainE, h16, h25, h36]), hs35.tail.tail.tail.tail⟩
    ·
     try simp only [Bool.not_eq_true', Bool.not_eq_false', decide_eq_true_eq, decide_eq_false_iff_not, Int.not_lt, Int.not_le] at h36
     refine w_pure (want_yes rfl rfl rfl) (y_fieldAddr (o := 3) (i := 3) Try.underlying63 rfl Try.sizeOf3 rfl rfl rfl) rfl ?_
     refine w_pure (want_yes rfl rfl rfl) (y_load1 Try.isAgg3 hs35 rfl rfl (ats_own (i := 3) (vs := [_]) rfl rfl)) rfl ?_
     refine w_bslice (ps := [(0, _)]) (pv := [(0, .int _ _)]) (cs := [_]) (want_yes rfl rfl rfl) rfl rfl (fun w => Try_D_fb3 _ w) hs35 (fun b39 w40 hs41 => ?_)
     refine w_call (want_yes rfl rfl rfl) Try.call57 rfl rfl rfl rfl (c57 _ _ _ [_] _ (by simp) (sl_own (i := 0) (rows := [[_]]) rfl (by simp) rfl) hs41) ?_
     rintro _ w43 ⟨rfl, hs44⟩
     refine w_pure want_none (y_pickF (v := .bool _) rfl rfl rfl rfl) rfl ?_
     refine w_pure want_none (y_assign (v := .bool _) rfl rfl) rfl ?_
     refine w_nil ?_
     refine q_then (hK28 _ _ ?_)
     refine w_cond rfl rfl (fun h45 => ?_) (fun h45 => ?_)
     ·
      try simp only [Bool.not_eq_true', Bool.not_eq_false', decide_eq_true_eq, decide_eq_false_iff_not, Int.not_lt, Int.not_le] at h45
      refine w_seq (fun K47 hK46 => ?_)
      refine w_region ?_
      refine w_pure want_none (y_assign (v := _) rfl rfl) rfl ?_
      refine w_nil ?_
      refine q_then (hK46 _ _ ?_)
      refine w_ret ?_
      refine q_blk_ret ?_
      refine q_then_ret ?_
      refine q_ret (l := [.tmp 5]) (vs := [_]) rfl ⟨⟨rfl, show _ = (.int _ _ : Value) from rfl⟩, trivial⟩ ?_
      try simp only [List.any_cons, List.any_nil, Bool.or_false, Bool.or_eq_false_iff] at h16 h25 h36 h45
      exact ⟨congrArg (Value.int .i64) (by simp [trainE, h16, h25, h36, h45]), hs44.tail.tail.tail.tail.tail⟩
     ·
      try simp only [Bool.not_eq_true', Bool.not_eq_false', decide_eq_true_eq, decide_eq_false_iff_not, Int.not_lt, Int.not_le] at h45
      refine w_skip ?_
      refine q_blk_normal ?_
      refine q_then (hK6 _ _ ?_)
      refine w_seq (fun K49 hK48 => ?_)
      refine w_region ?_
      refine w_pure want_none (y_assign (v := _) rfl rfl) rfl ?_
      refine w_nil ?_
      refine q_then (hK48 _ _ ?_)
      refine w_ret ?_
      refine q_ret (l := [.tmp 5]) (vs := [_]) rfl ⟨⟨rfl, show _ = (.int _ _ : Value) from rfl⟩, trivial⟩ ?_
      try simp only [List.any_cons, List.any_nil, Bool.or_false, Bool.or_eq_false_iff] at h16 h25 h36 h45
      exact ⟨congrArg (Value.int .i64) (by simp [trainE, h16, h25, h36, h45]), hs44.tail.tail.tail.tail.tail⟩

def NI (bn : Nat) (nm : Nat → List ByteArray) (i : Nat) (B : List (Nat × Obj)) : Prop := ∃ v N, B = (bn, blk 73 [v]) :: N ∧ Rt.Own v 9 1 (nm i).length (strs (nm i)) N
theorem NI0 (bn : Nat) {nm : Nat → List ByteArray} (h : nm 0 = []) : NI bn nm 0 [(bn, blk 73 [.slice none 0 0])] := ⟨_, [], rfl, by rw [h]; exact own_nil 9 1⟩
theorem nm_rooms {w0 : World} {G : List (Nat × Obj)} (l : List Room) (hn : ∀ x ∈ l, x.name.size ≤ 9223372036854775807) (hl : l.length ≤ 1000) (bn : Nat) (i : Nat) (hi : i < l.length) (X B : List (Nat × Obj)) (w : World) (hI : NI bn (fun i => (l.take i).map (·.name)) i B) (hs : St w0 w (X ++ (B ++ G))) :
    FCon Try.prog (.func (.func 55) #[] #[.pointer (some ⟨bn, 0, none⟩)]) [.int .i64 i, .agg l[i].cells.toArray] w fun v w' => v = .int .i64 (roomE (l.take i) l[i]) ∧ ∃ B', (roomE (l.take i) l[i] = 0 → NI bn (fun i => (l.take i).map (·.name)) (i + 1) B') ∧ St w0 w' (X ++ (B' ++ G)) := by
  obtain ⟨v, N, rfl, hown⟩ := hI
  have hs2 : St w0 w ((bn, blk 73 [v]) :: (N ++ (X ++ G))) := hs.perm (perm_mid X ((bn, blk 73 [v]) :: N) G)
  refine fcon_fn Try.call55 ((c55 i l[i] (hn _ (List.getElem_mem hi)) (l.take i) (by rw [List.length_take]; omega) bn v N hown hs2).mono fun u w' h => ?_)
  obtain ⟨h1, v', N', h2, h3⟩ := h
  refine ⟨h1, (bn, blk 73 [v']) :: N', fun h => ⟨v', N', rfl, ?_⟩, h3.perm (perm_mid ((bn, blk 73 [v']) :: N') X G)⟩
  have e : (l.take (i + 1)).map (·.name) = (l.take i).map (·.name) ++ [l[i].name] := by rw [List.take_succ_eq_append_getElem hi, List.map_append]; rfl
  show Rt.Own v' 9 1 ((l.take (i + 1)).map (·.name)).length (strs ((l.take (i + 1)).map (·.name))) N'
  rw [e]; exact h2 h
theorem nm_shops {w0 : World} {G : List (Nat × Obj)} (l : List Shop) (hn : ∀ x ∈ l, x.name.size ≤ 9223372036854775807) (hl : l.length ≤ 1000) (bn : Nat) (i : Nat) (hi : i < l.length) (X B : List (Nat × Obj)) (w : World) (hI : NI bn (fun i => (l.take i).map (·.name)) i B) (hs : St w0 w (X ++ (B ++ G))) :
    FCon Try.prog (.func (.func 59) #[] #[.pointer (some ⟨bn, 0, none⟩)]) [.int .i64 i, .agg l[i].cells.toArray] w fun v w' => v = .int .i64 (shopE (l.take i) l[i]) ∧ ∃ B', (shopE (l.take i) l[i] = 0 → NI bn (fun i => (l.take i).map (·.name)) (i + 1) B') ∧ St w0 w' (X ++ (B' ++ G)) := by
  obtain ⟨v, N, rfl, hown⟩ := hI
  have hs2 : St w0 w ((bn, blk 73 [v]) :: (N ++ (X ++ G))) := hs.perm (perm_mid X ((bn, blk 73 [v]) :: N) G)
  refine fcon_fn Try.call59 ((c59 i l[i] (hn _ (List.getElem_mem hi)) (l.take i) (by rw [List.length_take]; omega) bn v N hown hs2).mono fun u w' h => ?_)
  obtain ⟨h1, v', N', h2, h3⟩ := h
  refine ⟨h1, (bn, blk 73 [v']) :: N', fun h => ⟨v', N', rfl, ?_⟩, h3.perm (perm_mid ((bn, blk 73 [v']) :: N') X G)⟩
  have e : (l.take (i + 1)).map (·.name) = (l.take i).map (·.name) ++ [l[i].name] := by rw [List.take_succ_eq_append_getElem hi, List.map_append]; rfl
  show Rt.Own v' 9 1 ((l.take (i + 1)).map (·.name)).length (strs ((l.take (i + 1)).map (·.name))) N'
  rw [e]; exact h2 h
theorem c16 {w0 w : World} {F : List (Nat × Obj)} (m : Market) (p : At3) (hm : MIn w0 F m p)  (hs : St w0 w F) :
  Con Try.prog 16 [.agg (m.cells p).toArray] w fun v w' => v = .tuple #[.int .i64 (check m).1, .int .i64 (check m).2.1, .int .i64 (check m).2.2] ∧ St w0 w' F := by
  refine con_of_wc (n := 39) Try.func16 rfl rfl (Nat.le_of_ble_eq_true rfl) ?_
  have hlr := hm.lr
  have hls := hm.ls
  have hlt := hm.lt
  refine w_seq (fun K2 hK1 => ?_)
  refine w_region ?_
  refine w_box (v := .agg #[.slice _ _ _, .slice _ _ _, .slice _ _ _]) (cs := [_, _, _]) want_none rfl rfl rfl hs (fun b3 w4 hs5 => ?_)
  refine w_pure want_none (y_assign (v := _) rfl rfl) rfl ?_
  refine w_pure want_none (y_assign (v := _) rfl rfl) rfl ?_
  refine w_pure want_none (y_assign (v := _) rfl rfl) rfl ?_
  refine w_nil ?_
  refine q_then (hK1 _ _ ?_)
  refine w_seq (fun K7 hK6 => ?_)
  refine w_region ?_
  refine w_alloc (cs := [_]) want_none Try.zeroValue73 rfl hs5 (fun b8 w9 hs10 => ?_)
  refine w_nil ?_
  refine q_then (hK6 _ _ ?_)
  refine w_seq (fun K12 hK11 => ?_)
  refine w_region ?_
  refine w_pure want_none (y_fieldAddr (o := 0) (i := 0) Try.underlying26 rfl Try.sizeOf22 rfl rfl rfl) rfl ?_
  refine w_pure want_none (y_load1 Try.isAgg22 hs10 rfl rfl (ats_own (i := 1) (vs := [_]) rfl rfl)) rfl ?_
  refine w_pure want_none (y_makeFunc (fv := []) (cv := [_]) rfl rfl rfl rfl) rfl ?_
  refine w_call want_none Try.call54 rfl rfl rfl rfl (c54 (F := ((b3, blk 26 (m.cells p)) :: F)) _ _ m.rooms hlr hm.r.cons 3 (.func (.func 55) #[] #[.pointer (some ⟨b8, 0, none⟩)]) roomE (NI b8 fun i => (m.rooms.take i).map (·.name)) [_] (NI0 _ rfl) (fun hle i hi X B w hI hs => nm_rooms m.rooms hm.nr (by omega) _ i hi X B w hI hs) hs10) ?_
  rintro _ w14 ⟨rfl, B1, h_B1, hs15⟩
  replace hs15 := (show St _ _ (B1 ++ (_ :: F)) from hs15)
  refine w_pure want_none (y_move (v := .tuple _) rfl rfl) rfl ?_
  refine w_pure want_none (y_extract (v := .int _ _) rfl rfl rfl) rfl ?_
  refine w_pure want_none (y_extract (v := .int _ _) rfl rfl rfl) rfl ?_
  refine w_pure want_none (y_assign (v := .int _ _) rfl rfl) rfl ?_
  refine w_pure want_none (y_assign (v := .int _ _) rfl rfl) rfl ?_
  refine w_nil ?_
  refine q_then (hK11 _ _ ?_)
  refine w_seq (fun K17 hK16 => ?_)
  refine w_seq (fun K19 hK18 => ?_)
  refine w_region ?_
  refine w_pure want_none (y_move (v := .int _ _) rfl rfl) rfl ?_
  refine w_pure want_none (y_neq rfl rfl rfl rfl) rfl ?_
  refine w_nil ?_
  refine q_then (hK18 _ _ ?_)
  refine w_cond rfl rfl (fun h20 => ?_) (fun h20 => ?_)
  ·
   try simp only [Bool.not_eq_true', Bool.not_eq_false', decide_eq_true_eq, decide_eq_false_iff_not, Int.not_lt, Int.not_le] at h20
   refine w_seq (fun K22 hK21 => ?_)
   refine w_region ?_
   refine w_pure want_none (y_move (v := .int _ _) rfl rfl) rfl ?_
   refine w_pure want_none (y_move (v := .int _ _) rfl rfl) rfl ?_
   refine w_pure want_none (y_assign (v := _) rfl rfl) rfl ?_
   refine w_pure want_none (y_assign (v := .int _ _) rfl rfl) rfl ?_
   refine w_pure want_none (y_assign (v := .int _ _) rfl rfl) rfl ?_
   refine w_nil ?_
   refine q_then (hK21 _ _ ?_)
   refine w_ret ?_
   refine q_then_ret ?_
   refine q_ret (l := [.tmp 2, .tmp 3, .tmp 4]) (vs := [_, _, _]) rfl ⟨⟨rfl, show _ = (.int _ _ : Value) from rfl⟩, ⟨rfl, show _ = (.int _ _ : Value) from rfl⟩, ⟨rfl, show _ = (.int _ _ : Value) from rfl⟩, trivial⟩ ?_
   refine ⟨tup3 ?_, hs15.drop.tail⟩; unfold check; simp [h20]
  ·
   try simp only [Bool.not_eq_true', Bool.not_eq_false', decide_eq_true_eq, decide_eq_false_iff_not, Int.not_lt, Int.not_le] at h20
   refine w_skip ?_
   refine q_then (hK16 _ _ ?_)
   refine w_seq (fun K24 hK23 => ?_)
   obtain ⟨v_B1, N_B1, rfl, _⟩ := h_B1 (by assumption)
   have hs25 := keep_front (Y := N_B1) (show St _ _ (_ :: (N_B1 ++ (_ :: F))) from hs15)
   refine w_region ?_
   refine w_store (i := 0) (v := .slice _ _ _) (vs := [_]) want_none Try.sizeOf73 rfl rfl rfl rfl rfl (by simp [Value.oneCell']) hs25 rfl (Nat.le_of_ble_eq_true rfl) (fun w26 hs27 => ?_)
   refine w_nil ?_
   refine q_then (hK23 _ _ ?_)
   refine w_seq (fun K29 hK28 => ?_)
   refine w_region ?_
   refine w_pure want_none (y_fieldAddr (o := 1) (i := 1) Try.underlying26 rfl Try.sizeOf23 rfl rfl rfl) rfl ?_
   refine w_pure want_none (y_load1 Try.isAgg23 hs27 rfl rfl (ats_own (i := 1) (vs := [_]) rfl rfl)) rfl ?_
   refine w_pure want_none (y_makeFunc (fv := []) (cv := [_]) rfl rfl rfl rfl) rfl ?_
   refine w_call want_none Try.call58 rfl rfl rfl rfl (c58 (F := ((b3, blk 26 (m.cells p)) :: F)) _ _ m.shops hls hm.s.cons 4 (.func (.func 59) #[] #[.pointer (some ⟨b8, 0, none⟩)]) shopE (NI b8 fun i => (m.shops.take i).map (·.name)) [_] (NI0 _ rfl) (fun hle i hi X B w hI hs => nm_shops m.shops hm.ns (by omega) _ i hi X B w hI hs) hs27) ?_
   rintro _ w31 ⟨rfl, B2, h_B2, hs32⟩
   replace hs32 := (show St _ _ (B2 ++ (_ :: F)) from hs32)
   refine w_pure want_none (y_move (v := .tuple _) rfl rfl) rfl ?_
   refine w_pure want_none (y_extract (v := .int _ _) rfl rfl rfl) rfl ?_
   refine w_pure want_none (y_extract (v := .int _ _) rfl rfl rfl) rfl ?_
   refine w_pure want_none (y_assign (v := .int _ _) rfl rfl) rfl ?_
   refine w_pure want_none (y_assign (v := .int _ _) rfl rfl) rfl ?_
   refine w_nil ?_
   refine q_then (hK28 _ _ ?_)
   refine w_seq (fun K34 hK33 => ?_)
   refine w_seq (fun K36 hK35 => ?_)
   refine w_region ?_
   refine w_pure want_none (y_move (v := .int _ _) rfl rfl) rfl ?_
   refine w_pure want_none (y_neq rfl rfl rfl rfl) rfl ?_
   refine w_nil ?_
   refine q_then (hK35 _ _ ?_)
   refine w_cond rfl rfl (fun h37 => ?_) (fun h37 => ?_)
   ·
    try simp only [Bool.not_eq_true', Bool.not_eq_false', decide_eq_true_eq, decide_eq_false_iff_not, Int.not_lt, Int.not_le] at h37
    refine w_seq (fun K39 hK38 => ?_)
    refine w_region ?_
    refine w_pure want_none (y_move (v := .int _ _) rfl rfl) rfl ?_
    refine w_pure want_none (y_move (v := .int _ _) rfl rfl) rfl ?_
    refine w_pure want_none (y_assign (v := _) rfl rfl) rfl ?_
    refine w_pure want_none (y_assign (v := .int _ _) rfl rfl) rfl ?_
    refine w_pure want_none (y_assign (v := .int _ _) rfl rfl) rfl ?_
    refine w_nil ?_
    refine q_then (hK38 _ _ ?_)
    refine w_ret ?_
    refine q_then_ret ?_
    refine q_ret (l := [.tmp 2, .tmp 3, .tmp 4]) (vs := [_, _, _]) rfl ⟨⟨rfl, show _ = (.int _ _ : Value) from rfl⟩, ⟨rfl, show _ = (.int _ _ : Value) from rfl⟩, ⟨rfl, show _ = (.int _ _ : Value) from rfl⟩, trivial⟩ ?_
    refine ⟨tup3 ?_, hs32.drop.tail⟩; unfold check; simp [h20, h37]
   ·
    try simp only [Bool.not_eq_true', Bool.not_eq_false', decide_eq_true_eq, decide_eq_false_iff_not, Int.not_lt, Int.not_le] at h37
    refine w_skip ?_
    refine q_then (hK33 _ _ ?_)
    refine w_seq (fun K41 hK40 => ?_)
    obtain ⟨v_B2, N_B2, rfl, _⟩ := h_B2 (by assumption)
    have hs42 := keep_front (Y := N_B2) (show St _ _ (_ :: (N_B2 ++ (_ :: F))) from hs32)
    refine w_region ?_
    refine w_pure want_none (y_fieldAddr (o := 2) (i := 2) Try.underlying26 rfl Try.sizeOf24 rfl rfl rfl) rfl ?_
    refine w_pure want_none (y_load1 Try.isAgg24 hs42 rfl rfl (ats_own (i := 1) (vs := [_]) rfl rfl)) rfl ?_
    refine w_pure want_none (y_makeFunc (fv := []) (cv := [_]) rfl rfl rfl rfl) rfl ?_
    refine w_call want_none Try.call60 rfl rfl rfl rfl (c60 (F := _ :: ((b3, blk 26 (m.cells p)) :: F)) _ _ m.trains hlt hm.t.cons.cons 6 (.func (.func 61) #[] #[.pointer (some ⟨b3, 0, none⟩)]) (trainE m) (fun _ B => B = []) [] rfl (fun _ i hi X B w hI hs => fcon_fn Try.call61 ((c61 (F := X ++ (B ++ _)) m p hm.cons.cons.app.app i m.trains[i] _ (Ats.mono (ats_own (i := 1) (vs := m.cells p) (L := _ :: ((b3, blk 26 (m.cells p)) :: F)) rfl rfl) fun _ h => h.drop.drop) _ hs).mono fun u w2 h => ⟨h.1, B, fun _ => hI, h.2⟩)) hs42) ?_
    rintro _ w44 ⟨rfl, B3, h_B3, hs45⟩
    replace hs45 := (show St _ _ (B3 ++ (_ :: _ :: F)) from hs45)
    refine w_pure want_none (y_move (v := .tuple _) rfl rfl) rfl ?_
    refine w_pure want_none (y_extract (v := .int _ _) rfl rfl rfl) rfl ?_
    refine w_pure want_none (y_extract (v := .int _ _) rfl rfl rfl) rfl ?_
    refine w_pure want_none (y_assign (v := .int _ _) rfl rfl) rfl ?_
    refine w_pure want_none (y_assign (v := .int _ _) rfl rfl) rfl ?_
    refine w_nil ?_
    refine q_then (hK40 _ _ ?_)
    refine w_seq (fun K47 hK46 => ?_)
    refine w_seq (fun K49 hK48 => ?_)
    refine w_region ?_
    refine w_pure want_none (y_move (v := .int _ _) rfl rfl) rfl ?_
    refine w_pure want_none (y_neq rfl rfl rfl rfl) rfl ?_
    refine w_nil ?_
    refine q_then (hK48 _ _ ?_)
    refine w_cond rfl rfl (fun h50 => ?_) (fun h50 => ?_)
    ·
     try simp only [Bool.not_eq_true', Bool.not_eq_false', decide_eq_true_eq, decide_eq_false_iff_not, Int.not_lt, Int.not_le] at h50
     refine w_seq (fun K52 hK51 => ?_)
     refine w_region ?_
     refine w_pure want_none (y_move (v := .int _ _) rfl rfl) rfl ?_
     refine w_pure want_none (y_move (v := .int _ _) rfl rfl) rfl ?_
     refine w_pure want_none (y_assign (v := _) rfl rfl) rfl ?_
     refine w_pure want_none (y_assign (v := .int _ _) rfl rfl) rfl ?_
     refine w_pure want_none (y_assign (v := .int _ _) rfl rfl) rfl ?_
     refine w_nil ?_
     refine q_then (hK51 _ _ ?_)
     refine w_ret ?_
     refine q_then_ret ?_
     refine q_ret (l := [.tmp 2, .tmp 3, .tmp 4]) (vs := [_, _, _]) rfl ⟨⟨rfl, show _ = (.int _ _ : Value) from rfl⟩, ⟨rfl, show _ = (.int _ _ : Value) from rfl⟩, ⟨rfl, show _ = (.int _ _ : Value) from rfl⟩, trivial⟩ ?_
     refine ⟨tup3 ?_, hs45.drop.tail.tail⟩; unfold check; simp [h20, h37, h50]
    ·
     try simp only [Bool.not_eq_true', Bool.not_eq_false', decide_eq_true_eq, decide_eq_false_iff_not, Int.not_lt, Int.not_le] at h50
     refine w_skip ?_
     refine q_then (hK46 _ _ ?_)
     refine w_seq (fun K54 hK53 => ?_)
     refine w_region ?_
     refine w_pure want_none (y_assign (v := _) rfl rfl) rfl ?_
     refine w_pure want_none (y_assign (v := _) rfl rfl) rfl ?_
     refine w_pure want_none (y_assign (v := _) rfl rfl) rfl ?_
     refine w_nil ?_
     refine q_then (hK53 _ _ ?_)
     refine w_ret ?_
     refine q_ret (l := [.tmp 2, .tmp 3, .tmp 4]) (vs := [_, _, _]) rfl ⟨⟨rfl, show _ = (.int _ _ : Value) from rfl⟩, ⟨rfl, show _ = (.int _ _ : Value) from rfl⟩, ⟨rfl, show _ = (.int _ _ : Value) from rfl⟩, trivial⟩ ?_
     refine ⟨tup3 ?_, hs45.drop.tail.tail⟩; unfold check; simp [h20, h37, h50]

end Go.Proofs
/- The shop layer's arguments, opened; what a law that holds leaves behind. No conditions. -/
set_option maxRecDepth 100000
set_option linter.unusedSimpArgs false
set_option linter.unusedVariables false
namespace Go.Proofs.Ytbnnmjfjibneaaa
open Go.Rt Go.Rt.Sh Go.RowKit Go.ChangeShapes Go.WideShapes Go.ChangeAt
instance : Inhabited Room := ⟨⟨ByteArray.empty, 0, 0, 0, 0⟩⟩
instance : Inhabited Shop := ⟨⟨ByteArray.empty, 0, 0⟩⟩
instance : Inhabited Train := ⟨⟨0, 0, 0, 0⟩⟩
theorem Try.own : ownKnob Try.prog.godebug = none := by kernel_rfl
theorem Try.laidOut : laidOutB Try.prog = true := by kernel_rfl
theorem cells69 : Try.prog.cellsOf 69 = 5 := by kernel_rfl
theorem cells52 : Try.prog.cellsOf 52 = 3 := by kernel_rfl
theorem cells63 : Try.prog.cellsOf 63 = 4 := by kernel_rfl
theorem cells67 : Try.prog.cellsOf 67 = 2 := by kernel_rfl
theorem cells26 : Try.prog.cellsOf 26 = 3 := by kernel_rfl
theorem cells22 : Try.prog.cellsOf 22 = 1 := by kernel_rfl
theorem cells23 : Try.prog.cellsOf 23 = 1 := by kernel_rfl
theorem cells24 : Try.prog.cellsOf 24 = 1 := by kernel_rfl
theorem cells3 : Try.prog.cellsOf 3 = 1 := by kernel_rfl
theorem cells9 : Try.prog.cellsOf 9 = 1 := by kernel_rfl
variable {H : Type} {enc : TypeId × Value → H} {W : World} {sp : Nat → Bool} {held : Bool}
theorem open_span {fuel : Nat} {cs : List Value} {x : DataW H × List MemPlace} (h : DataW.trod enc Try.prog W 0 sp held fuel 67 cs = some x) : ∃ a b : Int, cs = [.int .i64 a, .int .i64 b] := by
  have hl := trod_len Try.underlying67 h
  rw [cells67] at hl
  obtain ⟨n, y, h0⟩ := trod_field Try.underlying67 h 0 3 0 1 rfl rfl rfl cells3
  obtain ⟨n1, y1, h1⟩ := trod_field Try.underlying67 h 1 3 1 1 rfl rfl rfl cells3
  match cs, hl with
  | [c0, c1], _ =>
    obtain ⟨a, e0⟩ := trod_i64 Try.underlying3 h0
    obtain ⟨b, e1⟩ := trod_i64 Try.underlying3 h1
    simp at e0 e1
    exact ⟨a, b, by rw [e0, e1]⟩
theorem open_room (fuel : Nat) (cs : List Value) (y : DataW H × List MemPlace) (h : DataW.trod enc Try.prog W 0 sp held fuel 69 cs = some y) : ∃ f : Room, cs = f.cells ∧ f.name.size ≤ 9223372036854775807 := by
  have hl := trod_len Try.underlying69 h
  rw [cells69] at hl
  obtain ⟨_, _, h0⟩ := trod_field Try.underlying69 h 0 9 0 1 rfl rfl rfl cells9
  obtain ⟨_, _, h1⟩ := trod_field Try.underlying69 h 1 67 1 2 rfl rfl rfl cells67
  obtain ⟨_, _, h2⟩ := trod_field Try.underlying69 h 2 3 3 1 rfl rfl rfl cells3
  obtain ⟨_, _, h3⟩ := trod_field Try.underlying69 h 3 3 4 1 rfl rfl rfl cells3
  match cs, hl with
  | [c0, c1, c2, c3, c4], _ =>
    obtain ⟨s, e0, _, hs⟩ := DataW.trod_string Try.underlying9 h0
    obtain ⟨x1, x2, e1⟩ := open_span h1
    obtain ⟨x3, e3⟩ := trod_i64 Try.underlying3 h2
    obtain ⟨x4, e4⟩ := trod_i64 Try.underlying3 h3
    simp at e0 e1 e3 e4
    exact ⟨⟨s, x1, x2, x3, x4⟩, by rw [e0, e1.1, e1.2, e3, e4]; rfl, by simpa [maxLen] using hs⟩
theorem open_shop (fuel : Nat) (cs : List Value) (y : DataW H × List MemPlace) (h : DataW.trod enc Try.prog W 0 sp held fuel 52 cs = some y) : ∃ f : Shop, cs = f.cells ∧ f.name.size ≤ 9223372036854775807 := by
  have hl := trod_len Try.underlying52 h
  rw [cells52] at hl
  obtain ⟨_, _, h0⟩ := trod_field Try.underlying52 h 0 9 0 1 rfl rfl rfl cells9
  obtain ⟨_, _, h1⟩ := trod_field Try.underlying52 h 1 3 1 1 rfl rfl rfl cells3
  obtain ⟨_, _, h2⟩ := trod_field Try.underlying52 h 2 3 2 1 rfl rfl rfl cells3
  match cs, hl with
  | [c0, c1, c2], _ =>
    obtain ⟨s, e0, _, hs⟩ := DataW.trod_string Try.underlying9 h0
    obtain ⟨x1, e1⟩ := trod_i64 Try.underlying3 h1
    obtain ⟨x2, e2⟩ := trod_i64 Try.underlying3 h2
    simp at e0 e1 e2
    exact ⟨⟨s, x1, x2⟩, by rw [e0, e1, e2]; rfl, by simpa [maxLen] using hs⟩
theorem open_train (fuel : Nat) (cs : List Value) (y : DataW H × List MemPlace) (h : DataW.trod enc Try.prog W 0 sp held fuel 63 cs = some y) : ∃ f : Train, cs = f.cells ∧ True := by
  have hl := trod_len Try.underlying63 h
  rw [cells63] at hl
  obtain ⟨_, _, h0⟩ := trod_field Try.underlying63 h 0 3 0 1 rfl rfl rfl cells3
  obtain ⟨_, _, h1⟩ := trod_field Try.underlying63 h 1 3 1 1 rfl rfl rfl cells3
  obtain ⟨_, _, h2⟩ := trod_field Try.underlying63 h 2 3 2 1 rfl rfl rfl cells3
  obtain ⟨_, _, h3⟩ := trod_field Try.underlying63 h 3 3 3 1 rfl rfl rfl cells3
  match cs, hl with
  | [c0, c1, c2, c3], _ =>
    obtain ⟨x0, e0⟩ := trod_i64 Try.underlying3 h0
    obtain ⟨x1, e1⟩ := trod_i64 Try.underlying3 h1
    obtain ⟨x2, e2⟩ := trod_i64 Try.underlying3 h2
    obtain ⟨x3, e3⟩ := trod_i64 Try.underlying3 h3
    simp at e0 e1 e2 e3
    exact ⟨⟨x0, x1, x2, x3⟩, by rw [e0, e1, e2, e3]; rfl, trivial⟩
theorem open_market {v : Value} {d : DataW H} {ps : List MemPlace} {r : Reach} {b0 : Nat} (hval : Value.okWide Try.prog W r b0 26 v) (h : DataW.Trod enc Try.prog W 0 sp held 26 v d ps) :
    ∃ (m : Market) (p : At3), v = .agg (m.cells p).toArray ∧ MIn W [] m p := by
  obtain ⟨xs, rfl, hsz⟩ : ∃ xs, v = .agg xs ∧ xs.size = 3 := by
    unfold Value.okWide at hval
    rw [Try.underlying26] at hval
    obtain ⟨cs, h1, h2, _⟩ := hval
    exact ⟨cs, h1, by rw [h2, cells26]⟩
  obtain ⟨fuel, hf⟩ := h
  have hf2 : DataW.trod enc Try.prog W 0 sp held fuel 26 xs.toList = some (d, ps) := hf
  obtain ⟨_, _, h0⟩ := trod_field Try.underlying26 hf2 0 22 0 1 rfl rfl rfl cells22
  obtain ⟨_, _, h1⟩ := trod_field Try.underlying26 hf2 1 23 1 1 rfl rfl rfl cells23
  obtain ⟨_, _, h2⟩ := trod_field Try.underlying26 hf2 2 24 2 1 rfl rfl rfl cells24
  obtain ⟨xl, rfl⟩ : ∃ l : List Value, xs = l.toArray := ⟨xs.toList, by simp⟩
  have hl3 : xl.length = 3 := by simpa using hsz
  match xl, hl3 with
  | [c0, c1, c2], _ =>
    obtain ⟨a, ca, la, e0, hsa, hca, hma, hna⟩ := open_rows (row := Room.cells) (ok := fun f => f.name.size ≤ 9223372036854775807) Try.underlying22 cells69 (by omega) (fun _ => rfl) open_room h0
    obtain ⟨b, cb, lb, e1, hsb, hcb, hmb, hnb⟩ := open_rows (row := Shop.cells) (ok := fun f => f.name.size ≤ 9223372036854775807) Try.underlying23 cells52 (by omega) (fun _ => rfl) open_shop h1
    obtain ⟨c, cc, lc, e2, hsc, hcc, hmc, hnc⟩ := open_rows (row := Train.cells) (ok := fun f => True) Try.underlying24 cells63 (by omega) (fun _ => rfl) open_train h2
    simp at e0 e1 e2
    exact ⟨⟨la, lb, lc⟩, ⟨a, ca, b, cb, c, cc⟩, by rw [e0, e1, e2]; rfl, ⟨hsa, hsb, hsc, hma, hmb, hmc, hca, hcb, hcc, hna, hnb⟩⟩
theorem cell_int (fuel : Nat) (cs : List Value) (y : DataW H × List MemPlace) (h : DataW.trod enc Try.prog W 0 sp held fuel 3 cs = some y) : ∃ f : Int, cs = [Value.int .i64 f] ∧ True := by
  obtain ⟨n, h⟩ := trod_i64 Try.underlying3 h
  exact ⟨n, h, trivial⟩
theorem open_list {v : Value} {d : DataW H} {ps : List MemPlace} {r : Reach} {b0 : Nat} (hval : Value.okWide Try.prog W r b0 30 v) (h : DataW.Trod enc Try.prog W 0 sp held 30 v d ps) :
    ∃ (a : Option Addr) (c : Nat) (l : List Int), v = .slice a l.length c ∧ Sl W [] a 1 (l.map fun x => [Value.int .i64 x]) ∧ l.length ≤ 9223372036854775807 := by
  obtain ⟨a0, len, cap, rfl⟩ := okWide_slice Try.underlying30 hval
  obtain ⟨fuel, hf⟩ := h
  obtain ⟨a, c, l, e, hsl, _, hm, _⟩ := open_rows (row := fun x : Int => [Value.int .i64 x]) (ok := fun _ => True) Try.underlying30 cells3 (by omega) (fun _ => rfl) cell_int hf
  have e2 : ([Value.slice a0 len cap] : List Value) = [.slice a l.length c] := e
  exact ⟨a, c, l, (List.cons.inj e2).1, hsl, hm⟩
theorem i64_wf {n : Int} (h : (Lit.int .i64 n).wf = true) : -9223372036854775808 ≤ n ∧ n ≤ 9223372036854775807 := by
  simp only [Lit.wf, Bool.and_eq_true, decide_eq_true_eq] at h
  exact h
theorem u8_wf {n : Int} (h : (Lit.int .u8 n).wf = true) : 0 ≤ n ∧ n ≤ 255 := by
  simp only [Lit.wf, Bool.and_eq_true, decide_eq_true_eq] at h
  exact h
theorem open_i64 {v : Value} {d : DataW H} {ps : List MemPlace} {r : Reach} {b0 : Nat} (hval : Value.okWide Try.prog W r b0 3 v) (h : DataW.Trod enc Try.prog W 0 sp held 3 v d ps) : ∃ z : Int, v = .int .i64 z ∧ -9223372036854775808 ≤ z ∧ z ≤ 9223372036854775807 := by
  obtain ⟨z, rfl⟩ := okWide_int Try.underlying3 hval
  obtain ⟨fuel, hf⟩ := h
  obtain ⟨n, e, _, hw⟩ := DataW.trod_int Try.underlying3 hf
  have e2 : ([Value.int .i64 z] : List Value) = [.int .i64 n] := e
  cases e2
  exact ⟨z, rfl, i64_wf hw⟩
end Go.Proofs.Ytbnnmjfjibneaaa
/- Arguments of flat types, opened. No conditions. -/
set_option maxRecDepth 100000
set_option linter.unusedSimpArgs false
set_option linter.unusedVariables false
namespace Go.Proofs.Ytbnnmjfjibneaaa
open Go.Rt Go.RowKit Go.ChangeShapes Go.WideShapes Go.ChangeAt
variable {H : Type} {enc : TypeId × Value → H} {W : World} {sp : Nat → Bool} {held : Bool}
theorem cel5 {fuel : Nat} {cs : List Value} {y : DataW H × List MemPlace} (h : DataW.trod enc Try.prog W 0 sp held fuel 5 cs = some y) : ∃ (x0 : Int), cs = [.int .u8 x0] ∧ (0 ≤ x0 ∧ x0 ≤ 255) := by
  obtain ⟨n, e, _, hw⟩ := DataW.trod_int Try.underlying5 h
  exact ⟨n, e, u8_wf hw⟩
theorem opn5 {v : Value} {d : DataW H} {ps : List MemPlace} {r : Reach} {b0 : Nat} (hval : Value.okWide Try.prog W r b0 5 v) (h : DataW.Trod enc Try.prog W 0 sp held 5 v d ps) : ∃ x0 : Int, v = .int .u8 x0 ∧ (0 ≤ x0 ∧ x0 ≤ 255) := by
  obtain ⟨z, rfl⟩ := okWide_int Try.underlying5 hval
  obtain ⟨fuel, hf⟩ := h
  obtain ⟨n, e, hr⟩ := cel5 hf
  have e2 : ([Value.int .u8 z] : List Value) = [.int .u8 n] := e
  cases e2
  exact ⟨z, rfl, hr⟩
theorem cel3 {fuel : Nat} {cs : List Value} {y : DataW H × List MemPlace} (h : DataW.trod enc Try.prog W 0 sp held fuel 3 cs = some y) : ∃ (x0 : Int), cs = [.int .i64 x0] ∧ (-9223372036854775808 ≤ x0 ∧ x0 ≤ 9223372036854775807) := by
  obtain ⟨n, e, _, hw⟩ := DataW.trod_int Try.underlying3 h
  exact ⟨n, e, i64_wf hw⟩
theorem cells41 : Try.prog.cellsOf 41 = 2 := by kernel_rfl
theorem cel41 {fuel : Nat} {cs : List Value} {y : DataW H × List MemPlace} (h : DataW.trod enc Try.prog W 0 sp held fuel 41 cs = some y) : ∃ (x0 : Int) (x1 : Int), cs = [.int .i64 x0, .int .i64 x1] ∧ (-9223372036854775808 ≤ x0 ∧ x0 ≤ 9223372036854775807) ∧ (-9223372036854775808 ≤ x1 ∧ x1 ≤ 9223372036854775807) := by
  obtain ⟨ys, m, _, _, hl, hll, he⟩ := DataW.trod_array Try.underlying41 h
  rw [cells41] at hl
  rw [cells3] at he
  have h0 := he 0 (by omega)
  rw [List.getElem?_eq_getElem (by omega)] at h0
  have h1 := he 1 (by omega)
  rw [List.getElem?_eq_getElem (by omega)] at h1
  match cs, hl with
  | [c0, c1], _ =>
    obtain ⟨x0, e0, f0_0⟩ := cel3 h0
    obtain ⟨x1, e1, f1_0⟩ := cel3 h1
    simp at e0 e1
    exact ⟨x0, x1, by simp [e0, e1], f0_0, f1_0⟩
theorem opn41 {v : Value} {d : DataW H} {ps : List MemPlace} {r : Reach} {b0 : Nat} (hval : Value.okWide Try.prog W r b0 41 v) (h : DataW.Trod enc Try.prog W 0 sp held 41 v d ps) : ∃ (x0 : Int) (x1 : Int), v = .agg #[.int .i64 x0, .int .i64 x1] ∧ (-9223372036854775808 ≤ x0 ∧ x0 ≤ 9223372036854775807) ∧ (-9223372036854775808 ≤ x1 ∧ x1 ≤ 9223372036854775807) := by
  obtain ⟨xs, rfl, hsz⟩ : ∃ xs, v = .agg xs ∧ xs.size = 2 := by
    unfold Value.okWide at hval
    rw [Try.underlying41] at hval
    obtain ⟨cs, h1, h2, _⟩ := hval
    exact ⟨cs, h1, by rw [h2, cells41]⟩
  obtain ⟨fuel, hf⟩ := h
  have hf2 : DataW.trod enc Try.prog W 0 sp held fuel 41 xs.toList = some (d, ps) := hf
  obtain ⟨xl, rfl⟩ : ∃ l : List Value, xs = l.toArray := ⟨xs.toList, by simp⟩
  obtain ⟨x0, x1, e, hr⟩ := cel41 hf2
  exact ⟨x0, x1, by rw [show xl = _ from e], hr⟩
theorem cells5 : Try.prog.cellsOf 5 = 1 := by kernel_rfl
theorem opn45 {v : Value} {d : DataW H} {ps : List MemPlace} {r : Reach} {b0 : Nat} (hval : Value.okWide Try.prog W r b0 45 v) (h : DataW.Trod enc Try.prog W 0 sp held 45 v d ps) : ∃ (a : Option Addr) (c : Nat) (l : List Int), v = .slice a l.length c ∧ l.length ≤ 9223372036854775807 ∧ Sl W [] a 1 (l.map fun x => [Value.int .u8 x]) ∧ (∀ x ∈ l, (0 ≤ x ∧ x ≤ 255)) ∧ l.length ≤ c := by
  obtain ⟨a0, len, cap, rfl⟩ := okWide_slice Try.underlying45 hval
  obtain ⟨fuel, hf⟩ := h
  obtain ⟨a, c, l, e, hsl, hc, hm, hr⟩ := open_rows (row := fun x : Int => [Value.int .u8 x]) (ok := fun x => (0 ≤ x ∧ x ≤ 255)) Try.underlying45 cells5 (by omega) (fun _ => rfl) (fun fuel cs y h => cel5 h) hf
  have e2 : ([Value.slice a0 len cap] : List Value) = [.slice a l.length c] := e
  exact ⟨a, c, l, (List.cons.inj e2).1, hm, hsl, hr, hc⟩
theorem cells57 : Try.prog.cellsOf 57 = 2 := by kernel_rfl
theorem cel57 {fuel : Nat} {cs : List Value} {y : DataW H × List MemPlace} (h : DataW.trod enc Try.prog W 0 sp held fuel 57 cs = some y) : ∃ (x0 : Int) (x1 : Int), cs = [.int .u8 x0, .int .u8 x1] ∧ (0 ≤ x0 ∧ x0 ≤ 255) ∧ (0 ≤ x1 ∧ x1 ≤ 255) := by
  obtain ⟨ys, m, _, _, hl, hll, he⟩ := DataW.trod_array Try.underlying57 h
  rw [cells57] at hl
  rw [cells5] at he
  have h0 := he 0 (by omega)
  rw [List.getElem?_eq_getElem (by omega)] at h0
  have h1 := he 1 (by omega)
  rw [List.getElem?_eq_getElem (by omega)] at h1
  match cs, hl with
  | [c0, c1], _ =>
    obtain ⟨x0, e0, f0_0⟩ := cel5 h0
    obtain ⟨x1, e1, f1_0⟩ := cel5 h1
    simp at e0 e1
    exact ⟨x0, x1, by simp [e0, e1], f0_0, f1_0⟩
theorem opn57 {v : Value} {d : DataW H} {ps : List MemPlace} {r : Reach} {b0 : Nat} (hval : Value.okWide Try.prog W r b0 57 v) (h : DataW.Trod enc Try.prog W 0 sp held 57 v d ps) : ∃ (x0 : Int) (x1 : Int), v = .agg #[.int .u8 x0, .int .u8 x1] ∧ (0 ≤ x0 ∧ x0 ≤ 255) ∧ (0 ≤ x1 ∧ x1 ≤ 255) := by
  obtain ⟨xs, rfl, hsz⟩ : ∃ xs, v = .agg xs ∧ xs.size = 2 := by
    unfold Value.okWide at hval
    rw [Try.underlying57] at hval
    obtain ⟨cs, h1, h2, _⟩ := hval
    exact ⟨cs, h1, by rw [h2, cells57]⟩
  obtain ⟨fuel, hf⟩ := h
  have hf2 : DataW.trod enc Try.prog W 0 sp held fuel 57 xs.toList = some (d, ps) := hf
  obtain ⟨xl, rfl⟩ : ∃ l : List Value, xs = l.toArray := ⟨xs.toList, by simp⟩
  obtain ⟨x0, x1, e, hr⟩ := cel57 hf2
  exact ⟨x0, x1, by rw [show xl = _ from e], hr⟩
theorem cel63 {fuel : Nat} {cs : List Value} {y : DataW H × List MemPlace} (h : DataW.trod enc Try.prog W 0 sp held fuel 63 cs = some y) : ∃ (x0 : Int) (x1 : Int) (x2 : Int) (x3 : Int), cs = [.int .i64 x0, .int .i64 x1, .int .i64 x2, .int .i64 x3] ∧ (-9223372036854775808 ≤ x0 ∧ x0 ≤ 9223372036854775807) ∧ (-9223372036854775808 ≤ x1 ∧ x1 ≤ 9223372036854775807) ∧ (-9223372036854775808 ≤ x2 ∧ x2 ≤ 9223372036854775807) ∧ (-9223372036854775808 ≤ x3 ∧ x3 ≤ 9223372036854775807) := by
  have hl := trod_len Try.underlying63 h
  rw [cells63] at hl
  obtain ⟨_, _, h0⟩ := trod_field Try.underlying63 h 0 3 0 1 rfl rfl rfl cells3
  obtain ⟨_, _, h1⟩ := trod_field Try.underlying63 h 1 3 1 1 rfl rfl rfl cells3
  obtain ⟨_, _, h2⟩ := trod_field Try.underlying63 h 2 3 2 1 rfl rfl rfl cells3
  obtain ⟨_, _, h3⟩ := trod_field Try.underlying63 h 3 3 3 1 rfl rfl rfl cells3
  match cs, hl with
  | [c0, c1, c2, c3], _ =>
    obtain ⟨x0, e0, f0_0⟩ := cel3 h0
    obtain ⟨x1, e1, f1_0⟩ := cel3 h1
    obtain ⟨x2, e2, f2_0⟩ := cel3 h2
    obtain ⟨x3, e3, f3_0⟩ := cel3 h3
    simp at e0 e1 e2 e3
    exact ⟨x0, x1, x2, x3, by simp [e0, e1, e2, e3], f0_0, f1_0, f2_0, f3_0⟩
theorem cells65 : Try.prog.cellsOf 65 = 11 := by kernel_rfl
theorem cel65 {fuel : Nat} {cs : List Value} {y : DataW H × List MemPlace} (h : DataW.trod enc Try.prog W 0 sp held fuel 65 cs = some y) : ∃ (x0 : Int) (x1 : Int) (x2 : Int) (x3 : Int) (x4 : Int) (x5 : Int) (x6 : Int) (x7 : Int) (x8 : Int) (x9 : Int) (x10 : Int), cs = [.int .i64 x0, .int .i64 x1, .int .i64 x2, .int .i64 x3, .int .u8 x4, .int .u8 x5, .int .u8 x6, .int .u8 x7, .int .u8 x8, .int .u8 x9, .int .u8 x10] ∧ (-9223372036854775808 ≤ x0 ∧ x0 ≤ 9223372036854775807) ∧ (-9223372036854775808 ≤ x1 ∧ x1 ≤ 9223372036854775807) ∧ (-9223372036854775808 ≤ x2 ∧ x2 ≤ 9223372036854775807) ∧ (-9223372036854775808 ≤ x3 ∧ x3 ≤ 9223372036854775807) ∧ (0 ≤ x4 ∧ x4 ≤ 255) ∧ (0 ≤ x5 ∧ x5 ≤ 255) ∧ (0 ≤ x6 ∧ x6 ≤ 255) ∧ (0 ≤ x7 ∧ x7 ≤ 255) ∧ (0 ≤ x8 ∧ x8 ≤ 255) ∧ (0 ≤ x9 ∧ x9 ≤ 255) ∧ (0 ≤ x10 ∧ x10 ≤ 255) := by
  have hl := trod_len Try.underlying65 h
  rw [cells65] at hl
  obtain ⟨_, _, h0⟩ := trod_field Try.underlying65 h 0 63 0 4 rfl rfl rfl cells63
  obtain ⟨_, _, h1⟩ := trod_field Try.underlying65 h 1 5 4 1 rfl rfl rfl cells5
  obtain ⟨_, _, h2⟩ := trod_field Try.underlying65 h 2 5 5 1 rfl rfl rfl cells5
  obtain ⟨_, _, h3⟩ := trod_field Try.underlying65 h 3 5 6 1 rfl rfl rfl cells5
  obtain ⟨_, _, h4⟩ := trod_field Try.underlying65 h 4 5 7 1 rfl rfl rfl cells5
  obtain ⟨_, _, h5⟩ := trod_field Try.underlying65 h 5 5 8 1 rfl rfl rfl cells5
  obtain ⟨_, _, h6⟩ := trod_field Try.underlying65 h 6 5 9 1 rfl rfl rfl cells5
  obtain ⟨_, _, h7⟩ := trod_field Try.underlying65 h 7 5 10 1 rfl rfl rfl cells5
  match cs, hl with
  | [c0, c1, c2, c3, c4, c5, c6, c7, c8, c9, c10], _ =>
    obtain ⟨x0, x1, x2, x3, e0, f0_0, f0_1, f0_2, f0_3⟩ := cel63 h0
    obtain ⟨x4, e1, f1_0⟩ := cel5 h1
    obtain ⟨x5, e2, f2_0⟩ := cel5 h2
    obtain ⟨x6, e3, f3_0⟩ := cel5 h3
    obtain ⟨x7, e4, f4_0⟩ := cel5 h4
    obtain ⟨x8, e5, f5_0⟩ := cel5 h5
    obtain ⟨x9, e6, f6_0⟩ := cel5 h6
    obtain ⟨x10, e7, f7_0⟩ := cel5 h7
    simp at e0 e1 e2 e3 e4 e5 e6 e7
    exact ⟨x0, x1, x2, x3, x4, x5, x6, x7, x8, x9, x10, by simp [e0, e1, e2, e3, e4, e5, e6, e7], f0_0, f0_1, f0_2, f0_3, f1_0, f2_0, f3_0, f4_0, f5_0, f6_0, f7_0⟩
theorem opn65 {v : Value} {d : DataW H} {ps : List MemPlace} {r : Reach} {b0 : Nat} (hval : Value.okWide Try.prog W r b0 65 v) (h : DataW.Trod enc Try.prog W 0 sp held 65 v d ps) : ∃ (x0 : Int) (x1 : Int) (x2 : Int) (x3 : Int) (x4 : Int) (x5 : Int) (x6 : Int) (x7 : Int) (x8 : Int) (x9 : Int) (x10 : Int), v = .agg #[.int .i64 x0, .int .i64 x1, .int .i64 x2, .int .i64 x3, .int .u8 x4, .int .u8 x5, .int .u8 x6, .int .u8 x7, .int .u8 x8, .int .u8 x9, .int .u8 x10] ∧ (-9223372036854775808 ≤ x0 ∧ x0 ≤ 9223372036854775807) ∧ (-9223372036854775808 ≤ x1 ∧ x1 ≤ 9223372036854775807) ∧ (-9223372036854775808 ≤ x2 ∧ x2 ≤ 9223372036854775807) ∧ (-9223372036854775808 ≤ x3 ∧ x3 ≤ 9223372036854775807) ∧ (0 ≤ x4 ∧ x4 ≤ 255) ∧ (0 ≤ x5 ∧ x5 ≤ 255) ∧ (0 ≤ x6 ∧ x6 ≤ 255) ∧ (0 ≤ x7 ∧ x7 ≤ 255) ∧ (0 ≤ x8 ∧ x8 ≤ 255) ∧ (0 ≤ x9 ∧ x9 ≤ 255) ∧ (0 ≤ x10 ∧ x10 ≤ 255) := by
  obtain ⟨xs, rfl, hsz⟩ : ∃ xs, v = .agg xs ∧ xs.size = 11 := by
    unfold Value.okWide at hval
    rw [Try.underlying65] at hval
    obtain ⟨cs, h1, h2, _⟩ := hval
    exact ⟨cs, h1, by rw [h2, cells65]⟩
  obtain ⟨fuel, hf⟩ := h
  have hf2 : DataW.trod enc Try.prog W 0 sp held fuel 65 xs.toList = some (d, ps) := hf
  obtain ⟨xl, rfl⟩ : ∃ l : List Value, xs = l.toArray := ⟨xs.toList, by simp⟩
  obtain ⟨x0, x1, x2, x3, x4, x5, x6, x7, x8, x9, x10, e, hr⟩ := cel65 hf2
  exact ⟨x0, x1, x2, x3, x4, x5, x6, x7, x8, x9, x10, by rw [show xl = _ from e], hr⟩
end Go.Proofs.Ytbnnmjfjibneaaa
/- A market's nil lists have no room. No conditions. -/
set_option maxRecDepth 100000
set_option linter.unusedSimpArgs false
set_option linter.unusedVariables false
namespace Go.Proofs.Ytbnnmjfjibneaaa
open Go.Rt Go.Rt.Sh Go.RowKit Go.ChangeShapes Go.WideShapes Go.ChangeAt
variable {H : Type} {enc : TypeId × Value → H} {W : World} {sp : Nat → Bool} {held : Bool}
theorem slice_nil {fuel : Nat} {t el : TypeId} {a : Option Addr} {n c : Nat} {y : DataW H × List MemPlace} (ht : Try.prog.underlying t = some (.slice el)) (h : DataW.trod enc Try.prog W 0 sp held fuel t [.slice a n c] = some y) : a = none → c = 0 := by
  rcases DataW.trod_slice ht h with ⟨hcs, _⟩ | ⟨a', len, cap, elems, rest, m, _, hcs, _⟩
  · have e : Value.slice a n c = .slice none 0 0 := (List.cons.inj hcs).1
    injection e with e1 e2 e3
    exact fun _ => e3
  · have e : Value.slice a n c = .slice (some a') len cap := (List.cons.inj hcs).1
    injection e with e1 e2 e3
    exact fun h => (by rw [h] at e1; cases e1)
theorem market_nil {m : Market} {p : At3} {d : DataW H} {ps : List MemPlace} (h : DataW.Trod enc Try.prog W 0 sp held 26 (.agg (m.cells p).toArray) d ps) : (p.ar = none → p.cr = 0) ∧ (p.az = none → p.cs = 0) ∧ (p.at_ = none → p.ct = 0) := by
  obtain ⟨fuel, hf⟩ := h
  have hf2 : DataW.trod enc Try.prog W 0 sp held fuel 26 (m.cells p) = some (d, ps) := hf
  obtain ⟨_, _, h0⟩ := trod_field Try.underlying26 hf2 0 22 0 1 rfl rfl rfl cells22
  obtain ⟨_, _, h1⟩ := trod_field Try.underlying26 hf2 1 23 1 1 rfl rfl rfl cells23
  obtain ⟨_, _, h2⟩ := trod_field Try.underlying26 hf2 2 24 2 1 rfl rfl rfl cells24
  exact ⟨slice_nil Try.underlying22 h0, slice_nil Try.underlying23 h1, slice_nil Try.underlying24 h2⟩
end Go.Proofs.Ytbnnmjfjibneaaa
/- The walking engine, part 10: bits of numbers, numbers within arrays of a struct, maps by structs of numbers. No conditions. -/
set_option linter.unusedSimpArgs false
set_option linter.unusedVariables false
namespace Go.Rt
open Go.RowKit
section
variable {r : Option Nat} {P : Program} {ops : Array Oper} {Q : Exit → Act → World → Prop} {rest : List Oper} {n : Nat} {ρ : Nat → Value} {ds : List Deferred} {d : Option Tmp} {ty : TypeId} {p : String} {e : Array Edge} {g : Option (Nat × Bool)} {w w0 : World} {L : List (Nat × Obj)}
/-! ### Bits -/
theorem ofI (a : Nat) (ha : a < 9223372036854775808) : (BitVec.ofInt 64 (a : Int)).toNat = a := by
  rw [BitVec.ofInt_natCast, BitVec.toNat_ofNat]; exact Nat.mod_eq_of_lt (by omega)
theorem y_and {t t2 : TypeId} {u v : Operand} {a b : Int} {x y : Nat} (ho : okO n u = true) (ho1 : okO n v = true) (hx : ev ρ u = .int .i64 a) (hy : ev ρ v = .int .i64 b) (ha : a = (x : Int)) (hb : b = (y : Int)) (h1 : x < 9223372036854775808) (h2 : y < 9223372036854775808) :
    Yd P (A n ρ ds) ⟨d, .binOp .and t u v t2, ty, p, e, g⟩ w (.int .i64 ((x &&& y : Nat) : Int)) := by
  subst ha hb
  refine y_bin ho ho1 hx hy fun w => ?_
  have hle : x &&& y < 2 ^ 63 := Nat.and_lt_two_pow _ (by omega)
  have : Go.bits .and .i64 (x : Int) (y : Int) = ((x &&& y : Nat) : Int) := by
    show IntKind.i64.wrap ((BitVec.ofInt 64 (x : Int) &&& BitVec.ofInt 64 (y : Int)).toNat : Int) = _
    rw [BitVec.toNat_and, ofI x h1, ofI y h2, wrap_in (by omega) (by omega)]
  rw [binOp_and, intBits_and, this]; rfl
theorem y_or {t t2 : TypeId} {u v : Operand} {a b : Int} {x y : Nat} (ho : okO n u = true) (ho1 : okO n v = true) (hx : ev ρ u = .int .i64 a) (hy : ev ρ v = .int .i64 b) (ha : a = (x : Int)) (hb : b = (y : Int)) (h1 : x < 9223372036854775808) (h2 : y < 9223372036854775808) :
    Yd P (A n ρ ds) ⟨d, .binOp .or t u v t2, ty, p, e, g⟩ w (.int .i64 ((x ||| y : Nat) : Int)) := by
  subst ha hb
  refine y_bin ho ho1 hx hy fun w => ?_
  have hle : x ||| y < 2 ^ 63 := Nat.or_lt_two_pow (by omega) (by omega)
  have : Go.bits .or .i64 (x : Int) (y : Int) = ((x ||| y : Nat) : Int) := by
    show IntKind.i64.wrap ((BitVec.ofInt 64 (x : Int) ||| BitVec.ofInt 64 (y : Int)).toNat : Int) = _
    rw [BitVec.toNat_or, ofI x h1, ofI y h2, wrap_in (by omega) (by omega)]
  rw [binOp_or, intBits_or, this]; rfl
/-- What is in x and not in y, of small numbers. -/
def bitDiff (x y : Nat) : Nat := (BitVec.ofNat 64 x &&& ~~~(BitVec.ofNat 64 y)).toNat
theorem bitDiff_le (x y : Nat) (h : x < 9223372036854775808) : bitDiff x y ≤ x := by
  unfold bitDiff
  rw [BitVec.toNat_and, BitVec.toNat_ofNat, Nat.mod_eq_of_lt (by omega)]
  exact Nat.and_le_left
theorem y_andNot {t t2 : TypeId} {u v : Operand} {a b : Int} {x y : Nat} (ho : okO n u = true) (ho1 : okO n v = true) (hx : ev ρ u = .int .i64 a) (hy : ev ρ v = .int .i64 b) (ha : a = (x : Int)) (hb : b = (y : Int)) (h1 : x < 9223372036854775808) :
    Yd P (A n ρ ds) ⟨d, .binOp .andNot t u v t2, ty, p, e, g⟩ w (.int .i64 ((bitDiff x y : Nat) : Int)) := by
  subst ha hb
  refine y_bin ho ho1 hx hy fun w => ?_
  have hle := bitDiff_le x y h1
  have : Go.bits .andNot .i64 (x : Int) (y : Int) = ((bitDiff x y : Nat) : Int) := by
    show IntKind.i64.wrap ((BitVec.ofInt 64 (x : Int) &&& ~~~(BitVec.ofInt 64 (y : Int))).toNat : Int) = _
    rw [BitVec.ofInt_natCast, BitVec.ofInt_natCast]
    exact wrap_in (z := ((bitDiff x y : Nat) : Int)) (by omega) (by omega)
  rw [binOp_andNot, intBits_andNot, this]; rfl
theorem y_shr {t t2 : TypeId} {u v : Operand} {a b : Int} {x y : Nat} (ho : okO n u = true) (ho1 : okO n v = true) (hx : ev ρ u = .int .i64 a) (hy : ev ρ v = .int .i64 b) (ha : a = (x : Int)) (hb : b = (y : Int)) (h2 : y ≤ 60) :
    Yd P (A n ρ ds) ⟨d, .binOp .shr t u v t2, ty, p, e, g⟩ w (.int .i64 ((x >>> y : Nat) : Int)) := by
  subst ha hb
  refine y_bin ho ho1 hx hy fun w => ?_
  rw [binOp_shr]
  unfold Op.shift
  have hb : IntKind.i64.bits = 64 := rfl
  rw [if_neg (by omega)]
  simp only [Int.toNat_natCast, hb, Nat.min_eq_left (show y ≤ 64 by omega), Sem.run_pure]
  congr 2
  rw [Int.fdiv_eq_ediv_of_nonneg _ (by exact_mod_cast Nat.zero_le _), Nat.shiftRight_eq_div_pow]
  norm_cast
theorem y_shl {t t2 : TypeId} {u v : Operand} {a b : Int} {x y : Nat} (ho : okO n u = true) (ho1 : okO n v = true) (hx : ev ρ u = .int .i64 a) (hy : ev ρ v = .int .i64 b) (ha : a = (x : Int)) (hb : b = (y : Int)) (h1 : x ≤ 1000) (h2 : y ≤ 40) :
    Yd P (A n ρ ds) ⟨d, .binOp .shl t u v t2, ty, p, e, g⟩ w (.int .i64 ((x <<< y : Nat) : Int)) := by
  subst ha hb
  refine y_bin ho ho1 hx hy fun w => ?_
  rw [binOp_shl]
  unfold Op.shift
  have hb : IntKind.i64.bits = 64 := rfl
  rw [if_neg (by omega)]
  simp only [Int.toNat_natCast, hb, Nat.min_eq_left (show y ≤ 64 by omega), Sem.run_pure]
  have h3 : x * 2 ^ y ≤ 1000 * 2 ^ 40 := Nat.mul_le_mul h1 (Nat.pow_le_pow_right (by omega) h2)
  have h4 : (x : Int) * 2 ^ y = ((x * 2 ^ y : Nat) : Int) := by push_cast; rfl
  rw [h4, wrap_in (by omega) (by omega), Nat.shiftLeft_eq]
/-! ### Numbers within -/
theorem ats_intsO {b i o j : Nat} {t : TypeId} {l : List Int} (hi : L[i]? = some (b, blk t (iv l))) (hj : o + j < l.length) : Ats w0 L b (o + j * 1) [.int .i64 (l.getD (o + j) 0)] := by
  have := ats_ints (w0 := w0) (j := o + j) hi hj
  rwa [show 0 + (o + j) * 1 = o + j * 1 by omega] at this
theorem ats_intsC {b i o : Nat} {t : TypeId} {l : List Int} (hi : L[i]? = some (b, blk t (iv l))) (hj : o < l.length) : Ats w0 L b o [.int .i64 (l.getD o 0)] := by
  have := ats_ints (w0 := w0) (j := o) hi hj
  rwa [show 0 + o * 1 = o by omega] at this
theorem w_storeAtIO {t : TypeId} {x y : Operand} {b i o j : Nat} {tb : TypeId} {l : List Int} {z : Int} (hw : Want ops (A n ρ ds) ⟨none, .store t x y, ty, p, e, g⟩) (hs : ∀ w, (sizeOf t).run P w = .ok 1 w)
    (ho : okO n x = true) (ho1 : okO n y = true) (hx : ev ρ x = .pointer (some ⟨b, o + j * 1, none⟩)) (hy : ev ρ y = .int .i64 z) (hst : St w0 w L) (hi : L[i]? = some (b, blk tb (iv l))) (hl : o + j < l.length)
    (hk : ∀ w', St w0 w' (L.set i (b, blk tb (iv (l.set (o + j) z)))) → WL r P ops Q rest (A n ρ ds) w') :
    WL r P ops Q (⟨none, .store t x y, ty, p, e, g⟩ :: rest) (A n ρ ds) w :=
  w_storeAtI (j := o + j) hw hs ho ho1 (by rw [hx, show 0 + (o + j) * 1 = o + j * 1 by omega]) hy hst hi hl hk
theorem w_storeAtIC {t : TypeId} {x y : Operand} {b i o : Nat} {tb : TypeId} {l : List Int} {z : Int} (hw : Want ops (A n ρ ds) ⟨none, .store t x y, ty, p, e, g⟩) (hs : ∀ w, (sizeOf t).run P w = .ok 1 w)
    (ho : okO n x = true) (ho1 : okO n y = true) (hx : ev ρ x = .pointer (some ⟨b, o, none⟩)) (hy : ev ρ y = .int .i64 z) (hst : St w0 w L) (hi : L[i]? = some (b, blk tb (iv l))) (hl : o < l.length)
    (hk : ∀ w', St w0 w' (L.set i (b, blk tb (iv (l.set o z)))) → WL r P ops Q rest (A n ρ ds) w') :
    WL r P ops Q (⟨none, .store t x y, ty, p, e, g⟩ :: rest) (A n ρ ds) w :=
  w_storeAtI (j := o) hw hs ho ho1 (by rw [hx, show 0 + o * 1 = o by omega]) hy hst hi hl hk
/-- Part of a block of numbers, as an array. -/
theorem y_loadIP {k o : Nat} {t : TypeId} {x : Operand} {b i : Nat} {tb : TypeId} {l : List Int} (ha : ∀ w, (isAgg t).run P w = .ok true w) (hs : ∀ w, (sizeOf t).run P w = .ok k w) (hkl : o + k ≤ l.length) (hst : St w0 w L) (ho : okO n x = true) (hx : ev ρ x = .pointer (some ⟨b, o, none⟩))
    (hi : L[i]? = some (b, blk tb (iv l))) : Yd P (A n ρ ds) ⟨d, .load t x, ty, p, e, g⟩ w (ia ((l.drop o).take k)) := by
  have hl : (iv ((l.drop o).take k)).length = k := by simp; omega
  have := y_loadN (d := d) (ty := ty) (p := p) (e := e) (g := g) (P := P) (ds := ds) (vs := iv ((l.drop o).take k)) ha (by rw [hl]; exact hs) hst ho hx (ats_own hi (by rw [hl]; simp [iv, List.map_drop, List.map_take]))
  exact this
theorem y_indexV {t el len : TypeId} {x y : Operand} {a : Value} {l : List Int} {z : Int} {i : Nat} (hU : P.underlying t = some (.array len el)) (hel : P.underlying el = some (.int .i64)) (hsz : ∀ w, (sizeOf el).run P w = .ok 1 w) (ho : okO n x = true) (ho1 : okO n y = true)
    (hx : ev ρ x = a) (ha : a = ia l) (hy : ev ρ y = .int .i64 z) (hz : z = (i : Int)) (hi : i < len) (hl : i < l.length) : Yd P (A n ρ ds) ⟨d, .index t x y, ty, p, e, g⟩ w (.int .i64 (l.getD i 0)) := by
  subst hz ha
  have e1 : (iv l).toArray[i * 1]? = some (.int .i64 (l.getD i 0)) := by simp [hl]
  have hp := run_part_int (P := P) (w := w) hel e1
  have : (Instr.index t (ia l) (.int .i64 (i : Int))).run P w = .ok (.int .i64 (l.getD i 0)) w := by
    unfold Instr.index ia
    simp only [asIntOf, Sem.run_bind, Sem.run_pure, Result.andThen_ok, run_underlying hU]
    rw [if_pos ⟨by omega, by omega⟩]
    simp only [Sem.run_bind, hsz, Result.andThen_ok, Int.toNat_natCast, hp]
  simp only [Yd, execOp, ev_eq ho, ev_eq ho1, hx, hy, Sem.run_bind, this]
  rfl
/-! ### Structs of numbers and arrays of numbers -/
theorem run_part_flat {t : TypeId} {k o : Nat} (ha : ∀ w, (isAgg t).run P w = .ok true w) (hs : ∀ w, (sizeOf t).run P w = .ok k w) {l : List Int} : (part t (iv l).toArray o).run P w = .ok (ia ((l.drop o).take k)) w := by
  unfold part
  simp only [Sem.run_bind, ha, Result.andThen_ok, if_true, hs, Sem.run_pure]
  congr 2
  simp [iv, List.map_drop, List.map_take, List.extract_eq_take_drop]
/-- A field that is a number, or an array of numbers. -/
def FF (P : Program) (f : Field) (k : Nat) : Prop := f.name ≠ "_" ∧ ((P.underlying f.type = some (.int .i64) ∧ k = 1) ∨ (flatInts P f.type k = true ∧ (∀ w, (isAgg f.type).run P w = .ok true w) ∧ ∀ w, (sizeOf f.type).run P w = .ok k w))
theorem eqFields_flat (dd : Nat) (l m : List Int) : ∀ (fs : List (Field × Nat)), (∀ q ∈ fs, FF P q.1 q.2 ∧ q.1.offset + q.2 ≤ l.length ∧ q.1.offset + q.2 ≤ m.length) →
    (Op.eqFields (dd + 2) (iv l).toArray (iv m).toArray (fs.map Prod.fst)).run P w = .ok (fs.all fun q => decide ((l.drop q.1.offset).take q.2 = (m.drop q.1.offset).take q.2)) w
  | [], _ => by simp [Op.eqFields]
  | q :: fs, hh => by
    obtain ⟨⟨hn, hff⟩, h1, h2⟩ := hh q (.head _)
    have ih := eqFields_flat dd l m fs fun j hj => hh j (.tail _ hj)
    have key : ∃ u v : Value, (part q.1.type (iv l).toArray q.1.offset).run P w = .ok u w ∧ (part q.1.type (iv m).toArray q.1.offset).run P w = .ok v w ∧ (Op.equalIn (dd + 2) q.1.type u v).run P w = .ok (decide ((l.drop q.1.offset).take q.2 = (m.drop q.1.offset).take q.2)) w := by
      rcases hff with ⟨hu, hk⟩ | ⟨hf, ha, hs⟩
      · have e1 : (iv l).toArray[q.1.offset]? = some (.int .i64 (l.getD q.1.offset 0)) := by simp [show q.1.offset < l.length by omega]
        have e2 : (iv m).toArray[q.1.offset]? = some (.int .i64 (m.getD q.1.offset 0)) := by simp [show q.1.offset < m.length by omega]
        refine ⟨_, _, run_part_int hu e1, run_part_int hu e2, ?_⟩
        rw [run_equalIn_int w (dd + 1) q.1.type .i64 .i64 _ _ hu, hk]
        congr 1
        rw [List.drop_eq_getElem_cons (show q.1.offset < l.length by omega), List.drop_eq_getElem_cons (show q.1.offset < m.length by omega)]
        simp only [List.take_succ_cons, List.take_zero, List.cons.injEq, and_true]
        have g1 : l.getD q.1.offset 0 = l[q.1.offset]'(by omega) := by simp [List.getD, show q.1.offset < l.length by omega]
        have g2 : m.getD q.1.offset 0 = m[q.1.offset]'(by omega) := by simp [List.getD, show q.1.offset < m.length by omega]
        rw [g1, g2]
        rfl
      · refine ⟨_, _, run_part_flat ha hs, run_part_flat ha hs, ?_⟩
        have hl1 : ((l.drop q.1.offset).take q.2).length = q.2 := by simp; omega
        have hl2 : ((m.drop q.1.offset).take q.2).length = q.2 := by simp; omega
        exact run_equal_flat dd (by rw [hl1]; exact hf) (by rw [hl1, hl2])
    obtain ⟨u, v, k1, k2, k3⟩ := key
    simp only [List.map_cons, Op.eqFields, hn, ne_eq, not_false_eq_true, if_true, Sem.run_bind, k1, k2, k3, Result.andThen_ok]
    simp only [List.all_cons]
    by_cases hv : (l.drop q.1.offset).take q.2 = (m.drop q.1.offset).take q.2
    · rw [decide_eq_true hv]
      simp only [Bool.not_true, Bool.false_eq_true, if_false, Bool.true_and]
      exact ih
    · rw [decide_eq_false hv]
      simp only [Bool.not_false, if_true, Sem.run_pure, Bool.false_and]
/-- What a key's type has to be like: n numbers. -/
structure KeyTy (P : Program) (t : TypeId) (n : Nat) : Prop where
  chk : ∀ (em : Bool) (l : List Int) (w : World), l.length = n → (Instr.checkKey em 10000 t (ia l)).run P w = .ok () w
  eq : ∀ (l m : List Int) (w : World), l.length = n → m.length = n → (Op.equal t (ia l) (ia m)).run P w = .ok (decide (l = m)) w
  desc : ∃ u, P.underlying t = some u ∧ (∀ (l : List Int) (e : MapEntry) (es : List MapEntry), Instr.findNow u (ia l) (e :: es) 0 = none) ∧ ∀ (l : List Int) (w : World), (Instr.findKey t (ia l) []).run P w = .ok none w
theorem keyTy_struct {t : TypeId} {fs : Array Field} {k : Nat} (fq : List (Field × Nat)) (hu : P.underlying t = some (.struct fs)) (hp : P.stoodInHeld t = false) (hfs : fs.toList = fq.map Prod.fst) (hff : ∀ q ∈ fq, FF P q.1 q.2 ∧ q.1.offset + q.2 ≤ k)
    (hck : ∀ q ∈ fq, P.underlying q.1.type = some (.int .i64) ∨ ∃ el, P.underlying q.1.type = some (.array q.2 el) ∧ P.underlying el = some (.int .i64) ∧ ∀ w, (sizeOf el).run P w = .ok 1 w)
    (hcov : ∀ l m : List Int, l.length = k → m.length = k → (fq.all fun q => decide ((l.drop q.1.offset).take q.2 = (m.drop q.1.offset).take q.2)) = decide (l = m)) : KeyTy P t k := by
  refine ⟨fun em l w hl => ?_, fun l m w hl hm => ?_, ⟨_, hu, fun l e es => ?_, fun l w => ?_⟩⟩
  · have one : ∀ q ∈ fq, ∀ w, q.1.name ≠ "_" ∧ ∃ v, (part q.1.type (iv l).toArray q.1.offset).run P w = .ok v w ∧ (Instr.checkKey em 9999 q.1.type v).run P w = .ok () w := by
      intro q hq w
      obtain ⟨⟨hn, hf⟩, ho⟩ := hff q hq
      refine ⟨hn, ?_⟩
      rcases hf with ⟨hi, hk1⟩ | ⟨hf, ha, hs⟩
      · have e1 : (iv l).toArray[q.1.offset]? = some (.int .i64 (l.getD q.1.offset 0)) := by simp [show q.1.offset < l.length by omega]
        refine ⟨_, run_part_int hi e1, ?_⟩
        unfold Instr.checkKey
        simp [Sem.run_bind, run_underlying hi, Result.andThen]
      · refine ⟨_, run_part_flat ha hs, ?_⟩
        rcases hck q hq with hi | ⟨el, h1, h2, h3⟩
        · exfalso
          unfold flatInts at hf
          rw [hi] at hf
          cases hf
        · exact run_checkKey (dd := 9997) h1 (by simp; omega) h2 h3
    rw [show (10000 : Nat) = 9999 + 1 from rfl, Instr.checkKey]
    unfold ia
    simp only [Sem.run_bind, run_underlying hu, Result.andThen_ok]
    rw [← Array.forIn_toList, hfs]
    have : ∀ (q : List (Field × Nat)), (∀ x ∈ q, x ∈ fq) → ∀ w, (forIn (q.map Prod.fst) PUnit.unit fun f _ => (do
        if f.name ≠ "_" then Instr.checkKey em 9999 f.type (← part f.type (iv l).toArray f.offset)
        pure (ForInStep.yield PUnit.unit) : Sem (ForInStep PUnit)) : Sem PUnit).run P w = .ok PUnit.unit w := by
      intro q
      induction q with
      | nil => intro _ w; simp
      | cons x q ih =>
        intro hx w
        obtain ⟨hn, v, h1, h2⟩ := one x (hx x (.head _)) w
        simp only [List.map_cons, List.forIn_cons, Sem.run_bind, hn, ne_eq, not_false_eq_true, if_true, h1, h2, Result.andThen_ok, Sem.run_pure]
        exact ih (fun y hy => hx y (.tail _ hy)) w
    have h := this fq (fun _ h => h) w
    exact congrArg (fun r => Result.andThen r fun a w' => Sem.run P (pure ()) w') h
  · have hfo : P.fieldsOf t = fs := by simp [Program.fieldsOf, hu]
    show (Op.equalIn ((9997 + 2) + 1) t (.agg (iv l).toArray) (.agg (iv m).toArray)).run P w = _
    rw [run_equalIn_struct w (9997 + 2) t _ _ (by rw [hfo]; exact hu) hp, hfo, hfs, eqFields_flat 9997 l m fq (fun q hq => ⟨(hff q hq).1, by have := (hff q hq).2; omega, by have := (hff q hq).2; omega⟩), hcov l m hl hm]
  · simp [Instr.findNow, Instr.sameNow]
  · simp [Instr.findKey, Sem.run_bind, run_underlying hu, Result.andThen, Instr.findNow]
theorem K_findAsking {t : TypeId} {l : List Int} {k : Nat} (hK : KeyTy P t k) (hl : l.length = k) : ∀ (es : List MapEntry) (i : Nat), (∀ e ∈ es, ∃ m, m.length = k ∧ e.key = ia m) →
    ((∀ w, (Instr.findAsking t (ia l) es i).run P w = .ok none w) ∧ ∀ e ∈ es, e.key ≠ ia l) ∨ ∃ j e, (∀ w, (Instr.findAsking t (ia l) es i).run P w = .ok (some (j, e.val)) w) ∧ e ∈ es ∧ e.key = ia l
  | [], i, _ => .inl ⟨fun w => by simp [Instr.findAsking], by simp⟩
  | e :: es, i, hall => by
    obtain ⟨m, hm, hk⟩ := hall e (.head _)
    have h2 : ∀ w, (Op.equal t (ia l) e.key).run P w = .ok (decide (l = m)) w := fun w => by rw [hk]; exact hK.eq l m w hl hm
    by_cases hlm : l = m
    · rw [decide_eq_true hlm] at h2
      exact .inr ⟨i, e, fun w => by simp [Instr.findAsking, Sem.run_bind, h2, Result.andThen], .head _, by rw [hk, hlm]⟩
    · have h3 : ∀ w, (Instr.findAsking t (ia l) (e :: es) i).run P w = (Instr.findAsking t (ia l) es (i + 1)).run P w := by
        intro w
        simp [Instr.findAsking, Sem.run_bind, h2, hlm, Result.andThen]
      rcases K_findAsking hK hl es (i + 1) (fun e he => hall e (.tail _ he)) with ⟨h4, h5⟩ | ⟨j, e', h4, h5, h6⟩
      · exact .inl ⟨fun w => (h3 w).trans (h4 w), fun e' he' => by
          cases he' with
          | head => rw [hk]; exact fun h => hlm (ia_inj h).symm
          | tail _ he' => exact h5 e' he'⟩
      · exact .inr ⟨j, e', fun w => (h3 w).trans (h4 w), .tail _ h5, h6⟩
theorem K_findKey {t : TypeId} {l : List Int} {k : Nat} (hK : KeyTy P t k) (hl : l.length = k) (es : List MapEntry) (hall : ∀ e ∈ es, ∃ m, m.length = k ∧ e.key = ia m) :
    ((∀ w, (Instr.findKey t (ia l) es).run P w = .ok none w) ∧ ∀ e ∈ es, e.key ≠ ia l) ∨ ∃ j e, (∀ w, (Instr.findKey t (ia l) es).run P w = .ok (some (j, e.val)) w) ∧ e ∈ es ∧ e.key = ia l := by
  obtain ⟨u, hu, hn, h0⟩ := hK.desc
  cases es with
  | nil => exact .inl ⟨h0 l, by simp⟩
  | cons e es =>
    have h : ∀ w, (Instr.findKey t (ia l) (e :: es)).run P w = (Instr.findAsking t (ia l) (e :: es) 0).run P w := fun w => by
      simp [Instr.findKey, Sem.run_bind, run_underlying hu, Result.andThen, hn l e es]
    rcases K_findAsking hK hl (e :: es) 0 hall with ⟨h1, h2⟩ | ⟨j, e', h1, h2, h3⟩
    · exact .inl ⟨fun w => (h w).trans (h1 w), h2⟩
    · exact .inr ⟨j, e', fun w => (h w).trans (h1 w), h2, h3⟩
theorem K_lookupS {mt kt el : TypeId} {x y : Operand} {l : List Int} {a : Value} {m i k j : Nat} {es : Array MapEntry} {ck : Nat} {v : Value} (hU : P.underlying mt = some (.map kt el)) (hK : KeyTy P kt k) (hkl : l.length = k)
    (hst : St w0 w L) (ho : okO n x = true) (ho1 : okO n y = true) (hx : ev ρ x = .map (some m)) (hy : ev ρ y = a) (ha : a = ia l) (hi : L[i]? = some (m, .map es ck)) (hf : ∀ w, (Instr.findKey kt (ia l) es.toList).run P w = .ok (some (j, v)) w) :
    Yd P (A n ρ ds) ⟨d, .lookup mt x y true, ty, p, e, g⟩ w (.tuple #[v, .bool true]) := by
  unfold Yd
  have hc := hK.chk es.isEmpty l w hkl
  have : (Instr.lookup mt (.map (some m)) (ia l) true).run P w = .ok (.tuple #[v, .bool true]) w := by
    simp only [Instr.lookup, Sem.run_bind, run_underlying hU, Result.andThen_ok, hst.obj hi, Sem.run_pure, hc, hf, if_true]
  simp only [execOp, ev_eq ho, ev_eq ho1, hx, hy, ha, Sem.run_bind, this]
  rfl
theorem K_lookupN {mt kt el : TypeId} {x y : Operand} {l : List Int} {a : Value} {m i k : Nat} {es : Array MapEntry} {ck : Nat} {z : Value} (hU : P.underlying mt = some (.map kt el)) (hK : KeyTy P kt k) (hkl : l.length = k)
    (hz : ∀ w, (zeroValue el).run P w = .ok z w) (hst : St w0 w L) (ho : okO n x = true) (ho1 : okO n y = true) (hx : ev ρ x = .map (some m)) (hy : ev ρ y = a) (ha : a = ia l) (hi : L[i]? = some (m, .map es ck))
    (hf : ∀ w, (Instr.findKey kt (ia l) es.toList).run P w = .ok none w) : Yd P (A n ρ ds) ⟨d, .lookup mt x y true, ty, p, e, g⟩ w (.tuple #[z, .bool false]) := by
  unfold Yd
  have hc := hK.chk es.isEmpty l w hkl
  have : (Instr.lookup mt (.map (some m)) (ia l) true).run P w = .ok (.tuple #[z, .bool false]) w := by
    simp only [Instr.lookup, Sem.run_bind, run_underlying hU, Result.andThen_ok, hst.obj hi, Sem.run_pure, hc, hf, hz, if_true]
  simp only [execOp, ev_eq ho, ev_eq ho1, hx, hy, ha, Sem.run_bind, this]
  rfl
theorem K_mapAdd {mt kt el : TypeId} {x y z : Operand} {l : List Int} {a v : Value} {m i k : Nat} {es : Array MapEntry} {ck : Nat} (hw : Want ops (A n ρ ds) ⟨none, .mapUpdate mt x y z, ty, p, e, g⟩) (hU : P.underlying mt = some (.map kt el)) (hK : KeyTy P kt k) (hkl : l.length = k)
    (ho : okO n x = true) (ho1 : okO n y = true) (ho2 : okO n z = true) (hx : ev ρ x = .map (some m)) (hy : ev ρ y = a) (ha : a = ia l) (hz : ev ρ z = v) (hst : St w0 w L) (hi : L[i]? = some (m, .map es ck))
    (hf : ∀ w, (Instr.findKey kt (ia l) es.toList).run P w = .ok none w) (hk2 : ∀ w', St w0 w' (L.set i (m, .map (es.push { key := ia l, val := v, born := ck }) (ck + 1))) → WL r P ops Q rest (A n ρ ds) w') :
    WL r P ops Q (⟨none, .mapUpdate mt x y z, ty, p, e, g⟩ :: rest) (A n ρ ds) w := by
  refine w_unit hw (w' := w.putObj m (.map (es.push { key := ia l, val := v, born := ck }) (ck + 1))) ?_ rfl (hk2 _ (hst.putObj hi _))
  have hc := hK.chk false l w hkl
  have hs : (setObj m (.map (es.push { key := ia l, val := v, born := ck }) (ck + 1))).run P w = .ok () (w.putObj m (.map (es.push { key := ia l, val := v, born := ck }) (ck + 1))) := by
    simp [setObj, Sem.run, hst.get hi, World.putObj]
  have : (Instr.mapUpdate mt (.map (some m)) (ia l) v).run P w = .ok () (w.putObj m (.map (es.push { key := ia l, val := v, born := ck }) (ck + 1))) := by
    simp only [Instr.mapUpdate, Sem.run_bind, run_underlying hU, Result.andThen_ok, hst.obj hi, Sem.run_pure, hc, hf, hs]
  simp only [execOp, ev_eq ho, ev_eq ho1, ev_eq ho2, hx, hy, ha, hz, Sem.run_bind, this]
  rfl
end
end Go.Rt
/- The walking engine, part 11: one number copied into a list at a place. No conditions. -/
set_option linter.unusedSimpArgs false
set_option linter.unusedVariables false
namespace Go.Rt
open Go.RowKit
variable {r : Option Nat} {P : Program} {ops : Array Oper} {Q : Exit → Act → World → Prop} {rest : List Oper} {n : Nat} {ρ : Nat → Value} {ds : List Deferred} {ty : TypeId} {p : String} {e : Array Edge} {g : Option (Nat × Bool)} {w w0 : World} {L : List (Nat × Obj)}
theorem w_copy1 {d : Nat} {t el : TypeId} {i i2 : Nat} {x y : Operand} {b b2 j c c2 : Nat} {tb tb2 : TypeId} {l : List Int} {z : Int}
    (hw : Want ops (A n ρ ds) ⟨some d, .call ⟨.builtin .copy, #[x, y], #[t, t]⟩, ty, p, e, g⟩)
    (hU : P.underlying t = some (.slice el)) (hsz : ∀ w, (sizeOf el).run P w = .ok 1 w) (ho : okO n x = true) (ho1 : okO n y = true)
    (hx : ev ρ x = .slice (if c = j then some ⟨b, 0, none⟩ else (some (⟨b, 0, none⟩ : Addr)).map (·.add (j * 1))) (c - j) (c - j)) (hy : ev ρ y = .slice (some ⟨b2, 0, none⟩) 1 c2)
    (hst : St w0 w L) (hi : L[i]? = some (b, blk tb (iv l))) (hi2 : L[i2]? = some (b2, blk tb2 [.int .i64 z])) (hj : j < c) (hc : l.length = c)
    (hk : ∀ w', St w0 w' (L.set i (b, blk tb (iv (l.set j z)))) → WL r P ops Q rest (A n (upd ρ d (.int .i64 1)) ds) w') :
    WL r P ops Q (⟨some d, .call ⟨.builtin .copy, #[x, y], #[t, t]⟩, ty, p, e, g⟩ :: rest) (A n ρ ds) w := by
  have hx2 : ev ρ x = .slice (some ⟨b, j, none⟩) (c - j) (c - j) := by
    rw [hx, if_neg (by omega)]
    by_cases h0 : j = 0
    · subst h0; rfl
    · simp [Addr.add, h0]
  have hm : Nat.min 1 (c - j) = 1 := Nat.min_eq_left (by omega)
  refine w_copy (xs := [.int .i64 z]) (vs := [.int .i64 z]) (k := 1) hw hU hsz ho ho1 hx2 hy hst hi (sl_own (i := i2) (rows := [[.int .i64 z]]) hi2 (by simp) rfl) rfl hm.symm rfl (by simp [Value.oneCell']) (by simp; omega) (fun w' hst' => hk w' ?_)
  have : setMany (iv l) j [.int .i64 z] = iv (l.set j z) := by simp [setMany, iv, List.map_set]
  rwa [this] at hst'
theorem shr_lt {x y k : Nat} (h : x < k) : x >>> y < k := Nat.lt_of_le_of_lt (Nat.shiftRight_le _ _) h
end Go.Rt
/- Plain words of the shop layer: valid markets, which trains go, what sets of shops lack. No conditions. -/
set_option linter.unusedSimpArgs false
set_option linter.unusedVariables false
namespace Go.Rt.Sh
structure Market.Ok (m : Market) : Prop where
  lr : m.rooms.length ≤ 3
  ls : m.shops.length ≤ 4
  lt : m.trains.length ≤ 6
  room : ∀ r ∈ m.rooms, 0 ≤ r.lo ∧ r.lo ≤ r.hi ∧ r.hi ≤ 200 ∧ 0 ≤ r.fro ∧ r.fro ≤ r.las ∧ r.las ≤ 9
  shop : ∀ s ∈ m.shops, 0 ≤ s.day ∧ s.day ≤ 9 ∧ 1 ≤ s.want ∧ s.want ≤ 60
  train : ∀ t ∈ m.trains, 0 ≤ t.room ∧ t.room < m.rooms.length ∧ 0 ≤ t.shop ∧ t.shop < m.shops.length ∧ 0 ≤ t.days ∧ t.days ≤ 6 ∧ 1 ≤ t.cap ∧ t.cap ≤ 60
theorem firstE_zero {α : Type} (err : List α → α → Int) : ∀ (l b : List α) (i : Int), (firstE err b i l).2 = 0 → ∀ k (h : k < l.length), err (b ++ l.take k) l[k] = 0
  | [], _, _, _, k, h => by simp at h
  | x :: l, b, i, h, k, hk => by
    unfold firstE at h
    by_cases he : err b x = 0
    · rw [if_pos he] at h
      match k with
      | 0 => simpa using he
      | k + 1 =>
        have := firstE_zero err l (b ++ [x]) (i + 1) h k (by simpa using hk)
        simpa using this
    · rw [if_neg he] at h; exact absurd h he
theorem failE_zero {α : Type} {err : List α → α → Int} {most : Int} {l : List α} (h : (failE err most l).2 = 0) : (l.length : Int) ≤ most ∧ ∀ k (h : k < l.length), err (l.take k) l[k] = 0 := by
  unfold failE at h
  split at h
  · simp at h
  · exact ⟨by omega, fun k hk => by have := firstE_zero err l [] 0 h k hk; simpa using this⟩
theorem check_parts {m : Market} (h : (check m).2.2 = 0) : (failE roomE 3 m.rooms).2 = 0 ∧ (failE shopE 4 m.shops).2 = 0 ∧ (failE (trainE m) 6 m.trains).2 = 0 := by
  unfold check at h
  split at h
  · rename_i h1; exact absurd h h1
  · rename_i h1
    split at h
    · rename_i h2; exact absurd h h2
    · rename_i h2
      split at h
      · rename_i h3; exact absurd h h3
      · rename_i h3; exact ⟨by simpa using h1, by simpa using h2, by simpa using h3⟩
theorem check_zero {m : Market} (h : (check m).2.2 = 0) : check m = (0, 0, 0) := by
  obtain ⟨h1, h2, h3⟩ := check_parts h
  unfold check
  rw [if_neg (by simp [h1]), if_neg (by simp [h2]), if_neg (by simp [h3])]
theorem roomE_zero {b : List Room} {r : Room} (h : roomE b r = 0) : 0 ≤ r.lo ∧ r.lo ≤ r.hi ∧ r.hi ≤ 60 ∧ 0 ≤ r.fro ∧ r.fro ≤ r.las ∧ r.las ≤ 9 := by
  unfold roomE at h
  split at h
  · rename_i h1; exact absurd h h1
  · unfold roomOwn out at h
    simp only [Bool.or_eq_true, decide_eq_true_eq] at h
    split at h
    · omega
    · split at h <;> omega
theorem shopE_zero {b : List Shop} {s : Shop} (h : shopE b s = 0) : 0 ≤ s.day ∧ s.day ≤ 9 ∧ 1 ≤ s.want ∧ s.want ≤ 60 := by
  unfold shopE at h
  split at h
  · rename_i h1; exact absurd h h1
  · unfold shopOwn out at h
    simp only [Bool.or_eq_true, decide_eq_true_eq] at h
    split at h <;> omega
theorem trainE_zero {m : Market} {b : List Train} {t : Train} (h : trainE m b t = 0) : 0 ≤ t.room ∧ t.room < m.rooms.length ∧ 0 ≤ t.shop ∧ t.shop < m.shops.length ∧ 0 ≤ t.days ∧ t.days ≤ 5 ∧ 1 ≤ t.cap ∧ t.cap ≤ 60 := by
  unfold trainE out at h
  simp only [Bool.or_eq_true, decide_eq_true_eq] at h
  split at h
  · omega
  · split at h <;> omega
theorem check_ok {m : Market} (h : (check m).2.2 = 0) : m.Ok := by
  obtain ⟨h1, h2, h3⟩ := check_parts h
  have f1 := failE_zero h1
  have f2 := failE_zero h2
  have f3 := failE_zero h3
  refine ⟨by omega, by omega, by omega, fun r hr => ?_, fun s hs => ?_, fun t ht => ?_⟩
  · obtain ⟨k, hk, rfl⟩ := List.getElem_of_mem hr
    have := roomE_zero (f1.2 k hk); omega
  · obtain ⟨k, hk, rfl⟩ := List.getElem_of_mem hs
    have := shopE_zero (f2.2 k hk); omega
  · obtain ⟨k, hk, rfl⟩ := List.getElem_of_mem ht
    have := trainE_zero (f3.2 k hk); omega
/-- Whether a train goes. -/
def leaves (m : Market) (t : Train) : Bool := match m.rooms[t.room.toNat]?, m.shops[t.shop.toNat]? with
  | some r, some s => !out r.fro r.las (s.day - t.days)
  | _, _ => false
theorem leaves_at {m : Market} {t : Train} (h1 : t.room.toNat < m.rooms.length) (h2 : t.shop.toNat < m.shops.length) : leaves m t = !out m.rooms[t.room.toNat].fro m.rooms[t.room.toNat].las (m.shops[t.shop.toNat].day - t.days) := by
  unfold leaves; rw [List.getElem?_eq_getElem h1, List.getElem?_eq_getElem h2]
/-- A bit of a set. -/
def bit (b j : Nat) : Nat := (b >>> j) &&& 1
theorem bit_le (b j : Nat) : bit b j ≤ 1 := by unfold bit; exact Nat.and_le_right
/-- What sets lack, as the program sums it: hands of three rooms, wants of four shops, the first train. -/
def capsU (m : Market) (fro : Int) (b : Nat) : Nat → List Int
  | 0 => [0, 0, 0]
  | i + 1 => match m.trains[i]? with
    | some t => if (i : Int) < fro ∨ bit b t.shop.toNat = 0 ∨ leaves m t = false then capsU m fro b i else (capsU m fro b i).set t.room.toNat ((capsU m fro b i).getD t.room.toNat 0 + t.cap)
    | none => capsU m fro b i
def wantU (x : List Int) (b : Nat) : Nat → Int
  | 0 => 0
  | i + 1 => wantU x b i + x.getD (3 + i) 0 * (bit b i : Int)
def handU (c x : List Int) : Nat → Int
  | 0 => 0
  | i + 1 => handU c x i + min (c.getD i 0) (x.getD i 0)
def lackB (m : Market) (x : List Int) (b : Nat) : Int := wantU x b 4 - handU (capsU m (x.getD 7 0) b m.trains.length) x 3
def lacksV (m : Market) (x : List Int) : List Int := (List.range 16).map (lackB m x)
def lacksTo (m : Market) (x : List Int) (b : Nat) : List Int := (List.range 16).map fun k => if k < b then lackB m x k else 0
theorem lacksTo_len (m : Market) (x : List Int) (b : Nat) : (lacksTo m x b).length = 16 := by simp [lacksTo]
theorem lacksV_len (m : Market) (x : List Int) : (lacksV m x).length = 16 := by simp [lacksV]
theorem lacksTo_zero (m : Market) (x : List Int) : lacksTo m x 0 = List.replicate 16 0 := by
  rfl
theorem lacksTo_all (m : Market) (x : List Int) : lacksTo m x 16 = lacksV m x := by
  unfold lacksTo lacksV
  refine List.map_congr_left fun k hk => ?_
  rw [List.mem_range] at hk
  rw [if_pos hk]
theorem lacksTo_succ {m : Market} {x : List Int} {b : Nat} (hb : b < 16) : (lacksTo m x b).set b (lackB m x b) = lacksTo m x (b + 1) := by
  unfold lacksTo
  apply List.ext_getElem (by simp)
  intro i h1 h2
  rw [List.getElem_set]
  simp only [List.getElem_map, List.getElem_range]
  by_cases h : b = i
  · subst h; simp
  · rw [if_neg h]
    by_cases h2 : i < b
    · rw [if_pos h2, if_pos (by omega)]
    · rw [if_neg h2, if_neg (by omega)]
theorem lacksTo_here {m : Market} {x : List Int} {b : Nat} : (lacksTo m x b).getD b 0 = 0 := by
  unfold lacksTo
  by_cases h : b < 16
  · simp [List.getD, h]
  · simp [List.getD, h]
theorem capsU_len (m : Market) (fro : Int) (b : Nat) : ∀ i, (capsU m fro b i).length = 3
  | 0 => rfl
  | i + 1 => by
    unfold capsU
    cases m.trains[i]? with
    | none => exact capsU_len m fro b i
    | some t => dsimp only; split
                · exact capsU_len m fro b i
                · rw [List.length_set]; exact capsU_len m fro b i
theorem capsU_skip {m : Market} {fro : Int} {b i : Nat} (hi : i < m.trains.length) (h : (i : Int) < fro ∨ bit b m.trains[i].shop.toNat = 0 ∨ leaves m m.trains[i] = false) : capsU m fro b (i + 1) = capsU m fro b i := by
  simp only [capsU, List.getElem?_eq_getElem hi, if_pos h]
theorem capsU_add {m : Market} {fro : Int} {b i : Nat} (hi : i < m.trains.length) (h : ¬ ((i : Int) < fro ∨ bit b m.trains[i].shop.toNat = 0 ∨ leaves m m.trains[i] = false)) : capsU m fro b (i + 1) = (capsU m fro b i).set m.trains[i].room.toNat ((capsU m fro b i).getD m.trains[i].room.toNat 0 + m.trains[i].cap) := by
  simp only [capsU, List.getElem?_eq_getElem hi, if_neg h]
theorem capsU_bound {m : Market} (hok : m.Ok) (fro : Int) (b : Nat) : ∀ i, i ≤ m.trains.length → ∀ z ∈ capsU m fro b i, 0 ≤ z ∧ z ≤ 60 * (i : Int)
  | 0, _, z, hz => by simp [capsU] at hz; omega
  | i + 1, hi, z, hz => by
    have ih := capsU_bound hok fro b i (by omega)
    have ht := hok.train _ (List.getElem_mem (show i < m.trains.length by omega))
    by_cases h : (i : Int) < fro ∨ bit b (m.trains[i]'(by omega)).shop.toNat = 0 ∨ leaves m (m.trains[i]'(by omega)) = false
    · rw [capsU_skip (by omega) h] at hz
      have := ih z hz; omega
    · rw [capsU_add (by omega) h] at hz
      rcases List.mem_or_eq_of_mem_set hz with h1 | h1
      · have := ih z h1; omega
      · have hg : 0 ≤ (capsU m fro b i).getD (m.trains[i]'(by omega)).room.toNat 0 ∧ (capsU m fro b i).getD (m.trains[i]'(by omega)).room.toNat 0 ≤ 60 * (i : Int) := by
          by_cases hl : (m.trains[i]'(by omega)).room.toNat < (capsU m fro b i).length
          · have := ih _ (List.getElem_mem hl); simpa [List.getD, hl] using this
          · simp [List.getD, hl]; omega
        omega
theorem getD_in {l : List Int} {a b : Int} (ha : a ≤ 0) (hb : 0 ≤ b) (h : ∀ z ∈ l, a ≤ z ∧ z ≤ b) (i : Nat) : a ≤ l.getD i 0 ∧ l.getD i 0 ≤ b := by
  by_cases hl : i < l.length
  · have := h _ (List.getElem_mem hl); simpa [List.getD, hl] using this
  · simp [List.getD, hl]; omega
theorem mul_bit {a n : Int} {b j : Nat} (ha : 0 ≤ a) (h : -a ≤ n ∧ n ≤ a) : -a ≤ n * (bit b j : Int) ∧ n * (bit b j : Int) ≤ a := by
  have h1 := bit_le b j
  have h2 : bit b j = 0 ∨ bit b j = 1 := by omega
  rcases h2 with h2 | h2
  · rw [h2]; simp; omega
  · rw [h2]; simp; omega
theorem wantU_bound {x : List Int} (hx : ∀ z ∈ x, -10000 ≤ z ∧ z ≤ 10000) (b : Nat) : ∀ i : Nat, -(10000 * (i : Int)) ≤ wantU x b i ∧ wantU x b i ≤ 10000 * (i : Int)
  | 0 => by simp [wantU]
  | i + 1 => by
    have ih := wantU_bound hx b i
    have h1 := getD_in (by omega) (by omega) hx (3 + i)
    have h2 := mul_bit (b := b) (j := i) (a := 10000) (by omega) h1
    unfold wantU
    omega
theorem handU_bound {c x : List Int} (hc : ∀ z ∈ c, -10000 ≤ z ∧ z ≤ 10000) (hx : ∀ z ∈ x, -10000 ≤ z ∧ z ≤ 10000) : ∀ i : Nat, -(10000 * (i : Int)) ≤ handU c x i ∧ handU c x i ≤ 10000 * (i : Int)
  | 0 => by simp [handU]
  | i + 1 => by
    have ih := handU_bound hc hx i
    have h1 := getD_in (by omega) (by omega) hx i
    have h2 := getD_in (by omega) (by omega) hc i
    unfold handU
    omega
end Go.Rt.Sh
/- Plain words of the shop layer: what the program's help functions return, as they go. No conditions. -/
set_option linter.unusedSimpArgs false
set_option linter.unusedVariables false
namespace Go.Rt.Sh
/-- The error with which a market and numbers of things below n are taken. -/
def enterE (m : Market) (n : Int) (l : List Int) : Int := if (check m).2.2 ≠ 0 then (check m).2.2 else if l.any (out 0 (n - 1)) then 4 else 0
theorem enterE_1 {m : Market} {n : Int} {l : List Int} (h : ¬ (check m).2.2 = 0) : enterE m n l = (check m).2.2 := by unfold enterE; rw [if_pos h]
theorem enterE_2 {m : Market} {n : Int} {l : List Int} (h : (check m).2.2 = 0) (h2 : l.any (out 0 (n - 1)) = true) : enterE m n l = 4 := by unfold enterE; rw [if_neg (by simpa using h), if_pos h2]
theorem enterE_0 {m : Market} {n : Int} {l : List Int} (h : (check m).2.2 = 0) (h2 : l.any (out 0 (n - 1)) = false) : enterE m n l = 0 := by unfold enterE; rw [if_neg (by simpa using h), if_neg (by simp [h2])]
theorem enterE_ok {m : Market} {n : Int} {l : List Int} (h : enterE m n l = 0) : (check m).2.2 = 0 ∧ ∀ x ∈ l, 0 ≤ x ∧ x < n := by
  unfold enterE at h
  split at h
  · rename_i h1; exact absurd h h1
  · rename_i h1
    split at h
    · cases h
    · rename_i h2
      refine ⟨by simpa using h1, fun x hx => ?_⟩
      have : out 0 (n - 1) x = false := by
        cases hh : out 0 (n - 1) x with
        | false => rfl
        | true => exact absurd (List.any_eq_true.2 ⟨x, hx, hh⟩) h2
      simp [out] at this
      omega
theorem enterE_nil {m : Market} {n : Int} : enterE m n [] = (check m).2.2 := by
  unfold enterE
  split
  · rfl
  · rename_i h; simp at h ⊢; exact h.symm
/-- Those below n that are in a set, as a list. -/
def listL (b : Nat) : Nat → List Int
  | 0 => []
  | n + 1 => listL b n ++ if bit b n = 1 then [(n : Int)] else []
theorem listL_le (b : Nat) : ∀ n, (listL b n).length ≤ n
  | 0 => by simp [listL]
  | n + 1 => by have := listL_le b n; simp only [listL, List.length_append]; split <;> simp <;> omega
def listTo (b n k : Nat) : List Int := listL b k ++ List.replicate (n - (listL b k).length) 0
theorem listTo_len (b n k : Nat) (h : k ≤ n) : (listTo b n k).length = n := by have := listL_le b k; simp [listTo]; omega
theorem listTo_zero (b n : Nat) : listTo b n 0 = List.replicate n 0 := by simp [listTo, listL]
theorem listL_yes {b k : Nat} (h : bit b k = 1) : listL b (k + 1) = listL b k ++ [(k : Int)] := by simp [listL, h]
theorem listL_no {b k : Nat} (h : ¬ bit b k = 1) : listL b (k + 1) = listL b k := by simp [listL, h]
theorem listTo_yes {b n k : Nat} (hk : k < n) (h : bit b k = 1) : (listTo b n k).set (listL b k).length k = listTo b n (k + 1) := by
  have := listL_le b k
  unfold listTo
  rw [listL_yes h, List.set_append_right _ _ (Nat.le_refl _), Nat.sub_self, List.length_append, List.length_singleton]
  obtain ⟨q, hq⟩ : ∃ q, n - (listL b k).length = q + 1 := ⟨n - (listL b k).length - 1, by omega⟩
  rw [hq, List.replicate_succ, List.set_cons_zero, show n - ((listL b k).length + 1) = q by omega]
  simp
theorem listTo_no {b n k : Nat} (h : ¬ bit b k = 1) : listTo b n k = listTo b n (k + 1) := by unfold listTo; rw [listL_no h]
theorem listTo_take (b n : Nat) : (listTo b n n).take (listL b n).length = listL b n := by simp [listTo]
/-- Fewer, or as many that come before. -/
def before (a b : List Int) : Bool := decide (a.length < b.length) || (decide (a.length = b.length) && less a b)
/-- A set told by rising numbers. -/
def orBits : Nat → List Int → Option Nat
  | s, [] => some s
  | s, x :: l => if 0 < s >>> x.toNat then none else orBits (s ||| (1 <<< x.toNat)) l
theorem orBits_none {s : Nat} {l : List Int} {i : Nat} (hi : i < l.length) (h : 0 < s >>> l[i].toNat) : orBits s (l.drop i) = none := by rw [List.drop_eq_getElem_cons hi]; simp [orBits, h]
theorem orBits_step {s : Nat} {l : List Int} {i : Nat} (hi : i < l.length) (h : ¬ 0 < s >>> l[i].toNat) : orBits s (l.drop i) = orBits (s ||| (1 <<< l[i].toNat)) (l.drop (i + 1)) := by rw [List.drop_eq_getElem_cons hi]; simp only [orBits, if_neg h]
theorem orBits_end {s : Nat} {l : List Int} {i : Nat} (hi : l.length ≤ i) : orBits s (l.drop i) = some s := by rw [List.drop_of_length_le hi]; rfl
theorem or_small {s x : Nat} (h : s < 16) (hx : x < 4) : s ||| (1 <<< x) < 16 := by
  refine Nat.or_lt_two_pow (n := 4) h ?_
  match x, hx with
  | 0, _ => decide
  | 1, _ => decide
  | 2, _ => decide
  | 3, _ => decide
def someE (m : Market) (l : List Int) : Int := if enterE m m.shops.length l ≠ 0 then enterE m m.shops.length l else match orBits 0 l with | none => 2 | some _ => 0
def someS (l : List Int) : Nat := (orBits 0 l).getD 0
/-- What rooms have and shops want, all in all. -/
def handsTo (m : Market) (most : Bool) : Nat → List Int
  | 0 => List.replicate 8 0
  | i + 1 => (handsTo m most i).set i (match m.rooms[i]? with | some r => if most then r.hi else r.lo | none => 0)
def wantsTo (m : Market) (most : Bool) : Nat → List Int
  | 0 => handsTo m most m.rooms.length
  | i + 1 => (wantsTo m most i).set (3 + i) (match m.shops[i]? with | some s => s.want | none => 0)
def allX (m : Market) (most : Bool) : List Int := wantsTo m most m.shops.length
theorem handsTo_len (m : Market) (b : Bool) : ∀ i, (handsTo m b i).length = 8
  | 0 => rfl
  | i + 1 => by simp [handsTo, handsTo_len m b i]
theorem wantsTo_len (m : Market) (b : Bool) : ∀ i, (wantsTo m b i).length = 8
  | 0 => handsTo_len m b _
  | i + 1 => by simp [wantsTo, wantsTo_len m b i]
theorem allX_len (m : Market) (b : Bool) : (allX m b).length = 8 := wantsTo_len m b _
theorem handsTo_no {m : Market} {i : Nat} (hi : i < m.rooms.length) : (handsTo m false i).set i m.rooms[i].lo = handsTo m false (i + 1) := by simp [handsTo, List.getElem?_eq_getElem hi]
theorem handsTo_yes {m : Market} {i : Nat} (hi : i < m.rooms.length) : ((handsTo m true i).set i m.rooms[i].lo).set i m.rooms[i].hi = handsTo m true (i + 1) := by simp [handsTo, List.getElem?_eq_getElem hi]
theorem wantsTo_succ {m : Market} {b : Bool} {i : Nat} (hi : i < m.shops.length) : (wantsTo m b i).set (3 + i) m.shops[i].want = wantsTo m b (i + 1) := by simp [wantsTo, List.getElem?_eq_getElem hi]
/-- The worst set among the shops of a set: what lacks most, the fewest shops, the first. -/
def worstStep (n sub : Nat) (lk : List Int) (s : List Int × Int) (b : Nat) : List Int × Int :=
  if bitDiff b sub ≠ 0 ∨ lk.getD b 0 < 1 ∨ lk.getD b 0 < s.2 then s else if s.2 < lk.getD b 0 ∨ before (listL b n) s.1 = true then (listL b n, lk.getD b 0) else s
def worstTo (n sub : Nat) (lk : List Int) : Nat → List Int × Int
  | 0 => ([], 0)
  | k + 1 => worstStep n sub lk (worstTo n sub lk k) k
def worst (m : Market) (x : List Int) (sub : Nat) : List Int × Int := worstTo m.shops.length sub (lacksV m x) 16
def servedS (m : Market) (x : List Int) (sub : Nat) : Bool := decide ((worst m x sub).2 = 0)
theorem worstTo_pass {n sub k : Nat} {lk : List Int} (h : bitDiff k sub ≠ 0 ∨ lk.getD k 0 < 1 ∨ lk.getD k 0 < (worstTo n sub lk k).2) : worstTo n sub lk k = worstTo n sub lk (k + 1) := by simp only [worstTo, worstStep]; rw [if_pos h]
theorem worstTo_take {n sub k : Nat} {lk : List Int} (h1 : bitDiff k sub = 0) (h2 : 1 ≤ lk.getD k 0) (h3 : (worstTo n sub lk k).2 ≤ lk.getD k 0) (h : (worstTo n sub lk k).2 < lk.getD k 0 ∨ before (listL k n) (worstTo n sub lk k).1 = true) : (listL k n, lk.getD k 0) = worstTo n sub lk (k + 1) := by
  simp only [worstTo, worstStep]; rw [if_neg (by omega), if_pos h]
theorem worstTo_leave {n sub k : Nat} {lk : List Int} (h1 : bitDiff k sub = 0) (h2 : 1 ≤ lk.getD k 0) (h3 : (worstTo n sub lk k).2 ≤ lk.getD k 0) (h : lk.getD k 0 ≤ (worstTo n sub lk k).2) (h5 : before (listL k n) (worstTo n sub lk k).1 = false) : worstTo n sub lk k = worstTo n sub lk (k + 1) := by
  simp only [worstTo, worstStep]; rw [if_neg (by omega), if_neg (by rw [h5]; simp only [Bool.false_eq_true, or_false]; omega)]
theorem worstTo_pos (n sub : Nat) (lk : List Int) : ∀ k, 0 ≤ (worstTo n sub lk k).2
  | 0 => by simp [worstTo]
  | k + 1 => by
    have := worstTo_pos n sub lk k
    simp only [worstTo, worstStep]
    split
    · exact this
    · split
      · show 0 ≤ lk.getD k 0; omega
      · exact this
theorem worstTo_len (n sub : Nat) (lk : List Int) : ∀ k, (worstTo n sub lk k).1.length ≤ n
  | 0 => by simp [worstTo]
  | k + 1 => by
    have := worstTo_len n sub lk k
    simp only [worstTo, worstStep]
    split
    · exact this
    · split
      · exact listL_le k n
      · exact this
/-- The fewest shops without which all others are servedS, as the program looks for them. -/
def withoutStep (m : Market) (l : List Int) (b : Nat) : List Int :=
  if before (listL b m.shops.length) l && servedS m (allX m false) (bitDiff (1 <<< m.shops.length - 1) b) then listL b m.shops.length else l
def withoutTo (m : Market) : Nat → List Int
  | 0 => listL (1 <<< m.shops.length - 1) m.shops.length
  | k + 1 => withoutStep m (withoutTo m k) k
def withoutL (m : Market) : List Int := withoutTo m (1 <<< m.shops.length - 1)
theorem withoutTo_len (m : Market) : ∀ k, (withoutTo m k).length ≤ m.shops.length
  | 0 => listL_le _ _
  | k + 1 => by
    have := withoutTo_len m k
    simp only [withoutTo, withoutStep]
    split
    · exact listL_le _ _
    · exact this
end Go.Rt.Sh
/- Walks of this seat, printed by gen.py over the engine: what each function returns, in whatever world. No conditions but those of each contract. -/
set_option linter.unusedVariables false
set_option linter.unusedSimpArgs false
set_option maxRecDepth 20000
namespace Go.Proofs
open Go.Rt Go.Rt.Sh
attribute [local irreducible] WL WC Con Yd At Ats Sl Agree DW
theorem Try_E_fb1 (x0 : Int) (w : World) : (Instr.buildSlice 30 1 [(0, .int .i64 x0)].toArray).run Try.prog w = .ok (.slice (some ⟨w.heap.size, 0, none⟩) 1 1) (w.alloc (Go.Rt.blk 3 [.int .i64 x0])) := by kernel_rfl
theorem Try_E_fb2 (x0 : Option Addr) (l0 c0 : Nat) (x1 : Option Addr) (l1 c1 : Nat) (x2 : Option Addr) (l2 c2 : Nat) (x3 : Option Nat) (w : World) : (Instr.build 122 [(0, .agg #[.slice x0 l0 c0, .slice x1 l1 c1, .slice x2 l2 c2]), (1, .map x3)].toArray).run Try.prog w = .ok (.agg #[.slice x0 l0 c0, .slice x1 l1 c1, .slice x2 l2 c2, .map x3]) w := by kernel_rfl
theorem Try_info3 : Try.prog.info? 3 = some Try.t3 := by kernel_rfl
/-- What the memo of a market that is looked at holds. -/
def Memo (m : Market) (mm : Nat) (M : List (Nat × Obj)) : Prop := ∃ es ck, M = [(mm, .map es ck)] ∧ ∀ e ∈ es.toList, ∃ x, x.length = 8 ∧ e.key = ia x ∧ e.val = ia (lacksV m x)
theorem memo_new (m : Market) (mm : Nat) : Memo m mm [(mm, .map #[] 0)] := ⟨#[], 0, rfl, fun e he => by simp at he⟩
/-- A market that lies known in memory. -/
structure MK (w0 : World) (F : List (Nat × Obj)) (m : Market) (p : At3) (mb mm : Nat) : Prop where
  i : MIn w0 F m p
  b : Ats w0 F mb 0 [.slice p.ar m.rooms.length p.cr, .slice p.az m.shops.length p.cs, .slice p.at_ m.trains.length p.ct, .map (some mm)]
  ok : m.Ok
theorem MK.mono {w0 : World} {F F' : List (Nat × Obj)} {m : Market} {p : At3} {mb mm : Nat} (h : MK w0 F m p mb mm) (hs : ∀ w, St w0 w F' → St w0 w F) : MK w0 F' m p mb mm := ⟨h.i.mono hs, h.b.mono hs, h.ok⟩
theorem MK.cons {w0 : World} {F : List (Nat × Obj)} {x : Nat × Obj} {m : Market} {p : At3} {mb mm : Nat} (h : MK w0 F m p mb mm) : MK w0 (x :: F) m p mb mm := h.mono fun _ h => h.tail
theorem MK.app {w0 : World} {F B : List (Nat × Obj)} {m : Market} {p : At3} {mb mm : Nat} (h : MK w0 F m p mb mm) : MK w0 (B ++ F) m p mb mm := h.mono fun _ h => h.drop
theorem two_of_four {w0 w : World} {F : List (Nat × Obj)} {a b c : Nat × Obj} (h : St w0 w (a :: b :: c :: F)) : St w0 w (a :: b :: F) := (h.perm (perm_mid [a, b] [c] F)).tail
theorem _root_.Go.Rt.Sl.top {w0 : World} {B F : List (Nat × Obj)} {a : Option Addr} {sz : Nat} {rows : List (List Value)} (h : Sl w0 B a sz rows) : Sl w0 (B ++ F) a sz rows := h.mono fun _ h => h.front
theorem drop_3rd {w0 w : World} {M F : List (Nat × Obj)} {b c : Nat × Obj} (h : St w0 w (M ++ (b :: c :: F))) : St w0 w (M ++ (b :: F)) := by
  have e : M ++ (b :: c :: F) = (M ++ [b]) ++ ([c] ++ F) := by simp
  rw [e] at h
  have h2 := (h.perm (perm_mid (M ++ [b]) [c] F)).tail
  have e2 : (M ++ [b]) ++ F = M ++ (b :: F) := by simp
  exact e2 ▸ h2
theorem two_front {w0 w : World} {F : List (Nat × Obj)} {a b x : Nat × Obj} (h : St w0 w (a :: b :: x :: F)) : St w0 w (a :: b :: F) := two_of_four h
theorem c65 {w0 w : World} {F : List (Nat × Obj)} (m : Market) (p : At3) (mb mm : Nat) (hk : MK w0 F m p mb mm) (i : Nat) (hi : i < m.trains.length) (hs : St w0 w F) :
  Con Try.prog 65 [.pointer (some ⟨mb, 0, none⟩), .int .i64 i] w fun v w' => v = .bool (leaves m m.trains[i]) ∧ St w0 w' F := by
  refine con_of_wc (n := 44) Try.func65 rfl rfl (Nat.le_of_ble_eq_true rfl) ?_
  obtain ⟨ar, cr, as_, cs, at_, ct⟩ := p
  have hb := hk.b
  have ht := hk.ok.train _ (List.getElem_mem hi)
  have hlr := hk.ok.lr
  have hls := hk.ok.ls
  have hlt := hk.ok.lt
  obtain ⟨bt, ot, rfl, hxt⟩ := sl_trows hk.i.t hi
  have hir : m.trains[i].room.toNat < m.rooms.length := by omega
  have his : m.trains[i].shop.toNat < m.shops.length := by omega
  obtain ⟨br, or_, rfl, hxr⟩ := sl_rrows hk.i.r hir
  obtain ⟨bs, os, rfl, hxs⟩ := sl_srows hk.i.s his
  have hrr := hk.ok.room _ (List.getElem_mem hir)
  have hss := hk.ok.shop _ (List.getElem_mem his)
  refine w_seq (fun K2 hK1 => ?_)
  refine w_region ?_
  refine w_pure want_none (y_assign (v := _) rfl rfl) rfl ?_
  refine w_nil ?_
  refine q_then (hK1 _ _ ?_)
  refine w_seq (fun K4 hK3 => ?_)
  refine w_region ?_
  refine w_pure want_none (y_move (v := .pointer _) rfl rfl) rfl ?_
  refine w_pure want_none (y_nilCheck rfl rfl) rfl ?_
  refine w_pure want_none (y_fieldAddr (o := 0) (i := 0) Try.underlying122 rfl Try.sizeOf26 rfl rfl rfl) rfl ?_
  refine w_pure want_none (y_fieldAddr (o := 2) (i := 2) Try.underlying26 rfl Try.sizeOf24 rfl rfl rfl) rfl ?_
  refine w_pure want_none (y_load1 Try.isAgg24 hs rfl rfl (show Ats _ _ _ _ [_] from Ats.part hb 2 1)) rfl ?_
  refine w_pure want_none (y_move (v := .int _ _) rfl rfl) rfl ?_
  refine w_pure want_none (y_indexS Try.underlying24 Try.sizeOf63 rfl rfl rfl rfl (i := _) rfl (by omega)) rfl ?_
  refine w_pure want_none (y_loadN (vs := [_, _, _, _]) Try.isAgg63 Try.sizeOf63 hs rfl rfl hxt) rfl ?_
  refine w_alloc (cs := [_, _, _, _]) want_none Try.zeroValue63 rfl hs (fun b5 w6 hs7 => ?_)
  refine w_store (i := 0) (v := .agg #[.int _ _, .int _ _, .int _ _, .int _ _]) (vs := [_, _, _, _]) want_none Try.sizeOf63 rfl rfl rfl rfl rfl (by simp [Value.oneCell']) hs7 rfl (Nat.le_of_ble_eq_true rfl) (fun w8 hs9 => ?_)
  refine w_nil ?_
  refine q_then (hK3 _ _ ?_)
  refine w_seq (fun K11 hK10 => ?_)
  refine w_draw [10] [(0, 0), (1, 0), (2, 0), (3, 0), (4, 1), (5, 0), (6, 1), (7, 0), (8, 1), (9, 2), (10, 3)] Try_mo (by kernel_rfl) hs9 (fun w12 hs13 => ?_)
  refine d_any rfl want_none rfl (fun _ => (y_move (v := .pointer _) rfl rfl)) ?_
  refine d_any rfl want_none rfl (fun _ => (y_nilCheck rfl rfl)) ?_
  refine d_any rfl want_none rfl (fun _ => (y_fieldAddr (o := 0) (i := 0) Try.underlying122 rfl Try.sizeOf26 rfl rfl rfl)) ?_
  refine d_any rfl want_none rfl (fun _ => (y_fieldAddr (o := 0) (i := 0) Try.underlying26 rfl Try.sizeOf22 rfl rfl rfl)) ?_
  refine d_take rfl want_none rfl hs13 (fun _ hq => (y_load1 Try.isAgg22 hq.tail rfl rfl (show Ats _ _ _ _ [_] from Ats.part hb 0 1))) ?_
  refine d_any rfl want_none rfl (fun _ => (y_fieldAddr (o := 0) (i := 0) Try.underlying63 rfl Try.sizeOf3 rfl rfl rfl)) ?_
  refine d_take rfl want_none rfl hs13 (fun _ hq => (y_load1 Try.isAgg3 hq rfl rfl (ats_own (i := 0) (vs := [_]) rfl rfl))) ?_
  refine d_any rfl want_none rfl (fun _ => (y_indexS Try.underlying22 Try.sizeOf69 rfl rfl rfl rfl (i := (m.trains[i]'hi).room.toNat) (by omega) (by omega))) ?_
  refine d_take rfl want_none rfl hs13 (fun _ hq => (y_loadN (vs := [_, _, _, _, _]) Try.isAgg69 Try.sizeOf69 hq.tail rfl rfl hxr)) ?_
  refine d_eff rfl ?_
  refine w_alloc (cs := [_, _, _, _, _]) want_none Try.zeroValue69 rfl hs13 (fun b14 w15 hs16 => ?_)
  refine w_nil ?_
  refine qn ⟨hs16.tail, ?_⟩
  refine d_late rfl ?_
  refine w_store (i := 0) (v := .agg #[.string _, .int _ _, .int _ _, .int _ _, .int _ _]) (vs := [_, _, _, _, _]) want_none Try.sizeOf69 rfl rfl rfl rfl rfl (by simp [Value.oneCell']) hs16 rfl (Nat.le_of_ble_eq_true rfl) (fun w17 hs18 => ?_)
  refine w_nil ?_
  refine qn ?_
  refine d_nil ?_
  refine q_then (hK10 _ _ ?_)
  refine w_seq (fun K20 hK19 => ?_)
  refine w_draw [] [(0, 0), (1, 1), (2, 0), (3, 1), (4, 0), (5, 0), (6, 0), (7, 0), (8, 1), (9, 0), (10, 1), (11, 0), (12, 0), (13, 1), (14, 0), (15, 1), (16, 0), (17, 2), (18, 2), (19, 0), (20, 0)] Try_mo (by kernel_rfl) hs18 (fun w21 hs22 => ?_)
  refine d_any rfl want_none rfl (fun _ => (y_fieldAddr (o := 3) (i := 2) Try.underlying69 rfl Try.sizeOf3 rfl rfl rfl)) ?_
  refine d_take rfl want_none rfl hs22 (fun _ hq => (y_load1 Try.isAgg3 hq rfl rfl (ats_own (i := 0) (vs := [_]) rfl rfl))) ?_
  refine d_any rfl want_none rfl (fun _ => (y_fieldAddr (o := 4) (i := 3) Try.underlying69 rfl Try.sizeOf3 rfl rfl rfl)) ?_
  refine d_take rfl want_none rfl hs22 (fun _ hq => (y_load1 Try.isAgg3 hq rfl rfl (ats_own (i := 0) (vs := [_]) rfl rfl))) ?_
  refine d_any rfl want_none rfl (fun _ => (y_move (v := .pointer _) rfl rfl)) ?_
  refine d_any rfl want_none rfl (fun _ => (y_nilCheck rfl rfl)) ?_
  refine d_any rfl want_none rfl (fun _ => (y_fieldAddr (o := 0) (i := 0) Try.underlying122 rfl Try.sizeOf26 rfl rfl rfl)) ?_
  refine d_any rfl want_none rfl (fun _ => (y_fieldAddr (o := 1) (i := 1) Try.underlying26 rfl Try.sizeOf23 rfl rfl rfl)) ?_
  refine d_take rfl want_none rfl hs22 (fun _ hq => (y_load1 Try.isAgg23 hq.tail.tail rfl rfl (show Ats _ _ _ _ [_] from Ats.part hb 1 1))) ?_
  refine d_any rfl want_none rfl (fun _ => (y_fieldAddr (o := 1) (i := 1) Try.underlying63 rfl Try.sizeOf3 rfl rfl rfl)) ?_
  refine d_take rfl want_none rfl hs22 (fun _ hq => (y_load1 Try.isAgg3 hq rfl rfl (ats_own (i := 1) (vs := [_]) rfl rfl))) ?_
  refine d_any rfl want_none rfl (fun _ => (y_indexS Try.underlying23 Try.sizeOf52 rfl rfl rfl rfl (i := (m.trains[i]'hi).shop.toNat) (by omega) (by omega))) ?_
  refine d_any rfl want_none rfl (fun _ => (y_fieldAddr (o := 1) (i := 1) Try.underlying52 rfl Try.sizeOf3 rfl rfl rfl)) ?_
  refine d_take rfl want_none rfl hs22 (fun _ hq => (y_load1 Try.isAgg3 hq.tail.tail rfl rfl (show Ats _ _ _ _ [_] from Ats.part hxs 1 1))) ?_
  refine d_any rfl want_none rfl (fun _ => (y_fieldAddr (o := 2) (i := 2) Try.underlying63 rfl Try.sizeOf3 rfl rfl rfl)) ?_
  refine d_take rfl want_none rfl hs22 (fun _ hq => (y_load1 Try.isAgg3 hq rfl rfl (ats_own (i := 1) (vs := [_]) rfl rfl))) ?_
  refine d_any rfl want_none rfl (fun _ => (y_sub rfl rfl rfl rfl (by omega) (by omega))) ?_
  refine d_eff rfl ?_
  refine w_bslice (ps := [(0, _)]) (pv := [(0, .int _ _)]) (cs := [_]) want_none rfl rfl (fun w => Try_E_fb1 _ w) hs22 (fun b23 w24 hs25 => ?_)
  refine w_nil ?_
  refine qn ⟨hs25.tail, ?_⟩
  refine d_eff rfl ?_
  refine w_call want_none Try.call57 rfl rfl rfl rfl (c57 _ _ _ [_] _ (by simp) (sl_own (i := 0) (rows := [[_]]) rfl (by simp) rfl) hs25) ?_
  rintro _ w27 ⟨rfl, hs28⟩
  refine w_nil ?_
  refine qn ⟨hs28.tail, ?_⟩
  refine d_any rfl want_none rfl (fun _ => (y_not rfl rfl)) ?_
  refine d_any rfl want_none rfl (fun _ => (y_assign (v := .bool _) rfl rfl)) ?_
  refine d_nil ?_
  refine q_then (hK19 _ _ ?_)
  refine w_ret ?_
  refine q_ret (l := [.tmp 4]) (vs := [_]) rfl ⟨⟨rfl, show _ = (.bool _ : Value) from rfl⟩, trivial⟩ ?_
  exact ⟨congrArg Value.bool (by rw [leaves_at hir his]; simp), hs28.tail.tail.tail⟩

theorem c77 {w0 w : World} {F : List (Nat × Obj)} (m : Market) (p : At3) (hs : St w0 w F) :
  Con Try.prog 77 [.agg (m.cells p).toArray] w fun v w' => ∃ mb mm M, v = .pointer (some ⟨mb, 0, none⟩) ∧ Memo m mm M ∧ St w0 w' (M ++ ((mb, blk 122 [.slice p.ar m.rooms.length p.cr, .slice p.az m.shops.length p.cs, .slice p.at_ m.trains.length p.ct, .map (some mm)]) :: F)) := by
  refine con_of_wc (n := 7) Try.func77 rfl rfl (Nat.le_of_ble_eq_true rfl) ?_
  refine w_seq (fun K2 hK1 => ?_)
  refine w_region ?_
  refine w_box (v := .agg #[.slice _ _ _, .slice _ _ _, .slice _ _ _]) (cs := [_, _, _]) want_none rfl rfl rfl hs (fun b3 w4 hs5 => ?_)
  refine w_pure want_none (y_assign (v := _) rfl rfl) rfl ?_
  refine w_nil ?_
  refine q_then (hK1 _ _ ?_)
  refine w_seq (fun K7 hK6 => ?_)
  refine w_region ?_
  refine w_pure want_none (y_loadN (vs := [_, _, _]) Try.isAgg26 Try.sizeOf26 hs5 rfl rfl (ats_own (i := 0) (vs := [_, _, _]) rfl rfl)) rfl ?_
  refine w_makeMap want_none hs5 (fun b8 w9 hs10 => ?_)
  refine w_pure want_none (y_build (ps := [(0, _), (1, _)]) (pv := [(0, .agg #[.slice _ _ _, .slice _ _ _, .slice _ _ _]), (1, .map _)]) rfl rfl (fun w => Try_E_fb2 _ _ _ _ _ _ _ _ _ _ w)) rfl ?_
  refine w_box (v := .agg #[.slice _ _ _, .slice _ _ _, .slice _ _ _, .map _]) (cs := [_, _, _, _]) want_none rfl rfl rfl hs10 (fun b11 w12 hs13 => ?_)
  refine w_pure want_none (y_assign (v := .pointer _) rfl rfl) rfl ?_
  refine w_nil ?_
  refine q_then (hK6 _ _ ?_)
  refine w_ret ?_
  refine q_ret (l := [.tmp 2]) (vs := [_]) rfl ⟨⟨rfl, show _ = (.pointer _ : Value) from rfl⟩, trivial⟩ ?_
  exact ⟨_, _, _, rfl, memo_new m _, (two_front hs13).perm (List.Perm.swap _ _ _)⟩

theorem c64 {w0 w : World} {F : List (Nat × Obj)} (m : Market) (p : At3) (hm : MIn w0 F m p) (n : Int) (hn0 : 0 ≤ n) (hn1 : n ≤ 9223372036854775807) (al : Option Addr) (cl : Nat) (l : List Int) (hll : l.length ≤ 9223372036854775807) (hl : Sl w0 F al 1 (l.map fun x => [Value.int .i64 x]))  (hs : St w0 w F) :
  Con Try.prog 64 [.agg (m.cells p).toArray, .int .i64 n, .slice al l.length cl] w fun v w' => (enterE m n l ≠ 0 ∧ v = .tuple #[.pointer none, .int .i64 (enterE m n l)] ∧ St w0 w' F) ∨ (enterE m n l = 0 ∧ ∃ mb mm M, v = .tuple #[.pointer (some ⟨mb, 0, none⟩), .int .i64 0] ∧ Memo m mm M ∧ St w0 w' (M ++ ((mb, blk 122 [.slice p.ar m.rooms.length p.cr, .slice p.az m.shops.length p.cs, .slice p.at_ m.trains.length p.ct, .map (some mm)]) :: F))) := by
  refine con_of_wc (n := 28) Try.func64 rfl rfl (Nat.le_of_ble_eq_true rfl) ?_
  refine w_seq (fun K2 hK1 => ?_)
  refine w_region ?_
  refine w_box (v := .agg #[.slice _ _ _, .slice _ _ _, .slice _ _ _]) (cs := [_, _, _]) want_none rfl rfl rfl hs (fun b3 w4 hs5 => ?_)
  refine w_pure want_none (y_assign (v := _) rfl rfl) rfl ?_
  refine w_pure want_none (y_assign (v := _) rfl rfl) rfl ?_
  refine w_nil ?_
  refine q_then (hK1 _ _ ?_)
  refine w_seq (fun K7 hK6 => ?_)
  refine w_region ?_
  refine w_pure want_none (y_loadN (vs := [_, _, _]) Try.isAgg26 Try.sizeOf26 hs5 rfl rfl (ats_own (i := 0) (vs := [_, _, _]) rfl rfl)) rfl ?_
  refine w_call want_none Try.call16 rfl rfl rfl rfl (c16 m _ hm.cons hs5) ?_
  rintro _ w9 ⟨rfl, hs10⟩
  refine w_pure want_none (y_move (v := .tuple _) rfl rfl) rfl ?_
  refine w_pure want_none (y_extract (v := .int _ _) rfl rfl rfl) rfl ?_
  refine w_pure want_none (y_extract (v := .int _ _) rfl rfl rfl) rfl ?_
  refine w_pure want_none (y_extract (v := .int _ _) rfl rfl rfl) rfl ?_
  refine w_pure want_none (y_assign (v := .int _ _) rfl rfl) rfl ?_
  refine w_pure want_none (y_assign (v := .int _ _) rfl rfl) rfl ?_
  refine w_pure want_none (y_assign (v := .int _ _) rfl rfl) rfl ?_
  refine w_nil ?_
  refine q_then (hK6 _ _ ?_)
  refine w_seq (fun K12 hK11 => ?_)
  refine w_block ?_
  refine w_seq (fun K14 hK13 => ?_)
  refine w_region ?_
  refine w_pure want_none (y_move (v := .int _ _) rfl rfl) rfl ?_
  refine w_pure want_none (y_neq rfl rfl rfl rfl) rfl ?_
  refine w_pure want_none (y_assign (v := .bool _) rfl rfl) rfl ?_
  refine w_nil ?_
  refine q_then (hK13 _ _ ?_)
  refine w_cond rfl rfl (fun h15 => ?_) (fun h15 => ?_)
  ·
   try simp only [Bool.not_eq_true', Bool.not_eq_false', decide_eq_true_eq, decide_eq_false_iff_not, Int.not_lt, Int.not_le] at h15
   refine w_seq (fun K17 hK16 => ?_)
   refine w_region ?_
   refine w_pure want_none (y_move (v := .int _ _) rfl rfl) rfl ?_
   refine w_pure want_none (y_assign (v := _) rfl rfl) rfl ?_
   refine w_pure want_none (y_assign (v := .int _ _) rfl rfl) rfl ?_
   refine w_nil ?_
   refine q_then (hK16 _ _ ?_)
   refine w_ret ?_
   refine q_blk_ret ?_
   refine q_then_ret ?_
   refine q_ret (l := [.tmp 6, .tmp 7]) (vs := [_, _]) rfl ⟨⟨rfl, show _ = (.pointer _ : Value) from rfl⟩, ⟨rfl, show _ = (.int _ _ : Value) from rfl⟩, trivial⟩ ?_
   first
     | exact .inl ⟨by rw [enterE_1 (by assumption)]; assumption, by rw [enterE_1 (by assumption)]; rfl, hs10.tail⟩
     | exact .inl ⟨by rw [enterE_2 (by assumption) (by assumption)]; decide, by rw [enterE_2 (by assumption) (by assumption)]; rfl, hs10.tail⟩
     | exact .inr ⟨enterE_0 (by assumption) (by assumption), mb, mm, M, rfl, hM, drop_3rd hs10⟩
  ·
   try simp only [Bool.not_eq_true', Bool.not_eq_false', decide_eq_true_eq, decide_eq_false_iff_not, Int.not_lt, Int.not_le] at h15
   refine w_seq (fun K19 hK18 => ?_)
   refine w_region ?_
   refine w_pure want_none (y_move (v := .int _ _) rfl rfl) rfl ?_
   refine w_pure want_none (y_sub rfl rfl rfl rfl (by omega) (by omega)) rfl ?_
   refine w_pure want_none (y_move (v := .slice _ _ _) rfl rfl) rfl ?_
   refine w_call want_none Try.call57 rfl rfl rfl rfl (c57 _ _ _ _ _ (by omega) hl.cons hs10) ?_
   rintro _ w21 ⟨rfl, hs22⟩
   refine w_pure want_none (y_assign (v := .bool _) rfl rfl) rfl ?_
   refine w_nil ?_
   refine q_then (hK18 _ _ ?_)
   refine w_cond rfl rfl (fun h23 => ?_) (fun h23 => ?_)
   ·
    try simp only [Bool.not_eq_true', Bool.not_eq_false', decide_eq_true_eq, decide_eq_false_iff_not, Int.not_lt, Int.not_le] at h23
    refine w_seq (fun K25 hK24 => ?_)
    refine w_region ?_
    refine w_pure want_none (y_assign (v := _) rfl rfl) rfl ?_
    refine w_pure want_none (y_assign (v := _) rfl rfl) rfl ?_
    refine w_nil ?_
    refine q_then (hK24 _ _ ?_)
    refine w_ret ?_
    refine q_blk_ret ?_
    refine q_then_ret ?_
    refine q_ret (l := [.tmp 6, .tmp 7]) (vs := [_, _]) rfl ⟨⟨rfl, show _ = (.pointer _ : Value) from rfl⟩, ⟨rfl, show _ = (.int _ _ : Value) from rfl⟩, trivial⟩ ?_
    first
      | exact .inl ⟨by rw [enterE_1 (by assumption)]; assumption, by rw [enterE_1 (by assumption)]; rfl, hs22.tail⟩
      | exact .inl ⟨by rw [enterE_2 (by assumption) (by assumption)]; decide, by rw [enterE_2 (by assumption) (by assumption)]; rfl, hs22.tail⟩
      | exact .inr ⟨enterE_0 (by assumption) (by assumption), mb, mm, M, rfl, hM, drop_3rd hs22⟩
   ·
    try simp only [Bool.not_eq_true', Bool.not_eq_false', decide_eq_true_eq, decide_eq_false_iff_not, Int.not_lt, Int.not_le] at h23
    refine w_skip ?_
    refine q_blk_normal ?_
    refine q_then (hK11 _ _ ?_)
    refine w_seq (fun K27 hK26 => ?_)
    refine w_region ?_
    refine w_pure want_none (y_loadN (vs := [_, _, _]) Try.isAgg26 Try.sizeOf26 hs22 rfl rfl (ats_own (i := 0) (vs := [_, _, _]) rfl rfl)) rfl ?_
    refine w_call want_none Try.call77 rfl rfl rfl rfl (c77 m p hs22) ?_
    rintro _ w29 ⟨mb, mm, M, rfl, hM, hs30⟩
    replace hs30 := (show St _ _ (M ++ (_ :: _ :: F)) from hs30)
    refine w_pure want_none (y_assign (v := .pointer _) rfl rfl) rfl ?_
    refine w_pure want_none (y_assign (v := _) rfl rfl) rfl ?_
    refine w_nil ?_
    refine q_then (hK26 _ _ ?_)
    refine w_ret ?_
    refine q_ret (l := [.tmp 6, .tmp 7]) (vs := [_, _]) rfl ⟨⟨rfl, show _ = (.pointer _ : Value) from rfl⟩, ⟨rfl, show _ = (.int _ _ : Value) from rfl⟩, trivial⟩ ?_
    first
      | exact .inl ⟨by rw [enterE_1 (by assumption)]; assumption, by rw [enterE_1 (by assumption)]; rfl, hs30.drop.tail.tail⟩
      | exact .inl ⟨by rw [enterE_2 (by assumption) (by assumption)]; decide, by rw [enterE_2 (by assumption) (by assumption)]; rfl, hs30.drop.tail.tail⟩
      | exact .inr ⟨enterE_0 (by assumption) (by assumption), mb, mm, M, rfl, hM, drop_3rd hs30⟩

theorem c102 {w0 w : World} {F : List (Nat × Obj)} (x : Int) (hs : St w0 w F) :
  Con Try.prog 102 [.int .i64 x] w fun v w' => v = .bool false ∧ St w0 w' F := by
  refine con_of_wc (n := 6) Try.func102 rfl rfl (Nat.le_of_ble_eq_true rfl) ?_
  refine w_seq (fun K2 hK1 => ?_)
  refine w_region ?_
  refine w_pure want_none (y_assign (v := _) rfl rfl) rfl ?_
  refine w_nil ?_
  refine q_then (hK1 _ _ ?_)
  refine w_seq (fun K4 hK3 => ?_)
  refine w_region ?_
  refine w_pure want_none (y_move (v := .int _ _) rfl rfl) rfl ?_
  refine w_pure want_none (y_move (v := .int _ _) rfl rfl) rfl ?_
  refine w_pure want_none (y_neq rfl rfl rfl rfl) rfl ?_
  refine w_pure want_none (y_assign (v := .bool _) rfl rfl) rfl ?_
  refine w_nil ?_
  refine q_then (hK3 _ _ ?_)
  refine w_ret ?_
  refine q_ret (l := [.tmp 2]) (vs := [_]) rfl ⟨⟨rfl, show _ = (.bool _ : Value) from rfl⟩, trivial⟩ ?_
  exact ⟨by simp [retV], hs⟩

def cmpI (a b : Int) : Int := if a < b then -1 else if b < a then 1 else 0
theorem c101 {w0 w : World} {F : List (Nat × Obj)} (a b : Int) (hs : St w0 w F) :
  Con Try.prog 101 [.int .i64 a, .int .i64 b] w fun v w' => v = .int .i64 (cmpI a b) ∧ St w0 w' F := by
  refine con_of_wc (n := 20) Try.func101 rfl rfl (Nat.le_of_ble_eq_true rfl) ?_
  refine w_seq (fun K2 hK1 => ?_)
  refine w_region ?_
  refine w_pure want_none (y_assign (v := _) rfl rfl) rfl ?_
  refine w_nil ?_
  refine q_then (hK1 _ _ ?_)
  refine w_seq (fun K4 hK3 => ?_)
  refine w_region ?_
  refine w_pure want_none (y_move (v := .int _ _) rfl rfl) rfl ?_
  refine w_call want_none Try.call102 rfl rfl rfl rfl (c102 _ hs) ?_
  rintro _ w6 ⟨rfl, hs7⟩
  refine w_pure want_none (y_assign (v := .bool _) rfl rfl) rfl ?_
  refine w_nil ?_
  refine q_then (hK3 _ _ ?_)
  refine w_seq (fun K9 hK8 => ?_)
  refine w_region ?_
  refine w_pure want_none (y_move (v := .int _ _) rfl rfl) rfl ?_
  refine w_call want_none Try.call102 rfl rfl rfl rfl (c102 _ hs7) ?_
  rintro _ w11 ⟨rfl, hs12⟩
  refine w_pure want_none (y_assign (v := .bool _) rfl rfl) rfl ?_
  refine w_nil ?_
  refine q_then (hK8 _ _ ?_)
  refine w_seq (fun K14 hK13 => ?_)
  refine w_seq (fun K16 hK15 => ?_)
  refine w_region ?_
  refine w_pure want_none (y_move (v := .bool _) rfl rfl) rfl ?_
  refine w_nil ?_
  refine q_then (hK15 _ _ ?_)
  refine w_condF rfl rfl ?_
  refine w_skip ?_
  refine q_then (hK13 _ _ ?_)
  refine w_seq (fun K18 hK17 => ?_)
  refine w_seq (fun K20 hK19 => ?_)
  refine w_region ?_
  refine w_pure want_none (y_move (v := .bool _) rfl rfl) rfl ?_
  refine w_nil ?_
  refine q_then (hK19 _ _ ?_)
  refine w_condF rfl rfl ?_
  refine w_skip ?_
  refine q_then (hK17 _ _ ?_)
  refine w_seq (fun K22 hK21 => ?_)
  refine w_seq (fun K24 hK23 => ?_)
  refine w_region ?_
  refine w_pure want_none (y_move (v := .int _ _) rfl rfl) rfl ?_
  refine w_pure want_none (y_move (v := .int _ _) rfl rfl) rfl ?_
  refine w_pure want_none (y_lss rfl rfl rfl rfl) rfl ?_
  refine w_nil ?_
  refine q_then (hK23 _ _ ?_)
  refine w_cond rfl rfl (fun h25 => ?_) (fun h25 => ?_)
  ·
   try simp only [Bool.not_eq_true', Bool.not_eq_false', decide_eq_true_eq, decide_eq_false_iff_not, Int.not_lt, Int.not_le] at h25
   refine w_seq (fun K27 hK26 => ?_)
   refine w_region ?_
   refine w_pure want_none (y_assign (v := _) rfl rfl) rfl ?_
   refine w_nil ?_
   refine q_then (hK26 _ _ ?_)
   refine w_ret ?_
   refine q_then_ret ?_
   refine q_ret (l := [.tmp 4]) (vs := [_]) rfl ⟨⟨rfl, show _ = (.int _ _ : Value) from rfl⟩, trivial⟩ ?_
   exact ⟨congrArg (Value.int .i64) (by unfold cmpI; (repeat' split) <;> first | rfl | omega), hs12⟩
  ·
   try simp only [Bool.not_eq_true', Bool.not_eq_false', decide_eq_true_eq, decide_eq_false_iff_not, Int.not_lt, Int.not_le] at h25
   refine w_skip ?_
   refine q_then (hK21 _ _ ?_)
   refine w_seq (fun K29 hK28 => ?_)
   refine w_seq (fun K31 hK30 => ?_)
   refine w_region ?_
   refine w_pure want_none (y_move (v := .int _ _) rfl rfl) rfl ?_
   refine w_pure want_none (y_move (v := .int _ _) rfl rfl) rfl ?_
   refine w_pure want_none (y_gtr rfl rfl rfl rfl) rfl ?_
   refine w_nil ?_
   refine q_then (hK30 _ _ ?_)
   refine w_cond rfl rfl (fun h32 => ?_) (fun h32 => ?_)
   ·
    try simp only [Bool.not_eq_true', Bool.not_eq_false', decide_eq_true_eq, decide_eq_false_iff_not, Int.not_lt, Int.not_le] at h32
    refine w_seq (fun K34 hK33 => ?_)
    refine w_region ?_
    refine w_pure want_none (y_assign (v := _) rfl rfl) rfl ?_
    refine w_nil ?_
    refine q_then (hK33 _ _ ?_)
    refine w_ret ?_
    refine q_then_ret ?_
    refine q_ret (l := [.tmp 4]) (vs := [_]) rfl ⟨⟨rfl, show _ = (.int _ _ : Value) from rfl⟩, trivial⟩ ?_
    exact ⟨congrArg (Value.int .i64) (by unfold cmpI; (repeat' split) <;> first | rfl | omega), hs12⟩
   ·
    try simp only [Bool.not_eq_true', Bool.not_eq_false', decide_eq_true_eq, decide_eq_false_iff_not, Int.not_lt, Int.not_le] at h32
    refine w_skip ?_
    refine q_then (hK28 _ _ ?_)
    refine w_seq (fun K36 hK35 => ?_)
    refine w_region ?_
    refine w_pure want_none (y_assign (v := _) rfl rfl) rfl ?_
    refine w_nil ?_
    refine q_then (hK35 _ _ ?_)
    refine w_ret ?_
    refine q_ret (l := [.tmp 4]) (vs := [_]) rfl ⟨⟨rfl, show _ = (.int _ _ : Value) from rfl⟩, trivial⟩ ?_
    exact ⟨congrArg (Value.int .i64) (by unfold cmpI; (repeat' split) <;> first | rfl | omega), hs12⟩

theorem cmp_here {a b : List Int} {i : Nat} (h : a.take i = b.take i) (ha : i < a.length) (hb : i < b.length) (hne : ¬ cmpI a[i] b[i] = 0) : decide (cmpI a[i] b[i] < 0) = less a b := by
  have hn : a[i] ≠ b[i] := fun e => hne (by unfold cmpI; rw [e]; simp)
  rw [less_here h ha hb hn]
  unfold cmpI
  rw [Bool.eq_iff_iff]
  simp only [decide_eq_true_eq]
  split
  · simp [*]
  · split <;> simp <;> omega
theorem cmp_zero {a b : Int} (h : cmpI a b = 0) : a = b := by
  unfold cmpI at h
  split at h
  · omega
  · split at h <;> omega
theorem c99 {w0 w : World} {F : List (Nat × Obj)} (aa ab : Option Addr) (a b : List Int) (ca cb : Nat) (hla : a.length ≤ 9223372036854775807) (hlb : b.length ≤ 9223372036854775807) (ha : Sl w0 F aa 1 (a.map fun x => [Value.int .i64 x])) (hb : Sl w0 F ab 1 (b.map fun x => [Value.int .i64 x])) (hs : St w0 w F) :
  Con Try.prog 99 [.slice aa a.length ca, .slice ab b.length cb] w fun v w' => (∃ z, v = .int .i64 z ∧ decide (z < 0) = less a b) ∧ St w0 w' F := by
  refine con_of_wc (n := 36) Try.func99 rfl rfl (Nat.le_of_ble_eq_true rfl) ?_
  refine w_seq (fun K2 hK1 => ?_)
  refine w_region ?_
  refine w_pure want_none (y_assign (v := _) rfl rfl) rfl ?_
  refine w_nil ?_
  refine q_then (hK1 _ _ ?_)
  refine w_seq (fun K4 hK3 => ?_)
  refine w_seq (fun K6 hK5 => ?_)
  refine w_region ?_
  refine w_pure want_none (y_move (v := .slice _ _ _) rfl rfl) rfl ?_
  refine w_pure want_none (y_lenS Try.underlying30 rfl rfl) rfl ?_
  refine w_pure want_none (y_move (v := _) rfl rfl) rfl ?_
  refine w_nil ?_
  refine q_then (hK5 _ _ ?_)
  refine w_block ?_
  refine w_loop [4, 5, 6, 7, 8, 11, 12, 13, 14, 15, 16, 17, 18, 19, 20, 21, 22, 23, 24, 25, 26, 27, 28, 29, 30] [11] (fun k vs w => ∃ i : Nat, vs = [.int .i64 i] ∧ i ≤ a.length ∧ i ≤ b.length ∧ k = a.length - i ∧ a.take i = b.take i ∧ St w0 w F) (a.length) ?_ ?_
  ·
   exact ⟨0, rfl, by omega, by omega, by omega, rfl, hs⟩
  ·
   intro k vs μ w9 hI K8 hN7
   obtain ⟨i, rfl, hia, hib, rfl, hpre, hs⟩ := hI
   refine w_seq (fun K11 hK10 => ?_)
   refine w_region ?_
   refine w_pure want_none (y_lss rfl rfl rfl rfl) rfl ?_
   refine w_nil ?_
   refine q_then (hK10 _ _ ?_)
   refine w_seq (fun K13 hK12 => ?_)
   refine w_cond rfl rfl (fun h14 => ?_) (fun h14 => ?_)
   ·
    try simp only [Bool.not_eq_true', Bool.not_eq_false', decide_eq_true_eq, decide_eq_false_iff_not, Int.not_lt, Int.not_le] at h14
    refine w_skip ?_
    refine q_then (hK12 _ _ ?_)
    refine w_seq (fun K16 hK15 => ?_)
    refine w_block ?_
    refine w_seq (fun K18 hK17 => ?_)
    have hia2 : i < a.length := by omega
    obtain ⟨ba, oa, rfl, hxa⟩ := sl_ints ha hia2
    refine w_region ?_
    refine w_pure want_none (y_move (v := .int _ _) rfl rfl) rfl ?_
    refine w_pure want_none (y_indexS Try.underlying30 Try.sizeOf3 rfl rfl rfl rfl (i := _) rfl (by omega)) rfl ?_
    refine w_pure want_none (y_load1 Try.isAgg3 hs rfl rfl hxa) rfl ?_
    refine w_pure want_none (y_assign (v := .int _ _) rfl rfl) rfl ?_
    refine w_pure want_none (y_assign (v := .int _ _) rfl rfl) rfl ?_
    refine w_nil ?_
    refine q_then (hK17 _ _ ?_)
    refine w_seq (fun K20 hK19 => ?_)
    refine w_seq (fun K22 hK21 => ?_)
    refine w_region ?_
    refine w_pure want_none (y_move (v := .int _ _) rfl rfl) rfl ?_
    refine w_pure want_none (y_move (v := .slice _ _ _) rfl rfl) rfl ?_
    refine w_pure want_none (y_lenS Try.underlying30 rfl rfl) rfl ?_
    refine w_pure want_none (y_geq rfl rfl rfl rfl) rfl ?_
    refine w_nil ?_
    refine q_then (hK21 _ _ ?_)
    refine w_cond rfl rfl (fun h23 => ?_) (fun h23 => ?_)
    ·
     try simp only [Bool.not_eq_true', Bool.not_eq_false', decide_eq_true_eq, decide_eq_false_iff_not, Int.not_lt, Int.not_le] at h23
     refine w_seq (fun K25 hK24 => ?_)
     refine w_region ?_
     refine w_pure want_none (y_assign (v := _) rfl rfl) rfl ?_
     refine w_nil ?_
     refine q_then (hK24 _ _ ?_)
     refine w_ret ?_
     refine q_then_ret ?_
     refine q_blk_ret ?_
     refine q_then_ret ?_
     refine q_then_ret ?_
     refine q_blk_ret ?_
     refine q_then_ret ?_
     refine q_ret (l := [.tmp 4]) (vs := [_]) rfl ⟨⟨rfl, show _ = (.int _ _ : Value) from rfl⟩, trivial⟩ ?_
     first
       | exact ⟨⟨_, rfl, cmp_here hpre hia2 hib2 (by assumption)⟩, hs⟩
       | exact ⟨⟨_, rfl, by rw [less_end hpre hia (by omega)]; rfl⟩, hs⟩
       | exact ⟨⟨_, rfl, by rw [less_short hpre (by omega) (by omega)]; rfl⟩, hs⟩
    ·
     try simp only [Bool.not_eq_true', Bool.not_eq_false', decide_eq_true_eq, decide_eq_false_iff_not, Int.not_lt, Int.not_le] at h23
     refine w_skip ?_
     refine q_then (hK19 _ _ ?_)
     refine w_seq (fun K27 hK26 => ?_)
     have hib2 : i < b.length := by omega
     obtain ⟨bb, ob, rfl, hxb⟩ := sl_ints hb hib2
     refine w_region ?_
     refine w_pure want_none (y_move (v := .slice _ _ _) rfl rfl) rfl ?_
     refine w_pure want_none (y_move (v := .int _ _) rfl rfl) rfl ?_
     refine w_pure want_none (y_indexS Try.underlying30 Try.sizeOf3 rfl rfl rfl rfl (i := _) rfl (by omega)) rfl ?_
     refine w_pure want_none (y_load1 Try.isAgg3 hs rfl rfl hxb) rfl ?_
     refine w_pure want_none (y_assign (v := .int _ _) rfl rfl) rfl ?_
     refine w_nil ?_
     refine q_then (hK26 _ _ ?_)
     refine w_seq (fun K29 hK28 => ?_)
     refine w_region ?_
     refine w_pure want_none (y_move (v := .int _ _) rfl rfl) rfl ?_
     refine w_pure want_none (y_move (v := .int _ _) rfl rfl) rfl ?_
     refine w_call want_none Try.call101 rfl rfl rfl rfl (c101 _ _ hs) ?_
     rintro _ w31 ⟨rfl, hs32⟩
     refine w_pure want_none (y_assign (v := .int _ _) rfl rfl) rfl ?_
     refine w_nil ?_
     refine q_then (hK28 _ _ ?_)
     refine w_seq (fun K34 hK33 => ?_)
     refine w_region ?_
     refine w_pure want_none (y_move (v := .int _ _) rfl rfl) rfl ?_
     refine w_pure want_none (y_neq rfl rfl rfl rfl) rfl ?_
     refine w_nil ?_
     refine q_then (hK33 _ _ ?_)
     refine w_cond rfl rfl (fun h35 => ?_) (fun h35 => ?_)
     ·
      try simp only [Bool.not_eq_true', Bool.not_eq_false', decide_eq_true_eq, decide_eq_false_iff_not, Int.not_lt, Int.not_le] at h35
      refine w_seq (fun K37 hK36 => ?_)
      refine w_region ?_
      refine w_pure want_none (y_move (v := .int _ _) rfl rfl) rfl ?_
      refine w_pure want_none (y_assign (v := .int _ _) rfl rfl) rfl ?_
      refine w_nil ?_
      refine q_then (hK36 _ _ ?_)
      refine w_ret ?_
      refine q_blk_ret ?_
      refine q_then_ret ?_
      refine q_then_ret ?_
      refine q_blk_ret ?_
      refine q_then_ret ?_
      refine q_ret (l := [.tmp 4]) (vs := [_]) rfl ⟨⟨rfl, show _ = (.int _ _ : Value) from rfl⟩, trivial⟩ ?_
      first
        | exact ⟨⟨_, rfl, cmp_here hpre hia2 hib2 (by assumption)⟩, hs32⟩
        | exact ⟨⟨_, rfl, by rw [less_end hpre hia (by omega)]; rfl⟩, hs32⟩
        | exact ⟨⟨_, rfl, by rw [less_short hpre (by omega) (by omega)]; rfl⟩, hs32⟩
     ·
      try simp only [Bool.not_eq_true', Bool.not_eq_false', decide_eq_true_eq, decide_eq_false_iff_not, Int.not_lt, Int.not_le] at h35
      refine w_skip ?_
      refine q_blk_normal ?_
      refine q_then (hK15 _ _ ?_)
      refine w_region ?_
      refine w_pure want_none (y_add rfl rfl rfl rfl (by omega) (by omega)) rfl ?_
      refine w_pure want_none (y_move (v := .int _ _) rfl rfl) rfl ?_
      refine w_nil ?_
      refine q_then (hN7 _ _ (Nx.intro (a.length - (i + 1)) (by omega) (by repeat (first | exact agree_mix | refine agree_upd rfl ?_ | refine agree_updL rfl ?_ _ | refine agree_mixin rfl ?_)) ?_))
      exact ⟨i + 1, rfl, by omega, by omega, rfl, take_snoc_eq hpre (by omega) (by omega) (cmp_zero (by assumption)), hs32⟩
   ·
    try simp only [Bool.not_eq_true', Bool.not_eq_false', decide_eq_true_eq, decide_eq_false_iff_not, Int.not_lt, Int.not_le] at h14
    refine w_exit ?_
    refine q_then_exit ?_
    refine q_then_exit ?_
    refine q_blk_this ?_
    refine q_then (hK3 _ _ ?_)
    refine w_seq (fun K39 hK38 => ?_)
    refine w_seq (fun K41 hK40 => ?_)
    refine w_region ?_
    refine w_pure want_none (y_move (v := .slice _ _ _) rfl rfl) rfl ?_
    refine w_pure want_none (y_lenS Try.underlying30 rfl rfl) rfl ?_
    refine w_pure want_none (y_move (v := .slice _ _ _) rfl rfl) rfl ?_
    refine w_pure want_none (y_lenS Try.underlying30 rfl rfl) rfl ?_
    refine w_pure want_none (y_lss rfl rfl rfl rfl) rfl ?_
    refine w_nil ?_
    refine q_then (hK40 _ _ ?_)
    refine w_cond rfl rfl (fun h42 => ?_) (fun h42 => ?_)
    ·
     try simp only [Bool.not_eq_true', Bool.not_eq_false', decide_eq_true_eq, decide_eq_false_iff_not, Int.not_lt, Int.not_le] at h42
     refine w_seq (fun K44 hK43 => ?_)
     refine w_region ?_
     refine w_pure want_none (y_assign (v := _) rfl rfl) rfl ?_
     refine w_nil ?_
     refine q_then (hK43 _ _ ?_)
     refine w_ret ?_
     refine q_then_ret ?_
     refine q_ret (l := [.tmp 4]) (vs := [_]) rfl ⟨⟨rfl, show _ = (.int _ _ : Value) from rfl⟩, trivial⟩ ?_
     first
       | exact ⟨⟨_, rfl, cmp_here hpre hia2 hib2 (by assumption)⟩, hs⟩
       | exact ⟨⟨_, rfl, by rw [less_end hpre hia (by omega)]; rfl⟩, hs⟩
       | exact ⟨⟨_, rfl, by rw [less_short hpre (by omega) (by omega)]; rfl⟩, hs⟩
    ·
     try simp only [Bool.not_eq_true', Bool.not_eq_false', decide_eq_true_eq, decide_eq_false_iff_not, Int.not_lt, Int.not_le] at h42
     refine w_skip ?_
     refine q_then (hK38 _ _ ?_)
     refine w_seq (fun K46 hK45 => ?_)
     refine w_region ?_
     refine w_pure want_none (y_assign (v := _) rfl rfl) rfl ?_
     refine w_nil ?_
     refine q_then (hK45 _ _ ?_)
     refine w_ret ?_
     refine q_ret (l := [.tmp 4]) (vs := [_]) rfl ⟨⟨rfl, show _ = (.int _ _ : Value) from rfl⟩, trivial⟩ ?_
     first
       | exact ⟨⟨_, rfl, cmp_here hpre hia2 hib2 (by assumption)⟩, hs⟩
       | exact ⟨⟨_, rfl, by rw [less_end hpre hia (by omega)]; rfl⟩, hs⟩
       | exact ⟨⟨_, rfl, by rw [less_short hpre (by omega) (by omega)]; rfl⟩, hs⟩

theorem c91 {w0 w : World} {F : List (Nat × Obj)} (aa ab : Option Addr) (a b : List Int) (ca cb : Nat) (hla : a.length ≤ 9223372036854775807) (hlb : b.length ≤ 9223372036854775807) (ha : Sl w0 F aa 1 (a.map fun x => [Value.int .i64 x])) (hb : Sl w0 F ab 1 (b.map fun x => [Value.int .i64 x])) (hs : St w0 w F) :
  Con Try.prog 91 [.slice aa a.length ca, .slice ab b.length cb] w fun v w' => v = .bool (before a b) ∧ St w0 w' F := by
  refine con_of_wc (n := 23) Try.func91 rfl rfl (Nat.le_of_ble_eq_true rfl) ?_
  refine w_seq (fun K2 hK1 => ?_)
  refine w_region ?_
  refine w_pure want_none (y_assign (v := _) rfl rfl) rfl ?_
  refine w_nil ?_
  refine q_then (hK1 _ _ ?_)
  refine w_seq (fun K4 hK3 => ?_)
  refine w_region ?_
  refine w_pure want_none (y_move (v := .slice _ _ _) rfl rfl) rfl ?_
  refine w_pure want_none (y_lenS Try.underlying30 rfl rfl) rfl ?_
  refine w_pure want_none (y_move (v := .slice _ _ _) rfl rfl) rfl ?_
  refine w_pure want_none (y_lenS Try.underlying30 rfl rfl) rfl ?_
  refine w_pure want_none (y_lss rfl rfl rfl rfl) rfl ?_
  refine w_pure want_none (y_move (v := .bool _) rfl rfl) rfl ?_
  refine w_split (fun h5 => ?_) (fun h5 => ?_)
  ·
   try simp only [Bool.not_eq_true', Bool.not_eq_false', decide_eq_true_eq, decide_eq_false_iff_not, Int.not_lt, Int.not_le] at h5
   refine w_skipop rfl rfl rfl ?_
   refine w_skipop rfl rfl rfl ?_
   refine w_skipop rfl rfl rfl ?_
   refine w_skipop rfl rfl rfl ?_
   refine w_skipop rfl rfl rfl ?_
   refine w_skipop rfl rfl rfl ?_
   refine w_skipop' rfl rfl rfl ?_
   refine w_skipop' rfl rfl rfl ?_
   refine w_skipop' rfl rfl rfl ?_
   refine w_skipop' rfl rfl rfl ?_
   refine w_skipop rfl rfl rfl ?_
   refine w_pure want_none (y_pickT (v := _) rfl rfl rfl rfl) rfl ?_
   refine w_pure want_none (y_assign (v := .bool _) rfl rfl) rfl ?_
   refine w_nil ?_
   refine q_then (hK3 _ _ ?_)
   refine w_ret ?_
   refine q_ret (l := [.tmp 4]) (vs := [_]) rfl ⟨⟨rfl, show _ = (.bool _ : Value) from rfl⟩, trivial⟩ ?_
   exact ⟨congrArg Value.bool (by unfold before; (try rw [← hz]); (try clear hz); rw [Bool.eq_iff_iff]; simp [*] <;> omega), hs⟩
  ·
   try simp only [Bool.not_eq_true', Bool.not_eq_false', decide_eq_true_eq, decide_eq_false_iff_not, Int.not_lt, Int.not_le] at h5
   refine w_pure (want_yes rfl rfl rfl) (y_move (v := .slice _ _ _) rfl rfl) rfl ?_
   refine w_pure (want_yes rfl rfl rfl) (y_lenS Try.underlying30 rfl rfl) rfl ?_
   refine w_pure (want_yes rfl rfl rfl) (y_move (v := .slice _ _ _) rfl rfl) rfl ?_
   refine w_pure (want_yes rfl rfl rfl) (y_lenS Try.underlying30 rfl rfl) rfl ?_
   refine w_pure (want_yes rfl rfl rfl) (y_eql rfl rfl rfl rfl) rfl ?_
   refine w_pure (want_yes rfl rfl rfl) (y_move (v := .bool _) rfl rfl) rfl ?_
   refine w_split (fun h6 => ?_) (fun h6 => ?_)
   ·
    try simp only [Bool.not_eq_true', Bool.not_eq_false', decide_eq_true_eq, decide_eq_false_iff_not, Int.not_lt, Int.not_le] at h6
    refine w_pure (want_yes rfl rfl rfl) (y_move (v := .slice _ _ _) rfl rfl) rfl ?_
    refine w_pure (want_yes rfl rfl rfl) (y_move (v := .slice _ _ _) rfl rfl) rfl ?_
    refine w_call (want_yes rfl rfl rfl) Try.call99 rfl rfl rfl rfl (c99 _ _ _ _ _ _ (by omega) (by omega) (by assumption) (by assumption) hs) ?_
    rintro _ w8 ⟨⟨z, rfl, hz⟩, hs9⟩
    refine w_pure (want_yes rfl rfl rfl) (y_lss rfl rfl rfl rfl) rfl ?_
    refine w_pure (want_yes rfl rfl rfl) (y_pickT (v := .bool _) rfl rfl rfl rfl) rfl ?_
    refine w_pure want_none (y_pickF (v := .bool _) rfl rfl rfl rfl) rfl ?_
    refine w_pure want_none (y_assign (v := .bool _) rfl rfl) rfl ?_
    refine w_nil ?_
    refine q_then (hK3 _ _ ?_)
    refine w_ret ?_
    refine q_ret (l := [.tmp 4]) (vs := [_]) rfl ⟨⟨rfl, show _ = (.bool _ : Value) from rfl⟩, trivial⟩ ?_
    exact ⟨congrArg Value.bool (by unfold before; (try rw [← hz]); (try clear hz); rw [Bool.eq_iff_iff]; simp [*] <;> omega), hs9⟩
   ·
    try simp only [Bool.not_eq_true', Bool.not_eq_false', decide_eq_true_eq, decide_eq_false_iff_not, Int.not_lt, Int.not_le] at h6
    refine w_skipop rfl rfl rfl ?_
    refine w_skipop rfl rfl rfl ?_
    refine w_skipop rfl rfl rfl ?_
    refine w_skipop rfl rfl rfl ?_
    refine w_pure (want_yes rfl rfl rfl) (y_pickF (v := _) rfl rfl rfl rfl) rfl ?_
    refine w_pure want_none (y_pickF (v := .bool _) rfl rfl rfl rfl) rfl ?_
    refine w_pure want_none (y_assign (v := .bool _) rfl rfl) rfl ?_
    refine w_nil ?_
    refine q_then (hK3 _ _ ?_)
    refine w_ret ?_
    refine q_ret (l := [.tmp 4]) (vs := [_]) rfl ⟨⟨rfl, show _ = (.bool _ : Value) from rfl⟩, trivial⟩ ?_
    exact ⟨congrArg Value.bool (by unfold before; (try rw [← hz]); (try clear hz); rw [Bool.eq_iff_iff]; simp [*] <;> omega), hs⟩

theorem bit_not_one {b k : Nat} (h : ¬ ((bit b k : Nat) : Int) = 1) : ¬ bit b k = 1 := fun e => h (by rw [e]; rfl)
theorem bit_one {b k : Nat} (h : ((bit b k : Nat) : Int) = 1) : bit b k = 1 := by omega
theorem listL_sl {w0 : World} {L : List (Nat × Obj)} {i b : Nat} {t : TypeId} {x n : Nat} (hi : L[i]? = some (b, blk t (iv (listTo x n n)))) (hc : listL x n ≠ []) : Sl w0 L (some ⟨b, 0, none⟩) 1 ((listL x n).map fun x => [Value.int .i64 x]) := by
  have h := Sl.cut (w0 := w0) (l' := 0) (h' := (listL x n).length) (c := n) (sl_ints_own hi) (Nat.zero_le _) (by have := listL_le x n; simp [listTo_len x n n (Nat.le_refl _)]; omega) (by simp [listTo_len x n n (Nat.le_refl _)])
  rw [← List.map_drop, List.drop_zero, Nat.sub_zero, ← List.map_take, listTo_take] at h
  have hn : n ≠ 0 := by rintro rfl; exact hc rfl
  rw [if_neg hn] at h
  have e : (some (⟨b, 0, none⟩ : Addr)).map (·.add (0 * 1)) = some ⟨b, 0, none⟩ := rfl
  rwa [e] at h
theorem iv2 {a b c d : Int} (h : a = b) (h2 : c = d) : [Value.int .i64 a, Value.int .i64 c] = [Value.int .i64 b, Value.int .i64 d] := by rw [h, h2]
theorem listL_slc {w0 : World} {L : List (Nat × Obj)} {b : Nat} {t : TypeId} {x n : Nat} (hi : L[0]? = some (b, blk t (iv (listTo x n n)))) : Sl w0 L (if n = 0 then some ⟨b, 0, none⟩ else (some (⟨b, 0, none⟩ : Addr)).map (·.add (0 * 1))) 1 ((listL x n).map fun x => [Value.int .i64 x]) := by
  by_cases hc : listL x n = []
  · rw [hc]; exact Sl.nil _ _
  · have hn : n ≠ 0 := by rintro rfl; exact hc rfl
    rw [if_neg hn]
    exact listL_sl hi hc
theorem c90 {w0 w : World} {F : List (Nat × Obj)} (x n : Nat) (hx : x < 1000) (hn : n ≤ 40) (hs : St w0 w F) :
  Con Try.prog 90 [.int .i64 x, .int .i64 n] w fun v w' => ∃ B a c, v = .slice a (listL x n).length c ∧ Sl w0 B a 1 ((listL x n).map fun x => [Value.int .i64 x]) ∧ St w0 w' (B ++ F) := by
  refine con_of_wc (n := 31) Try.func90 rfl rfl (Nat.le_of_ble_eq_true rfl) ?_
  refine w_seq (fun K2 hK1 => ?_)
  refine w_region ?_
  refine w_pure want_none (y_assign (v := _) rfl rfl) rfl ?_
  refine w_nil ?_
  refine q_then (hK1 _ _ ?_)
  refine w_seq (fun K4 hK3 => ?_)
  refine w_region ?_
  refine w_pure want_none (y_move (v := .int _ _) rfl rfl) rfl ?_
  refine w_makeInts (k := n) want_none Try.underlying30 Try_info3 rfl rfl (by omega) rfl rfl rfl rfl rfl hs (fun b5 w6 hs7 => ?_)
  refine w_pure want_none (y_assign (v := .slice _ _ _) rfl rfl) rfl ?_
  refine w_nil ?_
  refine q_then (hK3 _ _ ?_)
  refine w_seq (fun K9 hK8 => ?_)
  refine w_region ?_
  refine w_pure want_none (y_assign (v := _) rfl rfl) rfl ?_
  refine w_nil ?_
  refine q_then (hK8 _ _ ?_)
  refine w_seq (fun K11 hK10 => ?_)
  refine w_seq (fun K13 hK12 => ?_)
  refine w_region ?_
  refine w_pure want_none (y_move (v := .int _ _) rfl rfl) rfl ?_
  refine w_pure want_none (y_move (v := _) rfl rfl) rfl ?_
  refine w_nil ?_
  refine q_then (hK12 _ _ ?_)
  refine w_block ?_
  refine w_loop [6, 7, 11, 12, 13, 14, 15, 16, 17, 18, 19, 20, 21, 22, 23, 24, 25, 26, 27] [6, 11] (fun k vs w => ∃ i : Nat, vs = [.int .i64 (listL x i).length, .int .i64 i] ∧ i ≤ n ∧ k = n - i ∧ St w0 w ((b5, blk 3 (iv (listTo x n i))) :: F)) (n) ?_ ?_
  ·
   exact ⟨0, rfl, by omega, by omega, by rw [listTo_zero]; exact hs7⟩
  ·
   intro k vs μ w16 hI K15 hN14
   obtain ⟨i, rfl, hia, rfl, hs⟩ := hI
   have hll := listL_le x i
   refine w_seq (fun K18 hK17 => ?_)
   refine w_region ?_
   refine w_pure want_none (y_lss rfl rfl rfl rfl) rfl ?_
   refine w_nil ?_
   refine q_then (hK17 _ _ ?_)
   refine w_seq (fun K20 hK19 => ?_)
   refine w_cond rfl rfl (fun h21 => ?_) (fun h21 => ?_)
   ·
    try simp only [Bool.not_eq_true', Bool.not_eq_false', decide_eq_true_eq, decide_eq_false_iff_not, Int.not_lt, Int.not_le] at h21
    refine w_skip ?_
    refine q_then (hK19 _ _ ?_)
    refine w_seq (fun K23 hK22 => ?_)
    refine w_block ?_
    refine w_seq (fun K25 hK24 => ?_)
    refine w_region ?_
    refine w_pure want_none (y_move (v := .int _ _) rfl rfl) rfl ?_
    refine w_pure want_none (y_assign (v := .int _ _) rfl rfl) rfl ?_
    refine w_nil ?_
    refine q_then (hK24 _ _ ?_)
    refine w_seq (fun K27 hK26 => ?_)
    refine w_region ?_
    refine w_pure want_none (y_move (v := .int _ _) rfl rfl) rfl ?_
    refine w_pure want_none (y_move (v := .int _ _) rfl rfl) rfl ?_
    refine w_pure want_none (y_shr (x := _) (y := _) rfl rfl rfl rfl rfl rfl (by first | omega | exact shr_lt (by omega))) rfl ?_
    refine w_pure want_none (show Yd _ _ _ _ (.int .i64 ((bit x i : Nat) : Int)) from (y_and (x := _) (y := 1) rfl rfl rfl rfl rfl rfl (by first | omega | exact shr_lt (by omega)) (by first | omega | exact shr_lt (by omega)))) rfl ?_
    refine w_pure want_none (y_eql rfl rfl rfl rfl) rfl ?_
    refine w_nil ?_
    refine q_then (hK26 _ _ ?_)
    refine w_cond rfl rfl (fun h28 => ?_) (fun h28 => ?_)
    ·
     try simp only [Bool.not_eq_true', Bool.not_eq_false', decide_eq_true_eq, decide_eq_false_iff_not, Int.not_lt, Int.not_le] at h28
     refine w_region ?_
     refine w_pure want_none (y_move (v := .int _ _) rfl rfl) rfl ?_
     refine w_pure want_none (y_move (v := .slice _ _ _) rfl rfl) rfl ?_
     refine w_pure want_none (y_move (v := .int _ _) rfl rfl) rfl ?_
     refine w_pure want_none (y_sliceS (l' := (listL x i).length) (h' := _) Try.underlying30 Try.sizeOf3 rfl rfl ⟨rfl, _, _, rfl, rfl⟩ rfl (by omega) (by omega)) rfl ?_
     refine w_pure want_none (y_move (v := .int _ _) rfl rfl) rfl ?_
     refine w_bslice (ps := [(0, _)]) (pv := [(0, .int _ _)]) (cs := [_]) want_none rfl rfl (fun w => Try_E_fb1 _ w) hs (fun b29 w30 hs31 => ?_)
     refine w_copy1 (i := 1) (i2 := 0) want_none Try.underlying30 Try.sizeOf3 rfl rfl rfl rfl hs31 rfl rfl (by omega) (by first | omega | rfl | (simp only [listTo_len x n i (by omega), List.length_map, List.length_set, List.length_append, List.length_take, List.length_drop, List.length_replicate, List.length_cons, List.length_nil] <;> omega)) (fun w32 hs33 => ?_)
     refine w_pure want_none (y_add rfl rfl rfl rfl (by omega) (by omega)) rfl ?_
     refine w_pure want_none (y_assign (v := .int _ _) rfl rfl) rfl ?_
     refine w_nil ?_
     refine q_blk_normal ?_
     refine q_then (hK22 _ _ ?_)
     refine w_region ?_
     refine w_pure want_none (y_add rfl rfl rfl rfl (by omega) (by omega)) rfl ?_
     refine w_pure want_none (y_move (v := .int _ _) rfl rfl) rfl ?_
     refine w_nil ?_
     refine q_then (hN14 _ _ (Nx.intro (n - (i + 1)) (by omega) (by repeat (first | exact agree_mix | refine agree_upd rfl ?_ | refine agree_updL rfl ?_ _ | refine agree_mixin rfl ?_)) ?_))
     first
       | exact ⟨i + 1, iv2 (by rw [listL_yes (bit_one (by assumption)), List.length_append]; rfl) rfl, by omega, rfl, by have hq := hs33.tail; rw [listTo_yes (by omega) (bit_one (by assumption))] at hq; exact hq⟩
       | exact ⟨i + 1, iv2 (by rw [listL_no (bit_not_one (by assumption))]) rfl, by omega, rfl, by rw [← listTo_no (bit_not_one (by assumption))]; exact hs33⟩
    ·
     try simp only [Bool.not_eq_true', Bool.not_eq_false', decide_eq_true_eq, decide_eq_false_iff_not, Int.not_lt, Int.not_le] at h28
     refine w_skip ?_
     refine q_blk_normal ?_
     refine q_then (hK22 _ _ ?_)
     refine w_region ?_
     refine w_pure want_none (y_add rfl rfl rfl rfl (by omega) (by omega)) rfl ?_
     refine w_pure want_none (y_move (v := .int _ _) rfl rfl) rfl ?_
     refine w_nil ?_
     refine q_then (hN14 _ _ (Nx.intro (n - (i + 1)) (by omega) (by repeat (first | exact agree_mix | refine agree_upd rfl ?_ | refine agree_updL rfl ?_ _ | refine agree_mixin rfl ?_)) ?_))
     first
       | exact ⟨i + 1, iv2 (by rw [listL_yes (bit_one (by assumption)), List.length_append]; rfl) rfl, by omega, rfl, by have hq := hs.tail; rw [listTo_yes (by omega) (bit_one (by assumption))] at hq; exact hq⟩
       | exact ⟨i + 1, iv2 (by rw [listL_no (bit_not_one (by assumption))]) rfl, by omega, rfl, by rw [← listTo_no (bit_not_one (by assumption))]; exact hs⟩
   ·
    try simp only [Bool.not_eq_true', Bool.not_eq_false', decide_eq_true_eq, decide_eq_false_iff_not, Int.not_lt, Int.not_le] at h21
    refine w_exit ?_
    refine q_then_exit ?_
    refine q_then_exit ?_
    refine q_blk_this ?_
    refine q_then (hK10 _ _ ?_)
    refine w_seq (fun K35 hK34 => ?_)
    refine w_region ?_
    refine w_pure want_none (y_move (v := .slice _ _ _) rfl rfl) rfl ?_
    refine w_pure want_none (y_move (v := .int _ _) rfl rfl) rfl ?_
    refine w_pure want_none (y_sliceS (l' := 0) (h' := (listL x i).length) Try.underlying30 Try.sizeOf3 rfl rfl rfl ⟨rfl, _, _, rfl, rfl⟩ (by omega) (by omega)) rfl ?_
    refine w_pure want_none (y_assign (v := .slice _ _ _) rfl rfl) rfl ?_
    refine w_nil ?_
    refine q_then (hK34 _ _ ?_)
    refine w_ret ?_
    refine q_ret (l := [.tmp 4]) (vs := [_]) rfl ⟨⟨rfl, show _ = (.slice _ _ _ : Value) from rfl⟩, trivial⟩ ?_
    have hin : i = n := by omega
    subst hin
    exact ⟨[_], _, _, rfl, listL_slc (L := [_]) rfl, hs⟩

theorem c68 {w0 w : World} {F : List (Nat × Obj)} (m : Market) (p : At3) (mb mm : Nat) (hk : MK w0 F m p mb mm) (most : Bool) (hs : St w0 w F) :
  Con Try.prog 68 [.pointer (some ⟨mb, 0, none⟩), .bool most] w fun v w' => v = ia (allX m most) ∧ St w0 w' F := by
  refine con_of_wc (n := 52) Try.func68 rfl rfl (Nat.le_of_ble_eq_true rfl) ?_
  obtain ⟨ar, cr, as_, cs, at_, ct⟩ := p
  have hb := hk.b
  have hlr := hk.ok.lr
  have hls := hk.ok.ls
  have hlt := hk.ok.lt
  refine w_seq (fun K2 hK1 => ?_)
  refine w_region ?_
  refine w_alloc (cs := iv [0, 0, 0, 0, 0, 0, 0, 0]) want_none Try.zeroValue93 rfl hs (fun b3 w4 hs5 => ?_)
  refine w_nil ?_
  refine q_then (hK1 _ _ ?_)
  refine w_seq (fun K7 hK6 => ?_)
  refine w_seq (fun K9 hK8 => ?_)
  refine w_region ?_
  refine w_pure want_none (y_move (v := .pointer _) rfl rfl) rfl ?_
  refine w_pure want_none (y_nilCheck rfl rfl) rfl ?_
  refine w_pure want_none (y_fieldAddr (o := 0) (i := 0) Try.underlying122 rfl Try.sizeOf26 rfl rfl rfl) rfl ?_
  refine w_pure want_none (y_fieldAddr (o := 0) (i := 0) Try.underlying26 rfl Try.sizeOf22 rfl rfl rfl) rfl ?_
  refine w_pure want_none (y_load1 Try.isAgg22 hs5.tail rfl rfl (show Ats _ _ _ _ [_] from Ats.part hb 0 1)) rfl ?_
  refine w_pure want_none (y_lenS Try.underlying22 rfl rfl) rfl ?_
  refine w_pure want_none (y_move (v := _) rfl rfl) rfl ?_
  refine w_nil ?_
  refine q_then (hK8 _ _ ?_)
  refine w_block ?_
  refine w_loop [5, 6, 15, 16, 17, 18, 19, 20, 21, 22, 23, 24, 25, 26, 27, 28, 29, 30, 31, 32, 33] [15] (fun k vs w => ∃ i : Nat, vs = [.int .i64 i] ∧ i ≤ m.rooms.length ∧ k = m.rooms.length - i ∧ St w0 w ((b3, blk 93 (iv (handsTo m most i))) :: F)) (m.rooms.length) ?_ ?_
  ·
   exact ⟨0, rfl, by omega, by omega, hs5⟩
  ·
   intro k vs μ w12 hI K11 hN10
   obtain ⟨i, rfl, hia, rfl, hs⟩ := hI
   refine w_seq (fun K14 hK13 => ?_)
   refine w_region ?_
   refine w_pure want_none (y_lss rfl rfl rfl rfl) rfl ?_
   refine w_nil ?_
   refine q_then (hK13 _ _ ?_)
   refine w_seq (fun K16 hK15 => ?_)
   refine w_cond rfl rfl (fun h17 => ?_) (fun h17 => ?_)
   ·
    try simp only [Bool.not_eq_true', Bool.not_eq_false', decide_eq_true_eq, decide_eq_false_iff_not, Int.not_lt, Int.not_le] at h17
    refine w_skip ?_
    refine q_then (hK15 _ _ ?_)
    refine w_seq (fun K19 hK18 => ?_)
    refine w_block ?_
    refine w_seq (fun K21 hK20 => ?_)
    have hi2 : i < m.rooms.length := by omega
    obtain ⟨br, or_, hbr, hxr⟩ := sl_rrows hk.i.r hi2
    subst hbr
    refine w_region ?_
    refine w_pure want_none (y_move (v := .int _ _) rfl rfl) rfl ?_
    refine w_pure want_none (y_indexS Try.underlying22 Try.sizeOf69 rfl rfl rfl rfl (i := _) rfl (by omega)) rfl ?_
    refine w_pure want_none (y_loadN (vs := [_, _, _, _, _]) Try.isAgg69 Try.sizeOf69 hs.tail rfl rfl hxr) rfl ?_
    refine w_alloc (cs := [_, _, _, _, _]) want_none Try.zeroValue69 rfl hs (fun b22 w23 hs24 => ?_)
    refine w_pure want_none (y_assign (v := .int _ _) rfl rfl) rfl ?_
    refine w_store (i := 0) (v := .agg #[.string _, .int _ _, .int _ _, .int _ _, .int _ _]) (vs := [_, _, _, _, _]) want_none Try.sizeOf69 rfl rfl rfl rfl rfl (by simp [Value.oneCell']) hs24 rfl (Nat.le_of_ble_eq_true rfl) (fun w25 hs26 => ?_)
    refine w_nil ?_
    refine q_then (hK20 _ _ ?_)
    refine w_seq (fun K28 hK27 => ?_)
    refine w_region ?_
    refine w_pure want_none (y_move (v := .int _ _) rfl rfl) rfl ?_
    refine w_pure want_none (y_fieldAddr (o := 1) (i := 1) Try.underlying69 rfl Try.sizeOf67 rfl rfl rfl) rfl ?_
    refine w_pure want_none (y_fieldAddr (o := 0) (i := 0) Try.underlying67 rfl Try.sizeOf3 rfl rfl rfl) rfl ?_
    refine w_pure want_none (y_load1 Try.isAgg3 hs26 rfl rfl (ats_own (i := 0) (vs := [_]) rfl rfl)) rfl ?_
    refine w_pure want_none (y_fieldAddr (o := 0) (i := 0) Try.underlying93 rfl Try.sizeOf90 rfl rfl rfl) rfl ?_
    refine w_pure want_none (y_indexA Try.underlying90 Try.sizeOf3 rfl rfl rfl rfl (i := i) (by first | rfl | omega) (by omega)) rfl ?_
    refine w_storeAtI (i := 1) (j := i) want_none Try.sizeOf3 rfl rfl rfl rfl hs26 rfl (by first | omega | rfl | (simp only [handsTo_len, wantsTo_len, List.length_map, List.length_set, List.length_append, List.length_take, List.length_drop, List.length_replicate, List.length_cons, List.length_nil] <;> omega)) (fun w29 hs30 => ?_)
    refine w_nil ?_
    refine q_then (hK27 _ _ ?_)
    refine w_seq (fun K32 hK31 => ?_)
    refine w_region ?_
    refine w_pure want_none (y_move (v := .bool _) rfl rfl) rfl ?_
    refine w_nil ?_
    refine q_then (hK31 _ _ ?_)
    refine w_cond rfl rfl (fun h33 => ?_) (fun h33 => ?_)
    ·
     try simp only [Bool.not_eq_true', Bool.not_eq_false', decide_eq_true_eq, decide_eq_false_iff_not, Int.not_lt, Int.not_le] at h33
     refine w_region ?_
     refine w_pure want_none (y_move (v := .int _ _) rfl rfl) rfl ?_
     refine w_pure want_none (y_fieldAddr (o := 1) (i := 1) Try.underlying69 rfl Try.sizeOf67 rfl rfl rfl) rfl ?_
     refine w_pure want_none (y_fieldAddr (o := 1) (i := 1) Try.underlying67 rfl Try.sizeOf3 rfl rfl rfl) rfl ?_
     refine w_pure want_none (y_load1 Try.isAgg3 hs30 rfl rfl (ats_own (i := 0) (vs := [_]) rfl rfl)) rfl ?_
     refine w_pure want_none (y_fieldAddr (o := 0) (i := 0) Try.underlying93 rfl Try.sizeOf90 rfl rfl rfl) rfl ?_
     refine w_pure want_none (y_indexA Try.underlying90 Try.sizeOf3 rfl rfl rfl rfl (i := i) (by first | rfl | omega) (by omega)) rfl ?_
     refine w_storeAtI (i := 1) (j := i) want_none Try.sizeOf3 rfl rfl rfl rfl hs30 rfl (by first | omega | rfl | (simp only [handsTo_len, wantsTo_len, List.length_map, List.length_set, List.length_append, List.length_take, List.length_drop, List.length_replicate, List.length_cons, List.length_nil] <;> omega)) (fun w34 hs35 => ?_)
     refine w_nil ?_
     refine q_blk_normal ?_
     refine q_then (hK18 _ _ ?_)
     refine w_region ?_
     refine w_pure want_none (y_add rfl rfl rfl rfl (by omega) (by omega)) rfl ?_
     refine w_pure want_none (y_move (v := .int _ _) rfl rfl) rfl ?_
     refine w_nil ?_
     refine q_then (hN10 _ _ (Nx.intro (m.rooms.length - (i + 1)) (by omega) (by repeat (first | exact agree_mix | refine agree_upd rfl ?_ | refine agree_updL rfl ?_ _ | refine agree_mixin rfl ?_)) ?_))
     first
       | exact ⟨i + 1, rfl, by omega, rfl, by have hq := hs35.tail; have hmo : most = true := (by assumption); subst hmo; rw [handsTo_yes hi2] at hq; exact hq⟩
       | exact ⟨i + 1, rfl, by omega, rfl, by have hq := hs35.tail; have hmo : most = false := (by assumption); subst hmo; rw [handsTo_no hi2] at hq; exact hq⟩
    ·
     try simp only [Bool.not_eq_true', Bool.not_eq_false', decide_eq_true_eq, decide_eq_false_iff_not, Int.not_lt, Int.not_le] at h33
     refine w_skip ?_
     refine q_blk_normal ?_
     refine q_then (hK18 _ _ ?_)
     refine w_region ?_
     refine w_pure want_none (y_add rfl rfl rfl rfl (by omega) (by omega)) rfl ?_
     refine w_pure want_none (y_move (v := .int _ _) rfl rfl) rfl ?_
     refine w_nil ?_
     refine q_then (hN10 _ _ (Nx.intro (m.rooms.length - (i + 1)) (by omega) (by repeat (first | exact agree_mix | refine agree_upd rfl ?_ | refine agree_updL rfl ?_ _ | refine agree_mixin rfl ?_)) ?_))
     first
       | exact ⟨i + 1, rfl, by omega, rfl, by have hq := hs30.tail; have hmo : most = true := (by assumption); subst hmo; rw [handsTo_yes hi2] at hq; exact hq⟩
       | exact ⟨i + 1, rfl, by omega, rfl, by have hq := hs30.tail; have hmo : most = false := (by assumption); subst hmo; rw [handsTo_no hi2] at hq; exact hq⟩
   ·
    try simp only [Bool.not_eq_true', Bool.not_eq_false', decide_eq_true_eq, decide_eq_false_iff_not, Int.not_lt, Int.not_le] at h17
    refine w_exit ?_
    refine q_then_exit ?_
    refine q_then_exit ?_
    refine q_blk_this ?_
    refine q_then (hK6 _ _ ?_)
    refine w_seq (fun K37 hK36 => ?_)
    refine w_seq (fun K39 hK38 => ?_)
    refine w_region ?_
    refine w_pure want_none (y_move (v := .pointer _) rfl rfl) rfl ?_
    refine w_pure want_none (y_nilCheck rfl rfl) rfl ?_
    refine w_pure want_none (y_fieldAddr (o := 0) (i := 0) Try.underlying122 rfl Try.sizeOf26 rfl rfl rfl) rfl ?_
    refine w_pure want_none (y_fieldAddr (o := 1) (i := 1) Try.underlying26 rfl Try.sizeOf23 rfl rfl rfl) rfl ?_
    refine w_pure want_none (y_load1 Try.isAgg23 hs.tail rfl rfl (show Ats _ _ _ _ [_] from Ats.part hb 1 1)) rfl ?_
    refine w_pure want_none (y_lenS Try.underlying23 rfl rfl) rfl ?_
    refine w_pure want_none (y_move (v := _) rfl rfl) rfl ?_
    refine w_nil ?_
    refine q_then (hK38 _ _ ?_)
    refine w_block ?_
    refine w_loop [7, 8, 40, 41, 42, 43, 44, 45, 46, 47, 48, 49, 50] [40] (fun k vs w => ∃ i : Nat, vs = [.int .i64 i] ∧ i ≤ m.shops.length ∧ k = m.shops.length - i ∧ St w0 w ((b3, blk 93 (iv (wantsTo m most i))) :: F)) (m.shops.length) ?_ ?_
    ·
     exact ⟨0, rfl, by omega, by omega, by have hil : i = m.rooms.length := (by omega); subst hil; exact hs⟩
    ·
     intro k vs μ w42 hI K41 hN40
     obtain ⟨j, rfl, hja, rfl, hs⟩ := hI
     refine w_seq (fun K44 hK43 => ?_)
     refine w_region ?_
     refine w_pure want_none (y_lss rfl rfl rfl rfl) rfl ?_
     refine w_nil ?_
     refine q_then (hK43 _ _ ?_)
     refine w_seq (fun K46 hK45 => ?_)
     refine w_cond rfl rfl (fun h47 => ?_) (fun h47 => ?_)
     ·
      try simp only [Bool.not_eq_true', Bool.not_eq_false', decide_eq_true_eq, decide_eq_false_iff_not, Int.not_lt, Int.not_le] at h47
      refine w_skip ?_
      refine q_then (hK45 _ _ ?_)
      refine w_seq (fun K49 hK48 => ?_)
      refine w_block ?_
      refine w_seq (fun K51 hK50 => ?_)
      have hj2 : j < m.shops.length := by omega
      obtain ⟨bs, os, hbs, hxs⟩ := sl_srows hk.i.s hj2
      subst hbs
      refine w_region ?_
      refine w_pure want_none (y_move (v := .int _ _) rfl rfl) rfl ?_
      refine w_pure want_none (y_indexS Try.underlying23 Try.sizeOf52 rfl rfl rfl rfl (i := _) rfl (by omega)) rfl ?_
      refine w_pure want_none (y_loadN (vs := [_, _, _]) Try.isAgg52 Try.sizeOf52 hs.tail rfl rfl hxs) rfl ?_
      refine w_alloc (cs := [_, _, _]) want_none Try.zeroValue52 rfl hs (fun b52 w53 hs54 => ?_)
      refine w_pure want_none (y_assign (v := .int _ _) rfl rfl) rfl ?_
      refine w_store (i := 0) (v := .agg #[.string _, .int _ _, .int _ _]) (vs := [_, _, _]) want_none Try.sizeOf52 rfl rfl rfl rfl rfl (by simp [Value.oneCell']) hs54 rfl (Nat.le_of_ble_eq_true rfl) (fun w55 hs56 => ?_)
      refine w_nil ?_
      refine q_then (hK50 _ _ ?_)
      refine w_region ?_
      refine w_pure want_none (y_move (v := .int _ _) rfl rfl) rfl ?_
      refine w_pure want_none (y_fieldAddr (o := 2) (i := 2) Try.underlying52 rfl Try.sizeOf3 rfl rfl rfl) rfl ?_
      refine w_pure want_none (y_load1 Try.isAgg3 hs56 rfl rfl (ats_own (i := 0) (vs := [_]) rfl rfl)) rfl ?_
      refine w_pure want_none (y_fieldAddr (o := 3) (i := 1) Try.underlying93 rfl Try.sizeOf91 rfl rfl rfl) rfl ?_
      refine w_pure want_none (y_indexA Try.underlying91 Try.sizeOf3 rfl rfl rfl rfl (i := j) (by first | rfl | omega) (by omega)) rfl ?_
      refine w_storeAtIO (i := 1) (o := 3) (j := j) want_none Try.sizeOf3 rfl rfl rfl rfl hs56 rfl (by first | omega | rfl | (simp only [handsTo_len, wantsTo_len, List.length_map, List.length_set, List.length_append, List.length_take, List.length_drop, List.length_replicate, List.length_cons, List.length_nil] <;> omega)) (fun w57 hs58 => ?_)
      refine w_nil ?_
      refine q_blk_normal ?_
      refine q_then (hK48 _ _ ?_)
      refine w_region ?_
      refine w_pure want_none (y_add rfl rfl rfl rfl (by omega) (by omega)) rfl ?_
      refine w_pure want_none (y_move (v := .int _ _) rfl rfl) rfl ?_
      refine w_nil ?_
      refine q_then (hN40 _ _ (Nx.intro (m.shops.length - (j + 1)) (by omega) (by repeat (first | exact agree_mix | refine agree_upd rfl ?_ | refine agree_updL rfl ?_ _ | refine agree_mixin rfl ?_)) ?_))
      exact ⟨j + 1, rfl, by omega, rfl, by have hq := hs58.tail; rw [wantsTo_succ hj2] at hq; exact hq⟩
     ·
      try simp only [Bool.not_eq_true', Bool.not_eq_false', decide_eq_true_eq, decide_eq_false_iff_not, Int.not_lt, Int.not_le] at h47
      refine w_exit ?_
      refine q_then_exit ?_
      refine q_then_exit ?_
      refine q_blk_this ?_
      refine q_then (hK36 _ _ ?_)
      refine w_seq (fun K60 hK59 => ?_)
      refine w_region ?_
      refine w_pure want_none (y_loadI (i := 0) Try.isAgg93 Try.sizeOf93 (by first | omega | rfl | (simp only [handsTo_len, wantsTo_len, List.length_map, List.length_set, List.length_append, List.length_take, List.length_drop, List.length_replicate, List.length_cons, List.length_nil] <;> omega)) hs rfl rfl rfl) rfl ?_
      refine w_storeI (i := 0) (l := _) want_none Try.sizeOf93 (by first | omega | rfl | (simp only [handsTo_len, wantsTo_len, List.length_map, List.length_set, List.length_append, List.length_take, List.length_drop, List.length_replicate, List.length_cons, List.length_nil] <;> omega)) rfl rfl rfl rfl rfl hs rfl (by first | omega | rfl | (simp only [handsTo_len, wantsTo_len, List.length_map, List.length_set, List.length_append, List.length_take, List.length_drop, List.length_replicate, List.length_cons, List.length_nil] <;> omega)) (fun w61 hs62 => ?_)
      refine w_nil ?_
      refine q_then (hK59 _ _ ?_)
      refine w_ret ?_
      refine q_ret (l := [.cell 4 93]) (vs := [_]) rfl ⟨⟨rfl, _, rfl, run_loadI (i := 0) Try.isAgg93 Try.sizeOf93 (by first | omega | rfl | (simp only [handsTo_len, wantsTo_len, List.length_map, List.length_set, List.length_append, List.length_take, List.length_drop, List.length_replicate, List.length_cons, List.length_nil] <;> omega)) hs62 rfl⟩, trivial⟩ ?_
      exact ⟨by have hjl : j = m.shops.length := (by omega); subst hjl; rfl, hs62.tail⟩

end Go.Proofs
/- Plain words of the shop layer: steps of the sum of what sets lack. No conditions. -/
set_option linter.unusedSimpArgs false
set_option linter.unusedVariables false
namespace Go.Rt.Sh
theorem getD_set {l : List Int} {b : Nat} {v : Int} (hb : b < l.length) : (l.set b v).getD b 0 = v := by simp [List.getD, hb]
theorem set_zero {m : Market} {x : List Int} {b : Nat} : (lacksTo m x b).set b 0 = lacksTo m x b := by
  apply List.ext_getElem (by simp)
  intro i h1 h2
  rw [List.getElem_set]
  split
  · rename_i h; subst h; simp [lacksTo]
  · rfl
theorem drop_get {x : List Int} {j : Nat} (hj : j < 4) : ((x.drop 3).take 4).getD j 0 = x.getD (3 + j) 0 := by
  simp [List.getD, List.getElem?_take, hj]
theorem set_want {m : Market} {x : List Int} {b j : Nat} (hb : b < 16) (hj : j < 4) :
    (((lacksTo m x b).set b (wantU x b j)).set b (((lacksTo m x b).set b (wantU x b j)).getD b 0 + ((x.drop 3).take 4).getD j 0 * (bit b j : Int))) = (lacksTo m x b).set b (wantU x b (j + 1)) := by
  rw [getD_set (by rw [lacksTo_len]; exact hb), List.set_set, drop_get hj]; rfl
theorem set_hand {m : Market} {x c : List Int} {b q : Nat} {W : Int} (hb : b < 16) :
    (((lacksTo m x b).set b (W - handU c x q)).set b (((lacksTo m x b).set b (W - handU c x q)).getD b 0 - min (c.getD q 0) (x.getD q 0))) = (lacksTo m x b).set b (W - handU c x (q + 1)) := by
  rw [getD_set (by rw [lacksTo_len]; exact hb), List.set_set]
  congr 1
  rw [show handU c x (q + 1) = handU c x q + min (c.getD q 0) (x.getD q 0) from rfl]
  omega
theorem set_done {m : Market} {x : List Int} {b : Nat} (hb : b < 16) : (lacksTo m x b).set b (wantU x b 4 - handU (capsU m (x.getD 7 0) b m.trains.length) x 3) = lacksTo m x (b + 1) := lacksTo_succ hb
theorem and_one_bit {b j : Nat} : ((b >>> j) &&& 1 : Nat) = bit b j := rfl
theorem caps_get_bound {m : Market} (hok : m.Ok) (fro : Int) (b i q : Nat) (hi : i ≤ m.trains.length) : 0 ≤ (capsU m fro b i).getD q 0 ∧ (capsU m fro b i).getD q 0 ≤ 360 := by
  have h := capsU_bound hok fro b i hi
  have := getD_in (a := 0) (b := 60 * (i : Int)) (by omega) (by omega) h q
  have := hok.lt
  omega
theorem caps_in {m : Market} (hok : m.Ok) (fro : Int) (b i : Nat) (hi : i ≤ m.trains.length) : ∀ z ∈ capsU m fro b i, -10000 ≤ z ∧ z ≤ 10000 := by
  intro z hz
  have := capsU_bound hok fro b i hi z hz
  have := hok.lt
  omega
/-- Numbers that hands and wants can have. -/
def Small (x : List Int) : Prop := x.length = 8 ∧ ∀ z ∈ x, -10000 ≤ z ∧ z ≤ 10000
theorem lackB_bound {m : Market} (hok : m.Ok) {x : List Int} (hx : Small x) (b : Nat) : -100000 ≤ lackB m x b ∧ lackB m x b ≤ 100000 := by
  have h1 := wantU_bound hx.2 b 4
  have h2 := handU_bound (caps_in hok (x.getD 7 0) b m.trains.length (Nat.le_refl _)) hx.2 3
  unfold lackB
  omega
theorem lacksV_get {m : Market} {x : List Int} {b : Nat} (hb : b < 16) : (lacksV m x).getD b 0 = lackB m x b := by simp [lacksV, List.getD, hb]
theorem handsTo_in {m : Market} (hok : m.Ok) (t : Bool) : ∀ i, i ≤ m.rooms.length → ∀ z ∈ handsTo m t i, 0 ≤ z ∧ z ≤ 200
  | 0, _, z, hz => by simp [handsTo] at hz; omega
  | i + 1, hi, z, hz => by
    have ih := handsTo_in hok t i (by omega)
    have hr := hok.room _ (List.getElem_mem (show i < m.rooms.length by omega))
    simp only [handsTo, List.getElem?_eq_getElem (show i < m.rooms.length by omega)] at hz
    rcases List.mem_or_eq_of_mem_set hz with h1 | h1
    · exact ih z h1
    · rw [h1]; split <;> omega
theorem wantsTo_in {m : Market} (hok : m.Ok) (t : Bool) : ∀ i, i ≤ m.shops.length → ∀ z ∈ wantsTo m t i, 0 ≤ z ∧ z ≤ 200
  | 0, _, z, hz => handsTo_in hok t _ (Nat.le_refl _) z hz
  | i + 1, hi, z, hz => by
    have ih := wantsTo_in hok t i (by omega)
    have hr := hok.shop _ (List.getElem_mem (show i < m.shops.length by omega))
    simp only [wantsTo, List.getElem?_eq_getElem (show i < m.shops.length by omega)] at hz
    rcases List.mem_or_eq_of_mem_set hz with h1 | h1
    · exact ih z h1
    · rw [h1]; omega
theorem allX_small {m : Market} (hok : m.Ok) (t : Bool) : Small (allX m t) := ⟨allX_len m t, fun z hz => by have := wantsTo_in hok t _ (Nat.le_refl _) z hz; omega⟩
/-- What Goes, Can, Proof, Without, More and Late return, as the program goes. -/
def goesTo (m : Market) : Nat → List Int
  | 0 => []
  | i + 1 => match m.trains[i]? with
    | some t => if leaves m t then goesTo m i ++ [(i : Int)] else goesTo m i
    | none => goesTo m i
theorem goesTo_yes {m : Market} {i : Nat} (hi : i < m.trains.length) (h : leaves m m.trains[i] = true) : goesTo m (i + 1) = goesTo m i ++ [(i : Int)] := by simp [goesTo, List.getElem?_eq_getElem hi, h]
theorem goesTo_no {m : Market} {i : Nat} (hi : i < m.trains.length) (h : leaves m m.trains[i] = false) : goesTo m (i + 1) = goesTo m i := by simp [goesTo, List.getElem?_eq_getElem hi, h]
theorem goesTo_len (m : Market) : ∀ i, (goesTo m i).length ≤ i
  | 0 => Nat.le_refl _
  | i + 1 => by
    have := goesTo_len m i
    unfold goesTo
    cases m.trains[i]? with
    | none => dsimp only; omega
    | some t => dsimp only; split
                · simp; omega
                · omega
def goesP (m : Market) : List Int × Int := if (check m).2.2 ≠ 0 then ([], (check m).2.2) else (goesTo m m.trains.length, 0)
def canP (m : Market) (l : List Int) : Int × Int := if someE m l ≠ 0 then (0, someE m l) else if servedS m (allX m false) (someS l) then (1, 0) else if servedS m (allX m true) (someS l) then (0, 0) else (2, 0)
def proofP (m : Market) (l : List Int) : List Int × Int × Int := if someE m l ≠ 0 then ([], 0, someE m l) else if (worst m (allX m false) (someS l)).2 = 0 then ([], 0, 9) else ((worst m (allX m false) (someS l)).1, (worst m (allX m false) (someS l)).2, 0)
def withoutP (m : Market) : List Int × Int := if (check m).2.2 ≠ 0 then ([], (check m).2.2) else (withoutL m, 0)
/-- All with so many hands more of a room. -/
def moreX (m : Market) (r i : Nat) : List Int := (allX m false).set r ((allX m false).getD r 0 + i)
def moreTo (m : Market) (r i : Nat) : Nat → Option Nat
  | 0 => none
  | k + 1 => if servedS m (moreX m r i) (1 <<< m.shops.length - 1) then some i else moreTo m r (i + 1) k
def moreP (m : Market) (r : Int) : Int × Int := if enterE m m.rooms.length [r] ≠ 0 then (0, enterE m m.rooms.length [r]) else match moreTo m r.toNat 0 61 with | some n => ((n : Int), 0) | none => (0, 9)
theorem moreX_len (m : Market) (r i : Nat) : (moreX m r i).length = 8 := by simp [moreX, allX_len]
theorem moreX_zero (m : Market) (r : Nat) : moreX m r 0 = allX m false := by
  unfold moreX
  apply List.ext_getElem (by simp)
  intro j h1 h2
  rw [List.getElem_set]
  split
  · rename_i h; subst h; simp [List.getD, h2]
  · rfl
theorem moreX_get {m : Market} {r i : Nat} (hr : r < 8) : (moreX m r i).getD r 0 = (allX m false).getD r 0 + i := by unfold moreX; exact getD_set (by rw [allX_len]; exact hr)
theorem moreX_succ {m : Market} {r i : Nat} (hr : r < 8) : (moreX m r i).set r ((moreX m r i).getD r 0 + 1) = moreX m r (i + 1) := by
  rw [moreX_get hr]; unfold moreX; rw [List.set_set]; congr 1; push_cast; omega
theorem allX_in {m : Market} (hok : m.Ok) (t : Bool) : ∀ z ∈ allX m t, 0 ≤ z ∧ z ≤ 200 := wantsTo_in hok t _ (Nat.le_refl _)
theorem moreX_small {m : Market} (hok : m.Ok) (r i : Nat) (hi : i ≤ 61) : Small (moreX m r i) := by
  refine ⟨moreX_len m r i, fun z hz => ?_⟩
  unfold moreX at hz
  rcases List.mem_or_eq_of_mem_set hz with h | h
  · have := allX_in hok false z h; omega
  · have := getD_in (a := 0) (b := 200) (by omega) (by omega) (allX_in hok false) r
    omega
theorem moreTo_yes {m : Market} {r i k : Nat} (h : servedS m (moreX m r i) (1 <<< m.shops.length - 1) = true) : moreTo m r i (k + 1) = some i := by unfold moreTo; rw [if_pos h]
theorem moreTo_no {m : Market} {r i k : Nat} (h : servedS m (moreX m r i) (1 <<< m.shops.length - 1) = false) : moreTo m r i (k + 1) = moreTo m r (i + 1) k := by rw [moreTo, if_neg (by simp [h])]
end Go.Rt.Sh
