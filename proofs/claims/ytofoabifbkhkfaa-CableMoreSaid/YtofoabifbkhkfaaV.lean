/- Walks of this seat, printed by gen.py over the engine: what each function returns, in whatever world. No conditions but those of each contract. -/
import Derived.Test.YtofoabifbkhkfaaU
import Derived.Test.YtofoabifbkhkfaaCSpec11
set_option linter.unusedVariables false
set_option linter.unusedSimpArgs false
set_option maxRecDepth 20000
namespace Go.Proofs
open Go.Rt
attribute [local irreducible] WL WC Con Yd At Ats Sl Agree DW
theorem Try_V_fb8 (x0 : Option Addr) (l0 c0 : Nat) (w : World) : (Instr.buildSlice 62 1 [(0, .slice x0 l0 c0)].toArray).run Try.prog w = .ok (.slice (some ⟨w.heap.size, 0, none⟩) 1 1) (w.alloc (Go.Rt.blk 27 [.slice x0 l0 c0])) := by kernel_rfl
theorem Try_V_fb9  (w : World) : (Instr.buildSlice 27 0 [].toArray).run Try.prog w = .ok (.slice (some ⟨w.heap.size, 0, none⟩) 0 0) (w.alloc (Go.Rt.blk 3 [])) := by kernel_rfl
theorem Try_V_fb10 (x0 : Int) (w : World) : (Instr.buildSlice 27 1 [(0, .int .i64 x0)].toArray).run Try.prog w = .ok (.slice (some ⟨w.heap.size, 0, none⟩) 1 1) (w.alloc (Go.Rt.blk 3 [.int .i64 x0])) := by kernel_rfl
theorem Try_info27 : Try.prog.info? 27 = some Try.t27 := by kernel_rfl
/-- Slices of integers, as values: what each reads as. -/
def EL (w0 : World) (L : List (Nat × Obj)) (vs : List Value) (ll : List (List Int)) : Prop :=
  vs.length = ll.length ∧ ∀ k (h : k < ll.length), ∃ b c, vs[k]? = some (.slice b ll[k].length c) ∧ Sl w0 L b 1 (ll[k].map fun x => [Value.int .i64 x]) ∧ (b = none → c = 0)
theorem EL.mono {w0 : World} {L L' : List (Nat × Obj)} {vs : List Value} {ll : List (List Int)} (h : EL w0 L vs ll) (hs : ∀ w, St w0 w L' → St w0 w L) : EL w0 L' vs ll :=
  ⟨h.1, fun k hk => by obtain ⟨b, c, h1, h2, h3⟩ := h.2 k hk; exact ⟨b, c, h1, h2.mono hs, h3⟩⟩
theorem EL.nil (w0 : World) (L : List (Nat × Obj)) : EL w0 L [] [] := ⟨rfl, fun k h => by simp at h⟩
theorem EL.snoc {w0 : World} {L : List (Nat × Obj)} {vs : List Value} {ll : List (List Int)} {b : Option Addr} {c : Nat} {l : List Int} (h : EL w0 L vs ll) (hl : Sl w0 L b 1 (l.map fun x => [Value.int .i64 x])) (hn : b = none → c = 0) : EL w0 L (vs ++ [.slice b l.length c]) (ll ++ [l]) := by
  refine ⟨by simp [h.1], fun k hk => ?_⟩
  rw [List.length_append, List.length_singleton] at hk
  by_cases hkl : k < ll.length
  · obtain ⟨b', c', h1, h2, h3⟩ := h.2 k hkl
    refine ⟨b', c', ?_, ?_, h3⟩
    · rw [List.getElem?_append_left (by rw [h.1]; exact hkl), h1, List.getElem_append_left hkl]
    · rw [List.getElem_append_left hkl]; exact h2
  · have : k = ll.length := by omega
    subst this
    refine ⟨b, c, ?_, ?_, hn⟩
    · rw [List.getElem?_append_right (by rw [h.1]; omega), h.1]; simp
    · simpa using hl
theorem all_perm {w0 w : World} {a b : Nat × Obj} {B N E R : List (Nat × Obj)} (h : St w0 w (a :: b :: (B ++ (N ++ (E ++ R))))) : St w0 w (N ++ ((B ++ E) ++ R)) := by
  have h1 : St w0 w (B ++ (N ++ (E ++ R))) := h.tail.tail
  have h2 : St w0 w (N ++ (B ++ (E ++ R))) := h1.perm (perm_mid B N (E ++ R))
  rwa [← List.append_assoc B] at h2
theorem all_next {w0 w : World} {N E OB E0 F : List (Nat × Obj)} (h : St w0 w (N ++ (E ++ (OB ++ (E0 ++ F))))) : St w0 w (N ++ ((E ++ (OB ++ E0)) ++ F)) := by
  have e : E ++ (OB ++ (E0 ++ F)) = (E ++ (OB ++ E0)) ++ F := by simp
  rwa [e] at h
theorem el_next {w0 : World} {E OB E0 F : List (Nat × Obj)} {vs : List Value} {ll : List (List Int)} (h : EL w0 (E ++ (OB ++ (E0 ++ F))) vs ll) : EL w0 ((E ++ (OB ++ E0)) ++ F) vs ll := by
  have e : E ++ (OB ++ (E0 ++ F)) = (E ++ (OB ++ E0)) ++ F := by simp
  rwa [e] at h
theorem el_at {w0 : World} {L : List (Nat × Obj)} {a : Option Addr} {vs : List Value} {ll : List (List Int)} {k : Nat} (hs : Sl w0 L a 1 (vs.map fun v => [v])) (h : EL w0 L vs ll) (hk : k < ll.length) :
    ∃ b off b2 c2, a = some ⟨b, off, none⟩ ∧ Ats w0 L b (off + k * 1) [.slice b2 ll[k].length c2] ∧ Sl w0 L b2 1 (ll[k].map fun x => [Value.int .i64 x]) ∧ (b2 = none → c2 = 0) := by
  obtain ⟨b2, c2, h1, h2, h3⟩ := h.2 k hk
  obtain ⟨b, off, ha, _, hat⟩ := hs.at (i := k) (row := [.slice b2 ll[k].length c2]) (by rw [List.getElem?_map, h1]; rfl)
  exact ⟨b, off, b2, c2, ha, hat, h2, h3⟩
theorem flat_ints (l : List Int) : (l.map fun x => [Value.int .i64 x]).flatten = iv l := by induction l <;> simp_all
theorem own_new {w0 : World} {v : Value} {l : List Int} {d : Int} {B : List (Nat × Obj)} (h : Rt.Own v 3 1 (0 + l.length + 1) ([] ++ (l.map fun x => [Value.int .i64 x]).flatten ++ [[Value.int .i64 d]].flatten) B) (F : List (Nat × Obj)) :
    ∃ a c, v = .slice a (l ++ [d]).length c ∧ Sl w0 (B ++ F) a 1 ((l ++ [d]).map fun x => [Value.int .i64 x]) ∧ (a = none → c = 0) := by
  have h1 : Rt.Own v 3 1 (l ++ [d]).length ((l ++ [d]).map (Value.int .i64)) B := by
    rw [flat_ints] at h
    simpa [Nat.add_comm] using h
  obtain ⟨a, c, hv, hs⟩ := own_sl_map (w0 := w0) h1 rfl F
  refine ⟨a, c, hv, hs, fun ha => ?_⟩
  rcases h1.2 with ⟨h2, _⟩ | ⟨b, cap, cs, h2, _⟩
  · rw [h2] at hv; injection hv with _ _ h3; exact h3.symm
  · rw [h2] at hv; injection hv with h3; rw [ha] at h3; cases h3
theorem own_more {v : Value} {ws : List Value} {u : Value} {NB : List (Nat × Obj)} {g : List (List Int)} {x : List Int} (h : Rt.Own v 27 1 (g.length + 1) (ws ++ [[u]].flatten) NB) : Rt.Own v 27 1 (g ++ [x]).length (ws ++ [u]) NB := by simpa using h
theorem el_more {w0 : World} {B E R : List (Nat × Obj)} {ws : List Value} {g : List (List Int)} {a : Option Addr} {c : Nat} {l : List Int} (h : EL w0 (E ++ R) ws g) (hs : Sl w0 (B ++ (E ++ R)) a 1 (l.map fun x => [Value.int .i64 x])) (hn : a = none → c = 0) : EL w0 ((B ++ E) ++ R) (ws ++ [.slice a l.length c]) (g ++ [l]) := by
  rw [List.append_assoc]
  exact (h.mono fun _ h => h.drop).snoc hs hn
theorem c68 {w0 w : World} {F : List (Nat × Obj)} (n below : Nat) (hn : n ≤ 3) (hbe : below ≤ 11) (hs : St w0 w F) :
  Con Try.prog 68 [.int .i64 (n : Int), .int .i64 0, .int .i64 ((below : Int) - 1)] w fun v w' => ∃ (B : List (Nat × Obj)) (vs : List Value) (a : Option Addr) (c : Nat), v = .slice a (allC below n).length c ∧ Sl w0 (B ++ F) a 1 (vs.map fun v => [v]) ∧ EL w0 (B ++ F) vs (allC below n) ∧ St w0 w' (B ++ F) := by
  refine con_of_wc (n := 55) Try.func68 rfl rfl (Nat.le_of_ble_eq_true rfl) ?_
  refine w_seq (fun K2 hK1 => ?_)
  refine w_region ?_
  refine w_pure want_none (y_assign (v := _) rfl rfl) rfl ?_
  refine w_nil ?_
  refine q_then (hK1 _ _ ?_)
  refine w_seq (fun K4 hK3 => ?_)
  refine w_region ?_
  refine w_bslice (ps := [(0, _)]) (pv := [(0, .slice _ _ _)]) (cs := [_]) want_none rfl rfl (fun w => Try_V_fb8 _ _ _ w) hs (fun b5 w6 hs7 => ?_)
  refine w_pure want_none (y_assign (v := .slice _ _ _) rfl rfl) rfl ?_
  refine w_nil ?_
  refine q_then (hK3 _ _ ?_)
  refine w_seq (fun K9 hK8 => ?_)
  refine w_seq (fun K11 hK10 => ?_)
  refine w_region ?_
  refine w_pure want_none (y_assign (v := _) rfl rfl) rfl ?_
  refine w_nil ?_
  refine q_then (hK10 _ _ ?_)
  refine w_block ?_
  refine w_loop [7, 8, 9, 10, 11, 13, 14, 15, 16, 17, 18, 19, 20, 21, 22, 23, 24, 25, 26, 27, 28, 29, 30, 31, 32, 33, 34, 35, 36, 37, 38, 39, 40, 41, 42, 43, 44, 45, 46, 47, 48, 49, 50, 51, 52, 53] [7, 8] (fun kk vs0 w => ∃ (i : Nat) (vO : Value) (OB E : List (Nat × Obj)) (vs : List Value), vs0 = [vO, .int .i64 i] ∧ i ≤ n ∧ kk = n - i ∧ Rt.Own vO 27 1 (seg (dys below) i []).length vs OB ∧ EL w0 (E ++ F) vs (seg (dys below) i []) ∧ St w0 w (OB ++ (E ++ F))) (n) ?_ ?_
  ·
    exact ⟨0, _, [_], [], [.slice none 0 0], rfl, by omega, by omega, own_lit rfl (by simp [maxLen]), ⟨rfl, fun k hk => ⟨none, 0, by simp [seg] at hk; subst hk; rfl, by simp [seg] at hk; subst hk; exact Sl.nil _ _, fun _ => rfl⟩⟩, hs7⟩
  ·
    intro k vs μ w14 hI K13 hN12
    obtain ⟨i, vO, OB, E, vs, rfl, hia, rfl, hown0, hel, hs⟩ := hI
    refine w_seq (fun K16 hK15 => ?_)
    refine w_seq (fun K18 hK17 => ?_)
    refine w_region ?_
    refine w_pure want_none (y_move (v := .int _ _) rfl rfl) rfl ?_
    refine w_pure want_none (y_move (v := .int _ _) rfl rfl) rfl ?_
    refine w_pure want_none (y_lss rfl rfl rfl rfl) rfl ?_
    refine w_nil ?_
    refine q_then (hK17 _ _ ?_)
    refine w_cond rfl rfl (fun h19 => ?_) (fun h19 => ?_)
    ·
      try simp only [Bool.not_eq_true', Bool.not_eq_false', decide_eq_true_eq, decide_eq_false_iff_not, Int.not_lt, Int.not_le] at h19
      refine w_skip ?_
      refine q_then (hK15 _ _ ?_)
      refine w_seq (fun K21 hK20 => ?_)
      refine w_block ?_
      refine w_seq (fun K23 hK22 => ?_)
      have hi2 : i < n := by omega
      have hsm := seg_small (n := i) hbe (by omega) []
      obtain ⟨aO, cO, rfl, hslO⟩ := own_sl_id (w0 := w0) hown0 hel.1 (E ++ F)
      refine w_region ?_
      refine w_pure want_none (y_assign (v := _) rfl rfl) rfl ?_
      refine w_nil ?_
      refine q_then (hK22 _ _ ?_)
      refine w_seq (fun K25 hK24 => ?_)
      refine w_seq (fun K27 hK26 => ?_)
      refine w_region ?_
      refine w_pure want_none (y_assign (v := _) rfl rfl) rfl ?_
      refine w_nil ?_
      refine q_then (hK26 _ _ ?_)
      refine w_block ?_
      refine w_loop [9, 10, 11, 18, 19, 20, 21, 22, 23, 24, 25, 26, 27, 28, 29, 30, 31, 32, 33, 34, 35, 36, 37, 38, 39, 40, 41, 42, 43, 44, 45, 46, 47, 48, 49, 50, 51, 52] [9, 10] (fun kk vs0 w => ∃ (k : Nat) (vN : Value) (NB E1 : List (Nat × Obj)) (ws : List Value), vs0 = [vN, .int .i64 k] ∧ k ≤ (seg (dys below) i []).length ∧ kk = (seg (dys below) i []).length - k ∧ Rt.Own vN 27 1 (grow (dys below) (seg (dys below) i []) k).length ws NB ∧ EL w0 (E1 ++ (OB ++ (E ++ F))) ws (grow (dys below) (seg (dys below) i []) k) ∧ St w0 w (NB ++ (E1 ++ (OB ++ (E ++ F))))) ((seg (dys below) i []).length) ?_ ?_
      ·
        exact ⟨0, _, [], [], [], rfl, by omega, by omega, own_nil 27 1, EL.nil _ _, hs⟩
      ·
        intro k vs μ w30 hI K29 hN28
        obtain ⟨k, vN, NB, E1, ws, rfl, hka, rfl, hown1, hel1, hs⟩ := hI
        refine w_seq (fun K32 hK31 => ?_)
        refine w_seq (fun K34 hK33 => ?_)
        refine w_region ?_
        refine w_pure want_none (y_move (v := .int _ _) rfl rfl) rfl ?_
        refine w_pure want_none (y_move (v := .slice _ _ _) rfl rfl) rfl ?_
        refine w_pure want_none (y_lenS Try.underlying62 rfl rfl) rfl ?_
        refine w_pure want_none (y_lss rfl rfl rfl rfl) rfl ?_
        refine w_nil ?_
        refine q_then (hK33 _ _ ?_)
        refine w_cond rfl rfl (fun h35 => ?_) (fun h35 => ?_)
        ·
          try simp only [Bool.not_eq_true', Bool.not_eq_false', decide_eq_true_eq, decide_eq_false_iff_not, Int.not_lt, Int.not_le] at h35
          refine w_skip ?_
          refine q_then (hK31 _ _ ?_)
          refine w_seq (fun K37 hK36 => ?_)
          refine w_block ?_
          refine w_seq (fun K39 hK38 => ?_)
          refine w_seq (fun K41 hK40 => ?_)
          have hk2 : k < (seg (dys below) i []).length := by omega
          obtain ⟨bx, ox, b2, c2, rfl, hx, hsx0, hnx⟩ := el_at hslO (hel.mono fun _ h => h.drop) hk2
          have hxl : ((seg (dys below) i [])[k]'hk2).length ≤ 3 := by have := seg_len _ _ _ (List.getElem_mem hk2); simp at this; omega
          refine w_region ?_
          refine w_pure want_none (y_move (v := .int _ _) rfl rfl) rfl ?_
          refine w_pure want_none (y_assign (v := .int _ _) rfl rfl) rfl ?_
          refine w_nil ?_
          refine q_then (hK40 _ _ ?_)
          refine w_block ?_
          refine w_loop [9, 11, 25, 26, 27, 28, 29, 30, 31, 32, 33, 34, 35, 36, 37, 38, 39, 40, 41] [9, 11] (fun kk vs0 w => ∃ (q : Nat) (vN : Value) (NB E1 : List (Nat × Obj)) (ws : List Value), vs0 = [vN, .int .i64 q] ∧ q ≤ below ∧ kk = below - q ∧ Rt.Own vN 27 1 (growDay (dys below) (seg (dys below) i []) k q ((seg (dys below) i [])[k]'hk2)).length ws NB ∧ EL w0 (E1 ++ (OB ++ (E ++ F))) ws (growDay (dys below) (seg (dys below) i []) k q ((seg (dys below) i [])[k]'hk2)) ∧ St w0 w (NB ++ (E1 ++ (OB ++ (E ++ F))))) (below) ?_ ?_
          ·
            exact ⟨0, vN, NB, E1, ws, rfl, by omega, by omega, by rw [growDay_zero]; exact hown1, by rw [growDay_zero]; exact hel1, hs⟩
          ·
            intro k vs μ w44 hI K43 hN42
            obtain ⟨q, vN, NB, E1, ws, rfl, hqa, rfl, hown2, hel2, hs⟩ := hI
            refine w_seq (fun K46 hK45 => ?_)
            refine w_seq (fun K48 hK47 => ?_)
            refine w_region ?_
            refine w_pure want_none (y_move (v := .int _ _) rfl rfl) rfl ?_
            refine w_pure want_none (y_move (v := .int _ _) rfl rfl) rfl ?_
            refine w_pure want_none (y_leq rfl rfl rfl rfl) rfl ?_
            refine w_nil ?_
            refine q_then (hK47 _ _ ?_)
            refine w_cond rfl rfl (fun h49 => ?_) (fun h49 => ?_)
            ·
              try simp only [Bool.not_eq_true', Bool.not_eq_false', decide_eq_true_eq, decide_eq_false_iff_not, Int.not_lt, Int.not_le] at h49
              refine w_skip ?_
              refine q_then (hK45 _ _ ?_)
              refine w_seq (fun K51 hK50 => ?_)
              refine w_block ?_
              have hq2 : q < below := by omega
              have hgl := growDay_len below (seg (dys below) i []) k q ((seg (dys below) i [])[k]'hk2) hbe hsm (by omega)
              refine w_region ?_
              refine w_pure want_none (y_move (v := vN) rfl rfl) rfl ?_
              refine w_bslice (ps := []) (pv := []) (cs := []) want_none rfl rfl (fun w => Try_V_fb9  w) hs (fun b52 w53 hs54 => ?_)
              refine w_pure want_none (y_move (v := .slice _ _ _) rfl rfl) rfl ?_
              refine w_pure want_none (y_move (v := .int _ _) rfl rfl) rfl ?_
              refine w_pure want_none (y_indexS Try.underlying62 Try.sizeOf27 rfl rfl rfl rfl (i := _) rfl (by omega)) rfl ?_
              refine w_pure want_none (y_load1 Try.isAgg27 hs54.tail.drop.drop rfl rfl hx) rfl ?_
              refine w_append (X := ([])) (B := [_]) (rows := (((seg (dys below) i [])[k]'hk2).map fun x => [Value.int .i64 x])) (sz := 1) (bytes := 8) want_none Try.underlying27 Try_info3 rfl rfl rfl rfl rfl rfl rfl rfl rfl hs54 own_made hsx0.app.app.cons (by simp) hnx (by intro row hr u hu; obtain ⟨x, _, rfl⟩ := List.mem_map.1 hr; simp at hu; subst hu; rfl) (by simp only [maxLen]; omega) (by omega) (fun v55 w56 B57 ho58 hs59 => ?_)
              replace hs59 := (show St _ _ (B57 ++ (NB ++ (E1 ++ (OB ++ (E ++ (F)))))) from hs59)
              refine w_pure want_none (y_move (v := .int _ _) rfl rfl) rfl ?_
              refine w_bslice (ps := [(0, _)]) (pv := [(0, .int _ _)]) (cs := [_]) want_none rfl rfl (fun w => Try_V_fb10 _ w) hs59 (fun b60 w61 hs62 => ?_)
              refine w_append (X := (_ :: [])) (B := B57) (rows := [[_]]) (sz := 1) (bytes := 8) want_none Try.underlying27 Try_info3 rfl rfl rfl rfl rfl rfl rfl rfl rfl hs62 ho58 (sl_own (i := 0) rfl (by simp) rfl) rfl (by simp) (by simp [Value.oneCell']) (by simp only [maxLen]; omega) (by omega) (fun v63 w64 B65 ho66 hs67 => ?_)
              replace hs67 := (show St _ _ (_ :: B65 ++ (NB ++ (E1 ++ (OB ++ (E ++ (F)))))) from hs67)
              obtain ⟨a3, c3, rfl, hsl3, hn3⟩ := own_new (w0 := w0) ho66 (E1 ++ (OB ++ (E ++ F)))
              refine w_bslice (ps := [(0, _)]) (pv := [(0, .slice _ _ _)]) (cs := [_]) want_none rfl rfl (fun w => Try_V_fb8 _ _ _ w) hs67 (fun b68 w69 hs70 => ?_)
              refine w_append (X := (_ :: _ :: B65)) (B := NB) (rows := [[_]]) (sz := 1) (bytes := 24) want_none Try.underlying62 Try_info27 rfl rfl rfl rfl rfl rfl rfl rfl rfl hs70 hown2 (sl_own (i := 0) rfl (by simp) rfl) rfl (by simp) (by simp [Value.oneCell']) (by simp only [maxLen]; omega) (by omega) (fun v71 w72 B73 ho74 hs75 => ?_)
              replace hs75 := (show St _ _ (_ :: _ :: B65 ++ (B73 ++ (E1 ++ (OB ++ (E ++ (F)))))) from hs75)
              refine w_pure want_none (y_assign (v := v71) rfl rfl) rfl ?_
              refine w_nil ?_
              refine q_blk_normal ?_
              refine q_then (hK50 _ _ ?_)
              refine w_region ?_
              refine w_pure want_none (y_move (v := .int _ _) rfl rfl) rfl ?_
              refine w_pure want_none (y_add rfl rfl rfl rfl (by omega) (by omega)) rfl ?_
              refine w_pure want_none (y_assign (v := .int _ _) rfl rfl) rfl ?_
              refine w_nil ?_
              refine q_then (hN42 _ _ (Nx.intro (below - (q + 1)) (by omega) (by repeat (first | exact agree_mix | refine agree_upd rfl ?_ | refine agree_updL rfl ?_ _ | refine agree_mixin rfl ?_)) ?_))
              exact ⟨q + 1, _, _, B65 ++ E1, _, rfl, by omega, rfl, by rw [growDay_succ]; exact own_more ho74, by rw [growDay_succ]; exact el_more hel2 hsl3 hn3, all_perm hs75⟩
            ·
              try simp only [Bool.not_eq_true', Bool.not_eq_false', decide_eq_true_eq, decide_eq_false_iff_not, Int.not_lt, Int.not_le] at h49
              refine w_exit ?_
              refine q_then_exit ?_
              refine q_then_exit ?_
              refine q_blk_this ?_
              refine q_then (hK38 _ _ ?_)
              have hqb : q = below := by omega
              rw [hqb] at hown2 hel2
              have hgl := growDay_len below (seg (dys below) i []) k below ((seg (dys below) i [])[k]'hk2) hbe hsm (by omega)
              refine w_region ?_
              refine w_pure want_none (y_move (v := vN) rfl rfl) rfl ?_
              refine w_bslice (ps := []) (pv := []) (cs := []) want_none rfl rfl (fun w => Try_V_fb9  w) hs (fun b76 w77 hs78 => ?_)
              refine w_pure want_none (y_move (v := .slice _ _ _) rfl rfl) rfl ?_
              refine w_pure want_none (y_move (v := .int _ _) rfl rfl) rfl ?_
              refine w_pure want_none (y_indexS Try.underlying62 Try.sizeOf27 rfl rfl rfl rfl (i := _) rfl (by omega)) rfl ?_
              refine w_pure want_none (y_load1 Try.isAgg27 hs78.tail.drop.drop rfl rfl hx) rfl ?_
              refine w_append (X := ([])) (B := [_]) (rows := (((seg (dys below) i [])[k]'hk2).map fun x => [Value.int .i64 x])) (sz := 1) (bytes := 8) want_none Try.underlying27 Try_info3 rfl rfl rfl rfl rfl rfl rfl rfl rfl hs78 own_made hsx0.app.app.cons (by simp) hnx (by intro row hr u hu; obtain ⟨x, _, rfl⟩ := List.mem_map.1 hr; simp at hu; subst hu; rfl) (by simp only [maxLen]; omega) (by omega) (fun v79 w80 B81 ho82 hs83 => ?_)
              replace hs83 := (show St _ _ (B81 ++ (NB ++ (E1 ++ (OB ++ (E ++ (F)))))) from hs83)
              refine w_bslice (ps := [(0, _)]) (pv := [(0, .int _ _)]) (cs := [_]) want_none rfl rfl (fun w => Try_V_fb10 _ w) hs83 (fun b84 w85 hs86 => ?_)
              refine w_append (X := (_ :: [])) (B := B81) (rows := [[_]]) (sz := 1) (bytes := 8) want_none Try.underlying27 Try_info3 rfl rfl rfl rfl rfl rfl rfl rfl rfl hs86 ho82 (sl_own (i := 0) rfl (by simp) rfl) rfl (by simp) (by simp [Value.oneCell']) (by simp only [maxLen]; omega) (by omega) (fun v87 w88 B89 ho90 hs91 => ?_)
              replace hs91 := (show St _ _ (_ :: B89 ++ (NB ++ (E1 ++ (OB ++ (E ++ (F)))))) from hs91)
              obtain ⟨a3, c3, rfl, hsl3, hn3⟩ := own_new (w0 := w0) ho90 (E1 ++ (OB ++ (E ++ F)))
              refine w_bslice (ps := [(0, _)]) (pv := [(0, .slice _ _ _)]) (cs := [_]) want_none rfl rfl (fun w => Try_V_fb8 _ _ _ w) hs91 (fun b92 w93 hs94 => ?_)
              refine w_append (X := (_ :: _ :: B89)) (B := NB) (rows := [[_]]) (sz := 1) (bytes := 24) want_none Try.underlying62 Try_info27 rfl rfl rfl rfl rfl rfl rfl rfl rfl hs94 hown2 (sl_own (i := 0) rfl (by simp) rfl) rfl (by simp) (by simp [Value.oneCell']) (by simp only [maxLen]; omega) (by omega) (fun v95 w96 B97 ho98 hs99 => ?_)
              replace hs99 := (show St _ _ (_ :: _ :: B89 ++ (B97 ++ (E1 ++ (OB ++ (E ++ (F)))))) from hs99)
              refine w_pure want_none (y_assign (v := v95) rfl rfl) rfl ?_
              refine w_nil ?_
              refine q_blk_normal ?_
              refine q_then (hK36 _ _ ?_)
              refine w_region ?_
              refine w_pure want_none (y_move (v := .int _ _) rfl rfl) rfl ?_
              refine w_pure want_none (y_add rfl rfl rfl rfl (by omega) (by omega)) rfl ?_
              refine w_pure want_none (y_assign (v := .int _ _) rfl rfl) rfl ?_
              refine w_nil ?_
              refine q_then (hN28 _ _ (Nx.intro ((seg (dys below) i []).length - (k + 1)) (by omega) (by repeat (first | exact agree_mix | refine agree_upd rfl ?_ | refine agree_updL rfl ?_ _ | refine agree_mixin rfl ?_)) ?_))
              exact ⟨k + 1, _, _, B89 ++ E1, _, rfl, by omega, by omega, by rw [growDay_all hk2]; exact own_more ho98, by rw [growDay_all hk2]; exact el_more hel2 hsl3 hn3, all_perm hs99⟩
        ·
          try simp only [Bool.not_eq_true', Bool.not_eq_false', decide_eq_true_eq, decide_eq_false_iff_not, Int.not_lt, Int.not_le] at h35
          refine w_exit ?_
          refine q_then_exit ?_
          refine q_then_exit ?_
          refine q_blk_this ?_
          refine q_then (hK24 _ _ ?_)
          refine w_region ?_
          refine w_pure want_none (y_move (v := vN) rfl rfl) rfl ?_
          refine w_pure want_none (y_assign (v := vN) rfl rfl) rfl ?_
          refine w_nil ?_
          refine q_blk_normal ?_
          refine q_then (hK20 _ _ ?_)
          refine w_region ?_
          refine w_pure want_none (y_move (v := .int _ _) rfl rfl) rfl ?_
          refine w_pure want_none (y_add rfl rfl rfl rfl (by omega) (by omega)) rfl ?_
          refine w_pure want_none (y_assign (v := .int _ _) rfl rfl) rfl ?_
          refine w_nil ?_
          refine q_then (hN12 _ _ (Nx.intro (n - (i + 1)) (by omega) (by repeat (first | exact agree_mix | refine agree_upd rfl ?_ | refine agree_updL rfl ?_ _ | refine agree_mixin rfl ?_)) ?_))
          rw [grow_all (dys below) (seg (dys below) i []) (by omega), ← seg_snoc] at hown1 hel1
          exact ⟨i + 1, vN, NB, _, _, rfl, by omega, rfl, hown1, el_next hel1, all_next hs⟩
    ·
      try simp only [Bool.not_eq_true', Bool.not_eq_false', decide_eq_true_eq, decide_eq_false_iff_not, Int.not_lt, Int.not_le] at h19
      refine w_exit ?_
      refine q_then_exit ?_
      refine q_then_exit ?_
      refine q_blk_this ?_
      refine q_then (hK8 _ _ ?_)
      refine w_seq (fun K101 hK100 => ?_)
      refine w_region ?_
      refine w_pure want_none (y_move (v := vO) rfl rfl) rfl ?_
      refine w_pure want_none (y_assign (v := vO) rfl rfl) rfl ?_
      refine w_nil ?_
      refine q_then (hK100 _ _ ?_)
      refine w_ret ?_
      refine q_ret (l := [.tmp 6]) (vs := [_]) rfl ⟨⟨rfl, show _ = (vO : Value) from rfl⟩, trivial⟩ ?_
      have hin : i = n := by omega
      subst hin
      obtain ⟨aO, cO, rfl, hslO⟩ := own_sl_id (w0 := w0) hown0 hel.1 (E ++ F)
      rw [← List.append_assoc] at hslO
      exact ⟨OB ++ E, vs, aO, cO, rfl, hslO, hel.mono fun _ h => by rw [List.append_assoc] at h; exact h.drop, by rw [List.append_assoc]; exact hs⟩

end Go.Proofs
