/- Own texts of this claim, joined. No conditions. -/
import Derived.Test.YtiemgahjdgajmaaHHandNexta
import Derived.Test.YtiemgahjdgajmaaHHandNextb
import Derived.Test.YtiemgahjdgajmaaHHandNextc
import Derived.Test.YtiemgahjdgajmaaHHandNextd
import Derived.Test.YtiemgahjdgajmaaHHandNexte
import Derived.Test.YtiemgahjdgajmaaHHandNextf
import Derived.Test.YtiemgahjdgajmaaHHandNextg
/- Plain words of the hand layer: totals, picks and others over the ways, step by step. No conditions. -/
set_option linter.unusedSimpArgs false
set_option linter.unusedVariables false
namespace Go.Rt.Ha
theorem kE_chk (l : Lot) : kE l (check l).2.2 = enterE l 0 := by
  rw [← kE_enter l 0]
  congr 1
  split <;> omega
theorem sumsR_in {l : Lot} {g : Int} {h : List Int} (hh : ∀ b, 0 ≤ at_ h b ∧ at_ h b ≤ 12) : ∀ k, 0 ≤ (sumsR l g h k).1 ∧ (sumsR l g h k).1 ≤ 12 * k ∧ 0 ≤ (sumsR l g h k).2 ∧ (sumsR l g h k).2 ≤ 12 * k
  | 0 => by simp [sumsR]
  | k + 1 => by
    have ih := sumsR_in (l := l) (g := g) hh k
    have hx := hh k
    simp only [sumsR]
    split
    · split <;> (dsimp only; omega)
    · omega
theorem sumsR_a {l : Lot} {g : Int} {h : List Int} {k : Nat} (e : hasI (gradesL l.grades (at_ h k) (scarsOf l k)) g = true) (e2 : (gradesL l.grades (at_ h k) (scarsOf l k)).length = 1) : sumsR l g h (k + 1) = ((sumsR l g h k).1 + at_ h k, (sumsR l g h k).2 + at_ h k) := by
  simp only [sumsR]; rw [if_pos e, if_pos e2]
theorem sumsR_b {l : Lot} {g : Int} {h : List Int} {k : Nat} (e : hasI (gradesL l.grades (at_ h k) (scarsOf l k)) g = true) (e2 : ¬ (gradesL l.grades (at_ h k) (scarsOf l k)).length = 1) : sumsR l g h (k + 1) = ((sumsR l g h k).1, (sumsR l g h k).2 + at_ h k) := by
  simp only [sumsR]; rw [if_pos e, if_neg e2]
theorem sumsR_c {l : Lot} {g : Int} {h : List Int} {k : Nat} (e : hasI (gradesL l.grades (at_ h k) (scarsOf l k)) g = false) : sumsR l g h (k + 1) = sumsR l g h k := by
  simp only [sumsR]; rw [if_neg (by simp [e])]
theorem totalR_take {l : Lot} {g : Int} {ws : List (List Int)} {i : Nat} (h : i < ws.length) : totalR l g (ws.take (i + 1)) = (min (min (totalR l g (ws.take i)).1 (sumsR l g ws[i] l.bunches.length).1) (sumsR l g ws[i] l.bunches.length).2, max (max (totalR l g (ws.take i)).2 (sumsR l g ws[i] l.bunches.length).1) (sumsR l g ws[i] l.bunches.length).2) := fold_take _ _ h
theorem sureR_yes {l : Lot} {ws : List (List Int)} {i : Nat} (h : mustR l ws i (-1) = true) : sureR l ws (i + 1) = sureR l ws i ++ [(i : Int)] := by simp only [sureR]; rw [if_pos h]
theorem sureR_no {l : Lot} {ws : List (List Int)} {i : Nat} (h : mustR l ws i (-1) = false) : sureR l ws (i + 1) = sureR l ws i := by simp only [sureR]; rw [if_neg (by simp [h]), List.append_nil]
theorem mayR_yes {l : Lot} {ws : List (List Int)} {i : Nat} (h : couldR l ws i (-1) = true) : mayR l ws (i + 1) = mayR l ws i ++ [(i : Int)] := by simp only [mayR]; rw [if_pos h]
theorem mayR_no {l : Lot} {ws : List (List Int)} {i : Nat} (h : couldR l ws i (-1) = false) : mayR l ws (i + 1) = mayR l ws i := by simp only [mayR]; rw [if_neg (by simp [h]), List.append_nil]
theorem sureR_len (l : Lot) (ws : List (List Int)) : ∀ n, (sureR l ws n).length ≤ n
  | 0 => by simp [sureR]
  | n + 1 => by have := sureR_len l ws n; simp only [sureR, List.length_append]; split <;> simp <;> omega
theorem mayR_len (l : Lot) (ws : List (List Int)) : ∀ n, (mayR l ws n).length ≤ n
  | 0 => by simp [mayR]
  | n + 1 => by have := mayR_len l ws n; simp only [mayR, List.length_append]; split <;> simp <;> omega
theorem fitR_yes {l : Lot} {ws : List (List Int)} {g b : Nat} (h : noneTo l ws b g (l.grades.length - (g + 1)) = true) : fitR l ws g (b + 1) = fitR l ws g b ++ [(b : Int)] := by simp only [fitR]; rw [if_pos h]
theorem fitR_no {l : Lot} {ws : List (List Int)} {g b : Nat} (h : noneTo l ws b g (l.grades.length - (g + 1)) = false) : fitR l ws g (b + 1) = fitR l ws g b := by simp only [fitR]; rw [if_neg (by simp [h]), List.append_nil]
theorem fitR_in (l : Lot) (ws : List (List Int)) (g : Nat) : ∀ b, (fitR l ws g b).length ≤ b ∧ ∀ z ∈ fitR l ws g b, 0 ≤ z ∧ z < b
  | 0 => by simp [fitR]
  | b + 1 => by
    have ih := fitR_in l ws g b
    simp only [fitR, List.length_append]
    refine ⟨by split <;> simp <;> omega, fun z hz => ?_⟩
    rcases List.mem_append.1 hz with h | h
    · have := ih.2 z h; omega
    · split at h <;> simp at h
      omega
theorem least_take {ws : List (List Int)} {own : List Int} {i : Nat} (h : i < ws.length) : leastR (ws.take (i + 1)) own = min (leastR (ws.take i) own) (someOf ws[i] own) := fold_take _ _ h
theorem some_take {h own : List Int} {k : Nat} (hk : k < own.length) : someOf h (own.take (k + 1)) = someOf h (own.take k) + at_ h own[k].toNat := by rw [List.take_succ_eq_append_getElem hk, someOf_snoc]
theorem often_yes {b : Nat} {n : Int} {ws : List (List Int)} {i : Nat} (h : i < ws.length) (e : at_ ws[i] b = n) : often b n (ws.take (i + 1)) = often b n (ws.take i) + 1 := by rw [often_take h, if_pos e]
theorem often_no {b : Nat} {n : Int} {ws : List (List Int)} {i : Nat} (h : i < ws.length) (e : ¬ at_ ws[i] b = n) : often b n (ws.take (i + 1)) = often b n (ws.take i) := by rw [often_take h, if_neg e]; omega
theorem most_succ (b : Nat) (ws : List (List Int)) (n : Nat) : mostTo b ws (n + 1) = max (mostTo b ws n) (often b (n : Int) ws) := rfl
theorem nextR_yes {ws : List (List Int)} {k : Nat} (h : (spanR k ws).1 < (spanR k ws).2) (h2 : (nextRTo ws k).1 < 0 ∨ leftW k ws < (nextRTo ws k).2) : nextRTo ws (k + 1) = ((k : Int), leftW k ws) := by simp only [nextRTo]; rw [if_pos ⟨h, h2⟩]
theorem nextR_no {ws : List (List Int)} {k : Nat} (h : ¬ (spanR k ws).1 < (spanR k ws).2 ∨ (¬ (nextRTo ws k).1 < 0 ∧ ¬ leftW k ws < (nextRTo ws k).2)) : nextRTo ws (k + 1) = nextRTo ws k := by simp only [nextRTo]; rw [if_neg (by rintro ⟨h1, h2⟩; omega)]
/-! ### Picks -/
def pickC (l : Lot) (g m : Int) : Int := if (check l).2.2 = 0 then pickE l g m else (check l).2.2
theorem pickC_enter (l : Lot) (g m : Int) : kE l (pickC l g m) = enterE l (pickE l g m) := kE_enter l _
theorem pickC_zero {l : Lot} {g m : Int} (h : pickC l g m = 0) : (check l).2.2 = 0 ∧ pickE l g m = 0 := by
  unfold pickC at h
  split at h
  · rename_i h1; exact ⟨h1, h⟩
  · rename_i h1; exact absurd h h1
theorem pickC_e {l : Lot} {g m : Int} (h : ¬ idxC l g l.grades.length = 0) : idxC l g l.grades.length = pickC l g m := by
  unfold pickC pickE
  unfold idxC at h ⊢
  by_cases h1 : (check l).2.2 = 0
  · rw [if_pos h1] at h ⊢
    rw [if_pos h1, if_pos h]
  · rw [if_neg h1, if_neg h1]
theorem pickC_7 {l : Lot} {g m : Int} (h : idxC l g l.grades.length = 0) (h2 : ¬ (0 ≤ m ∧ m ≤ 72)) : 7 = pickC l g m := by
  have h1 := idxC_ok h
  unfold idxC at h
  rw [if_pos h1] at h
  unfold pickC pickE
  rw [if_pos h1, if_neg (by simp [h]), if_pos]
  unfold out; rw [Bool.or_eq_true]; simp; omega
theorem pickC_0 {l : Lot} {g m : Int} (h : idxC l g l.grades.length = 0) (h2 : 0 ≤ m ∧ m ≤ 72) : idxC l g l.grades.length = pickC l g m := by
  have h1 := idxC_ok h
  rw [h]
  unfold idxC at h
  rw [if_pos h1] at h
  unfold pickC pickE
  rw [if_pos h1, if_neg (by simp [h]), if_neg]
  unfold out; rw [Bool.or_eq_true]; simp; omega
theorem sets_split {s : List Int} {k n : Nat} (h : k ≤ n) : ∃ r, setsTo s n = setsTo s k ++ r := by
  obtain ⟨d, rfl⟩ : ∃ d, n = k + d := ⟨n - k, by omega⟩
  clear h
  induction d with
  | zero => exact ⟨[], by simp⟩
  | succ d ih =>
    obtain ⟨r, hr⟩ := ih
    exact ⟨r ++ setsMany s (k + d), by rw [show k + (d + 1) = (k + d) + 1 by omega, setsTo, hr, List.append_assoc]⟩
theorem find_here {s : List Int} {p : List Int → Bool} {k q : Nat} (hk : k ≤ s.length) (h1 : (setsTo s k).find? p = none) (h2 : (((choices s.length k).take q).map (pickL s)).find? p = none) (hq : q < (choices s.length k).length) (hp : p (pickL s (choices s.length k)[q]) = true) : (setsL s).find? p = some (pickL s (choices s.length k)[q]) := by
  obtain ⟨r, hr⟩ := sets_split (s := s) (k := k + 1) (n := s.length + 1) (by omega)
  unfold setsL
  rw [hr, setsTo, List.append_assoc, List.find?_append, h1, Option.none_or, List.find?_append]
  have : (setsMany s k).find? p = some (pickL s (choices s.length k)[q]) := by
    have e : setsMany s k = ((choices s.length k).take q).map (pickL s) ++ (pickL s (choices s.length k)[q] :: ((choices s.length k).drop (q + 1)).map (pickL s)) := by
      unfold setsMany
      rw [← List.map_cons (f := pickL s), ← List.drop_eq_getElem_cons hq, ← List.map_append, List.take_append_drop]
    rw [e, List.find?_append, h2, Option.none_or, List.find?_cons, hp]
  rw [this]; rfl
theorem find_next {s : List Int} {p : List Int → Bool} {k q : Nat} (h2 : (((choices s.length k).take q).map (pickL s)).find? p = none) (hq : q < (choices s.length k).length) (hp : p (pickL s (choices s.length k)[q]) = false) : (((choices s.length k).take (q + 1)).map (pickL s)).find? p = none := by
  rw [List.take_succ_eq_append_getElem hq, List.map_append, List.find?_append, h2, Option.none_or]
  simp [hp]
theorem find_on {s : List Int} {p : List Int → Bool} {k q : Nat} (h1 : (setsTo s k).find? p = none) (h2 : (((choices s.length k).take q).map (pickL s)).find? p = none) (hq : (choices s.length k).length ≤ q) : (setsTo s (k + 1)).find? p = none := by
  rw [List.take_of_length_le hq] at h2
  rw [setsTo, List.find?_append, h1, Option.none_or]; exact h2
theorem pickP_some {l : Lot} {g m : Int} {x : List Int} (he : enterE l (pickE l g m) = 0) (h : (setsL (fitR l (ways l 0) g.toNat l.bunches.length)).find? (fun own => decide (m ≤ leastR (ways l 0) own)) = some x) : pickP l g m = (x, 0) := by
  rw [← pick_same]; unfold pickR; rw [if_neg (by simp [he]), h]
theorem pickP_none {l : Lot} {g m : Int} (he : enterE l (pickE l g m) = 0) (h : (setsL (fitR l (ways l 0) g.toNat l.bunches.length)).find? (fun own => decide (m ≤ leastR (ways l 0) own)) = none) : pickP l g m = ([], 9) := by
  rw [← pick_same]; unfold pickR; rw [if_neg (by simp [he]), h]
theorem wrongP_some {l : Lot} {x : List Int} (hc : (check l).2.2 = 0) (h : (choicesTo l.counts.length l.counts.length).find? (fun x => !(waysR l x).isEmpty) = some x) : wrongP l = (x, 0) := by
  rw [← wrong_same]; unfold wrongR; rw [if_neg (by simp [hc]), h]
theorem wrongP_none {l : Lot} (hc : (check l).2.2 = 0) (h : (choicesTo l.counts.length l.counts.length).find? (fun x => !(waysR l x).isEmpty) = none) : wrongP l = ((choices l.counts.length l.counts.length).getD 0 [], 0) := by
  rw [← wrong_same]; unfold wrongR; rw [if_neg (by simp [hc]), h]
theorem cTo_split {n k m : Nat} (h : k ≤ m) : ∃ r, choicesTo n m = choicesTo n k ++ r := by
  obtain ⟨d, rfl⟩ : ∃ d, m = k + d := ⟨m - k, by omega⟩
  clear h
  induction d with
  | zero => exact ⟨[], by simp⟩
  | succ d ih =>
    obtain ⟨r, hr⟩ := ih
    exact ⟨r ++ choices n (k + d), by rw [show k + (d + 1) = (k + d) + 1 by omega, choicesTo, hr, List.append_assoc]⟩
theorem cfind_here {n : Nat} {p : List Int → Bool} {k q : Nat} (hk : k < n) (h1 : (choicesTo n k).find? p = none) (h2 : ((choices n k).take q).find? p = none) (hq : q < (choices n k).length) (hp : p (choices n k)[q] = true) : (choicesTo n n).find? p = some (choices n k)[q] := by
  obtain ⟨r, hr⟩ := cTo_split (n := n) (k := k + 1) (m := n) (by omega)
  rw [hr, choicesTo, List.append_assoc, List.find?_append, h1, Option.none_or, List.find?_append]
  have : (choices n k).find? p = some (choices n k)[q] := by
    have e : ((choices n k).take q ++ (choices n k).drop q).find? p = some (choices n k)[q] := by
      rw [List.drop_eq_getElem_cons hq, List.find?_append, h2, Option.none_or, List.find?_cons, hp]
    rwa [List.take_append_drop] at e
  rw [this]; rfl
theorem cfind_next {n : Nat} {p : List Int → Bool} {k q : Nat} (h2 : ((choices n k).take q).find? p = none) (hq : q < (choices n k).length) (hp : p (choices n k)[q] = false) : ((choices n k).take (q + 1)).find? p = none := by
  rw [List.take_succ_eq_append_getElem hq, List.find?_append, h2, Option.none_or]; simp [hp]
theorem cfind_on {n : Nat} {p : List Int → Bool} {k q : Nat} (h1 : (choicesTo n k).find? p = none) (h2 : ((choices n k).take q).find? p = none) (hq : (choices n k).length ≤ q) : (choicesTo n (k + 1)).find? p = none := by
  rw [List.take_of_length_le hq] at h2
  rw [choicesTo, List.find?_append, h1, Option.none_or]; exact h2
theorem pick_idx {s : List Int} {k q j : Nat} (hq : q < (choices s.length k).length) (hj : j < ((choices s.length k)[q]).length) : 0 ≤ ((choices s.length k)[q])[j] ∧ ((choices s.length k)[q])[j].toNat < s.length := by
  have h1 := (choices_len (below := s.length) k _ (List.getElem_mem hq)).2 _ (List.getElem_mem hj)
  omega
theorem pickL_in {s : List Int} {k q : Nat} (hq : q < (choices s.length k).length) : ∀ z ∈ pickL s (choices s.length k)[q], z ∈ s := by
  intro z hz
  unfold pickL at hz
  obtain ⟨y, hy, rfl⟩ := List.mem_map.1 hz
  have h1 := (choices_len (below := s.length) k _ (List.getElem_mem hq)).2 y hy
  have hl : y.toNat < s.length := by omega
  simp only [List.getD, List.getElem?_eq_getElem hl, Option.getD_some]
  exact List.getElem_mem hl
end Go.Rt.Ha
/- Walks of this seat, printed by gen.py over the engine: what each function returns, in whatever world. No conditions but those of each contract. -/
set_option linter.unusedVariables false
set_option linter.unusedSimpArgs false
set_option maxRecDepth 20000
namespace Go.Proofs
open Go.Rt Go.Rt.Ha
attribute [local irreducible] WL WC Con Yd At Ats Sl Agree DW
theorem Try_Yd_fb6 (x0 : Option Addr) (l0 c0 : Nat) (w : World) : (Instr.buildSlice 64 1 [(0, .slice x0 l0 c0)].toArray).run Try.prog w = .ok (.slice (some ⟨w.heap.size, 0, none⟩) 1 1) (w.alloc (Go.Rt.blk 37 [.slice x0 l0 c0])) := by kernel_rfl
theorem Try_Yd_fb7  (w : World) : (Instr.buildSlice 37 0 [].toArray).run Try.prog w = .ok (.slice (some ⟨w.heap.size, 0, none⟩) 0 0) (w.alloc (Go.Rt.blk 3 [])) := by kernel_rfl
theorem Try_Yd_fb8 (x0 : Int) (w : World) : (Instr.buildSlice 37 1 [(0, .int .i64 x0)].toArray).run Try.prog w = .ok (.slice (some ⟨w.heap.size, 0, none⟩) 1 1) (w.alloc (Go.Rt.blk 3 [.int .i64 x0])) := by kernel_rfl
theorem c87 {w0 w : World} {F : List (Nat × Obj)} (below many : Nat) (hb12 : below ≤ 11) (hm12 : many ≤ 11) (hs : St w0 w F) : Con Try.prog 87 [.int .i64 (below : Int), .int .i64 (many : Int)] w fun v w' => ∃ (B : List (Nat × Obj)) (vs : List Value) (a : Option Addr) (c : Nat), v = .slice a (choices below many).length c ∧ Sl w0 B a 1 (vs.map fun v => [v]) ∧ EL w0 B vs (choices below many) ∧ St w0 w' (B ++ F) := by
  refine con_of_wc (n := 54) Try.func87 rfl rfl (Nat.le_of_ble_eq_true rfl) ?_
  refine w_seq (fun K2 hK1 => ?_)
  refine w_region ?_
  refine w_pure want_none (y_assign (v := _) rfl rfl) rfl ?_
  refine w_nil ?_
  refine q_then (hK1 _ _ ?_)
  refine w_seq (fun K4 hK3 => ?_)
  refine w_region ?_
  refine w_bslice (ps := [(0, _)]) (pv := [(0, .slice _ _ _)]) (cs := [_]) want_none rfl rfl (fun w => Try_Yd_fb6 _ _ _ w) hs (fun b5 w6 hs7 => ?_)
  refine w_pure want_none (y_assign (v := .slice _ _ _) rfl rfl) rfl ?_
  refine w_nil ?_
  refine q_then (hK3 _ _ ?_)
  refine w_seq (fun K9 hK8 => ?_)
  refine w_seq (fun K11 hK10 => ?_)
  refine w_region ?_
  refine w_pure want_none (y_assign (v := _) rfl rfl) rfl ?_
  refine w_nil ?_
  refine q_then (hK10 _ _ ?_)
  refine w_block ?_
  refine w_loop [5, 6, 7, 8, 9, 10, 12, 13, 14, 15, 16, 17, 18, 19, 20, 21, 22, 23, 24, 25, 26, 27, 28, 29, 30, 31, 32, 33, 34, 35, 36, 37, 38, 39, 40, 41, 42, 43, 44, 45, 46, 47, 48, 49, 50, 51, 52] [5, 6] (fun kk vs0 w => ∃ (i : Nat) (vO : Value) (OB E : List (Nat × Obj)) (vs : List Value), vs0 = [vO, .int .i64 i] ∧ i ≤ many ∧ kk = many - i ∧ Rt.Own vO 37 1 (choices below i).length vs OB ∧ EL w0 E vs (choices below i) ∧ St w0 w (OB ++ (E ++ F))) (many) ?_ ?_
  ·
   exact ⟨0, _, [_], [], [.slice none 0 0], rfl, by omega, by omega, own_lit rfl (by simp [maxLen]), ⟨rfl, fun k hk => ⟨none, 0, by simp [choices] at hk; subst hk; rfl, by simp [choices] at hk; subst hk; exact Sl.nil _ _, fun _ => rfl⟩⟩, hs7⟩
  ·
   intro k vs μ w14 hI K13 hN12
   obtain ⟨i, vO, OB, E, vs, rfl, hia, rfl, hown0, hel, hs⟩ := hI
   refine w_seq (fun K16 hK15 => ?_)
   refine w_seq (fun K18 hK17 => ?_)
   refine w_region ?_
   refine w_pure want_none (y_move (v := .int _ _) rfl rfl) rfl ?_
   refine w_pure want_none (y_move (v := .int _ _) rfl rfl) rfl ?_
   refine w_pure want_none (y_lss rfl rfl rfl rfl) rfl ?_
   refine w_nil ?_
   refine q_then (hK17 _ _ ?_)
   refine w_cond rfl rfl (fun h19 => ?_) (fun h19 => ?_)
   ·
    try simp only [Bool.not_eq_true', Bool.not_eq_false', decide_eq_true_eq, decide_eq_false_iff_not, Int.not_lt, Int.not_le] at h19
    refine w_skip ?_
    refine q_then (hK15 _ _ ?_)
    refine w_seq (fun K21 hK20 => ?_)
    refine w_block ?_
    refine w_seq (fun K23 hK22 => ?_)
    have hi2 : i < many := by omega
    have hcm := choices_max (i := i) hb12 (by omega)
    have hcl := choices_len (below := below) i
    obtain ⟨aO, cO, rfl, hslO⟩ := own_sl_id (w0 := w0) hown0 hel.1 (E ++ F)
    refine w_region ?_
    refine w_pure want_none (y_assign (v := _) rfl rfl) rfl ?_
    refine w_nil ?_
    refine q_then (hK22 _ _ ?_)
    refine w_seq (fun K25 hK24 => ?_)
    refine w_seq (fun K27 hK26 => ?_)
    refine w_region ?_
    refine w_pure want_none (y_assign (v := _) rfl rfl) rfl ?_
    refine w_nil ?_
    refine q_then (hK26 _ _ ?_)
    refine w_block ?_
    refine w_loop [7, 8, 9, 10, 17, 18, 19, 20, 21, 22, 23, 24, 25, 26, 27, 28, 29, 30, 31, 32, 33, 34, 35, 36, 37, 38, 39, 40, 41, 42, 43, 44, 45, 46, 47, 48, 49, 50, 51] [7, 8] (fun kk vs0 w => ∃ (k : Nat) (vN : Value) (NB E1 : List (Nat × Obj)) (ws : List Value), vs0 = [vN, .int .i64 k] ∧ k ≤ (choices below i).length ∧ kk = (choices below i).length - k ∧ Rt.Own vN 37 1 (chTo below i k).length ws NB ∧ EL w0 E1 ws (chTo below i k) ∧ St w0 w (NB ++ (E1 ++ (OB ++ (E ++ F))))) ((choices below i).length) ?_ ?_
    ·
     exact ⟨0, _, [], [], [], rfl, by omega, by omega, own_nil 37 1, EL.nil _ _, hs⟩
    ·
     intro k vs μ w30 hI K29 hN28
     obtain ⟨k, vN, NB, E1, ws, rfl, hka, rfl, hown1, hel1, hs⟩ := hI
     refine w_seq (fun K32 hK31 => ?_)
     refine w_seq (fun K34 hK33 => ?_)
     refine w_region ?_
     refine w_pure want_none (y_move (v := .int _ _) rfl rfl) rfl ?_
     refine w_pure want_none (y_move (v := .slice _ _ _) rfl rfl) rfl ?_
     refine w_pure want_none (y_lenS Try.underlying64 rfl rfl) rfl ?_
     refine w_pure want_none (y_lss rfl rfl rfl rfl) rfl ?_
     refine w_nil ?_
     refine q_then (hK33 _ _ ?_)
     refine w_cond rfl rfl (fun h35 => ?_) (fun h35 => ?_)
     ·
      try simp only [Bool.not_eq_true', Bool.not_eq_false', decide_eq_true_eq, decide_eq_false_iff_not, Int.not_lt, Int.not_le] at h35
      refine w_skip ?_
      refine q_then (hK31 _ _ ?_)
      refine w_seq (fun K37 hK36 => ?_)
      refine w_block ?_
      refine w_seq (fun K39 hK38 => ?_)
      have hk2 : k < (choices below i).length := by omega
      obtain ⟨bx, ox, b2, c2, rfl, hx, hsx0, hnx⟩ := el_at hslO (hel.mono fun _ h => h.drop.front) hk2
      have hxl := (hcl _ (List.getElem_mem hk2)).1
      have hln := leastN_nn (List.getElem_mem hk2)
      refine w_region ?_
      refine w_pure want_none (y_assign (v := _) rfl rfl) rfl ?_
      refine w_nil ?_
      refine q_then (hK38 _ _ ?_)
      refine w_seq (fun K41 hK40 => ?_)
      refine w_cut [9, 23, 24, 25, 26, 27, 28, 29, 30, 31, 32, 33] [9] (fun vs w => vs = [.int .i64 (leastN ((choices below i)[k]'hk2))] ∧ St w0 w (NB ++ (E1 ++ (OB ++ (E ++ F))))) (fun K43 hC42 => ?_) ?_
      ·
       refine w_seq (fun K45 hK44 => ?_)
       refine w_region ?_
       refine w_pure want_none (y_move (v := .int _ _) rfl rfl) rfl ?_
       refine w_pure want_none (y_gtr rfl rfl rfl rfl) rfl ?_
       refine w_nil ?_
       refine q_then (hK44 _ _ ?_)
       refine w_cond rfl rfl (fun h46 => ?_) (fun h46 => ?_)
       ·
        try simp only [Bool.not_eq_true', Bool.not_eq_false', decide_eq_true_eq, decide_eq_false_iff_not, Int.not_lt, Int.not_le] at h46
        obtain ⟨by_, oy, hb2, hy⟩ := sl_ints (i := i - 1) hsx0 (by omega)
        subst hb2
        have hyb := (hcl _ (List.getElem_mem hk2)).2 _ (List.getElem_mem (show i - 1 < ((choices below i)[k]'hk2).length by omega))
        refine w_region ?_
        refine w_pure want_none (y_move (v := .slice _ _ _) rfl rfl) rfl ?_
        refine w_pure want_none (y_move (v := .int _ _) rfl rfl) rfl ?_
        refine w_pure want_none (y_indexS Try.underlying64 Try.sizeOf37 rfl rfl rfl rfl (i := _) rfl (by omega)) rfl ?_
        refine w_pure want_none (y_load1 Try.isAgg37 hs.drop.drop rfl rfl hx) rfl ?_
        refine w_pure want_none (y_move (v := .int _ _) rfl rfl) rfl ?_
        refine w_pure want_none (y_sub rfl rfl rfl rfl (by omega) (by omega)) rfl ?_
        refine w_pure want_none (y_indexS Try.underlying37 Try.sizeOf3 rfl rfl rfl rfl (i := i - 1) (by omega) (by omega)) rfl ?_
        refine w_pure want_none (y_load1 Try.isAgg3 hs.drop.drop rfl rfl hy) rfl ?_
        refine w_pure want_none (y_add rfl rfl rfl rfl (by omega) (by omega)) rfl ?_
        refine w_pure want_none (y_assign (v := .int _ _) rfl rfl) rfl ?_
        refine w_nil ?_
        refine q_then (hC42 _ _ (Md.intro (by repeat (first | exact agree_refl | exact agree_mix | refine agree_upd rfl ?_ | refine agree_updL rfl ?_ _ | refine agree_mixin rfl ?_)) ?_))
        first
          | exact ⟨by rw [leastN_at hxl (by omega)]; rfl, hs⟩
          | exact ⟨by have hi0 : i = 0 := (by omega); have : leastN ((choices below i)[k]'hk2) = 0 := (by unfold leastN; rw [List.getLast?_eq_none_iff.2 (List.eq_nil_of_length_eq_zero (by omega))]); rw [this]; rfl, hs⟩
       ·
        try simp only [Bool.not_eq_true', Bool.not_eq_false', decide_eq_true_eq, decide_eq_false_iff_not, Int.not_lt, Int.not_le] at h46
        refine w_skip ?_
        refine q_then (hC42 _ _ (Md.intro (by repeat (first | exact agree_refl | exact agree_mix | refine agree_upd rfl ?_ | refine agree_updL rfl ?_ _ | refine agree_mixin rfl ?_)) ?_))
        first
          | exact ⟨by rw [leastN_at hxl (by omega)]; rfl, hs⟩
          | exact ⟨by have hi0 : i = 0 := (by omega); have : leastN ((choices below i)[k]'hk2) = 0 := (by unfold leastN; rw [List.getLast?_eq_none_iff.2 (List.eq_nil_of_length_eq_zero (by omega))]); rw [this]; rfl, hs⟩
      ·
       intro vs μ w47 hM
       obtain ⟨rfl, hs⟩ := hM
       refine q_then (hK40 _ _ ?_)
       refine w_seq (fun K49 hK48 => ?_)
       refine w_region ?_
       refine w_pure want_none (y_move (v := .int _ _) rfl rfl) rfl ?_
       refine w_pure want_none (y_assign (v := .int _ _) rfl rfl) rfl ?_
       refine w_nil ?_
       refine q_then (hK48 _ _ ?_)
       refine w_block ?_
       refine w_loop [7, 10, 35, 36, 37, 38, 39, 40, 41, 42, 43, 44, 45, 46, 47, 48, 49, 50, 51] [7, 10] (fun kk vs0 w => ∃ (n : Nat) (vN : Value) (NB E1 : List (Nat × Obj)) (ws : List Value), vs0 = [vN, .int .i64 n] ∧ n ≤ below ∧ leastN ((choices below i)[k]'hk2) ≤ n ∧ kk = below - n ∧ Rt.Own vN 37 1 (chTo below i k ++ nextTo ((choices below i)[k]'hk2) n).length ws NB ∧ EL w0 E1 ws (chTo below i k ++ nextTo ((choices below i)[k]'hk2) n) ∧ St w0 w (NB ++ (E1 ++ (OB ++ (E ++ F))))) (below - (leastN ((choices below i)[k]'hk2)).toNat) ?_ ?_
       ·
        have hn0 : nextTo ((choices below i)[k]'hk2) (leastN ((choices below i)[k]'hk2)).toNat = [] := nextTo_none (by omega)
        exact ⟨(leastN ((choices below i)[k]'hk2)).toNat, vN, NB, E1, ws, by rw [Int.toNat_of_nonneg hln.1]; rfl, by omega, by omega, by omega, by rw [hn0, List.append_nil]; exact hown1, by rw [hn0, List.append_nil]; exact hel1, hs⟩
       ·
        intro k vs μ w52 hI K51 hN50
        obtain ⟨n, vN, NB, E1, ws, rfl, hqa, hqb, rfl, hown2, hel2, hs⟩ := hI
        refine w_seq (fun K54 hK53 => ?_)
        refine w_seq (fun K56 hK55 => ?_)
        refine w_region ?_
        refine w_pure want_none (y_move (v := .int _ _) rfl rfl) rfl ?_
        refine w_pure want_none (y_move (v := .int _ _) rfl rfl) rfl ?_
        refine w_pure want_none (y_lss rfl rfl rfl rfl) rfl ?_
        refine w_nil ?_
        refine q_then (hK55 _ _ ?_)
        refine w_cond rfl rfl (fun h57 => ?_) (fun h57 => ?_)
        ·
         try simp only [Bool.not_eq_true', Bool.not_eq_false', decide_eq_true_eq, decide_eq_false_iff_not, Int.not_lt, Int.not_le] at h57
         refine w_skip ?_
         refine q_then (hK53 _ _ ?_)
         refine w_seq (fun K59 hK58 => ?_)
         refine w_block ?_
         have hq2 : n < below := by omega
         have hnl := nextTo_len ((choices below i)[k]'hk2) n
         have hgl : (chTo below i k).length ≤ 285311670611 := by
           have h1 := flat_le (m := below) ((choices below i).take k) (f := fun x => nextTo x below) fun x _ => nextTo_len x below
           have h2 := choices_max (below := below) (i := i + 1) hb12 (by omega)
           have h3 := List.take_append_drop k (choices below i)
           have h4 : (choices below (i + 1)).length = (chTo below i k).length + (((choices below i).drop k).flatMap fun x => nextTo x below).length := by
             rw [← List.length_append]; unfold chTo; rw [← List.flatMap_append, h3]; rfl
           omega
         refine w_region ?_
         refine w_pure want_none (y_move (v := vN) rfl rfl) rfl ?_
         refine w_bslice (ps := []) (pv := []) (cs := []) want_none rfl rfl (fun w => Try_Yd_fb7  w) hs (fun b60 w61 hs62 => ?_)
         refine w_pure want_none (y_move (v := .slice _ _ _) rfl rfl) rfl ?_
         refine w_pure want_none (y_move (v := .int _ _) rfl rfl) rfl ?_
         refine w_pure want_none (y_indexS Try.underlying64 Try.sizeOf37 rfl rfl rfl rfl (i := _) rfl (by omega)) rfl ?_
         refine w_pure want_none (y_load1 Try.isAgg37 hs62.tail.drop.drop rfl rfl hx) rfl ?_
         refine w_append (X := ([])) (B := [_]) (rows := (((choices below i)[k]'hk2).map fun x => [Value.int .i64 x])) (sz := 1) (bytes := 8) want_none Try.underlying37 Try_info3 rfl rfl rfl rfl rfl rfl rfl rfl rfl hs62 own_made hsx0.app.app.cons (by simp) hnx (ints_one _) (by simp only [maxLen]; omega) (by omega) (fun v63 w64 B65 ho66 hs67 => ?_)
         replace hs67 := (show St _ _ (B65 ++ (NB ++ (E1 ++ (OB ++ (E ++ (F)))))) from hs67)
         refine w_pure want_none (y_move (v := .int _ _) rfl rfl) rfl ?_
         refine w_bslice (ps := [(0, _)]) (pv := [(0, .int _ _)]) (cs := [_]) want_none rfl rfl (fun w => Try_Yd_fb8 _ w) hs67 (fun b68 w69 hs70 => ?_)
         refine w_append (X := (_ :: [])) (B := B65) (rows := [[_]]) (sz := 1) (bytes := 8) want_none Try.underlying37 Try_info3 rfl rfl rfl rfl rfl rfl rfl rfl rfl hs70 ho66 (sl_own (i := 0) rfl (by simp) rfl) rfl (by simp) (by simp [Value.oneCell']) (by simp only [maxLen]; omega) (by omega) (fun v71 w72 B73 ho74 hs75 => ?_)
         replace hs75 := (show St _ _ (_ :: B73 ++ (NB ++ (E1 ++ (OB ++ (E ++ (F)))))) from hs75)
         obtain ⟨a3, c3, rfl, hsl3, hn3, _⟩ := own_ints (w0 := w0) (own_ints1 ho74)
         refine w_bslice (ps := [(0, _)]) (pv := [(0, .slice _ _ _)]) (cs := [_]) want_none rfl rfl (fun w => Try_Yd_fb6 _ _ _ w) hs75 (fun b76 w77 hs78 => ?_)
         refine w_append (X := (_ :: _ :: B73)) (B := NB) (rows := [[_]]) (sz := 1) (bytes := 24) want_none Try.underlying64 Try_info37 rfl rfl rfl rfl rfl rfl rfl rfl rfl hs78 hown2 (sl_own (i := 0) rfl (by simp) rfl) rfl (by simp) (by simp [Value.oneCell']) (by simp only [maxLen, List.length_append]; omega) (by simp only [List.length_append]; omega) (fun v79 w80 B81 ho82 hs83 => ?_)
         replace hs83 := (show St _ _ (_ :: _ :: B73 ++ (B81 ++ (E1 ++ (OB ++ (E ++ (F)))))) from hs83)
         refine w_pure want_none (y_assign (v := v79) rfl rfl) rfl ?_
         refine w_nil ?_
         refine q_blk_normal ?_
         refine q_then (hK58 _ _ ?_)
         refine w_region ?_
         refine w_pure want_none (y_move (v := .int _ _) rfl rfl) rfl ?_
         refine w_pure want_none (y_add rfl rfl rfl rfl (by omega) (by omega)) rfl ?_
         refine w_pure want_none (y_assign (v := .int _ _) rfl rfl) rfl ?_
         refine w_nil ?_
         refine q_then (hN50 _ _ (Nx.intro (below - (n + 1)) (by omega) (by repeat (first | exact agree_mix | refine agree_upd rfl ?_ | refine agree_updL rfl ?_ _ | refine agree_mixin rfl ?_)) ?_))
         exact ⟨n + 1, _, _, B73 ++ E1, _, rfl, by omega, by omega, rfl, by rw [nextTo_succ hqb, ← List.append_assoc]; exact own_el ho82, by rw [nextTo_succ hqb, ← List.append_assoc]; exact el_more hel2 hsl3 hn3, el_perm hs83⟩
        ·
         try simp only [Bool.not_eq_true', Bool.not_eq_false', decide_eq_true_eq, decide_eq_false_iff_not, Int.not_lt, Int.not_le] at h57
         refine w_exit ?_
         refine q_then_exit ?_
         refine q_then_exit ?_
         refine q_blk_this ?_
         refine q_blk_normal ?_
         refine q_then (hK36 _ _ ?_)
         refine w_region ?_
         refine w_pure want_none (y_move (v := .int _ _) rfl rfl) rfl ?_
         refine w_pure want_none (y_add rfl rfl rfl rfl (by omega) (by omega)) rfl ?_
         refine w_pure want_none (y_assign (v := .int _ _) rfl rfl) rfl ?_
         refine w_nil ?_
         refine q_then (hN28 _ _ (Nx.intro ((choices below i).length - (k + 1)) (by omega) (by repeat (first | exact agree_mix | refine agree_upd rfl ?_ | refine agree_updL rfl ?_ _ | refine agree_mixin rfl ?_)) ?_))
         have hqb : n = below := by omega
         subst hqb
         exact ⟨k + 1, vN, NB, E1, ws, rfl, by omega, by omega, by rw [chTo_succ hk2]; exact hown2, by rw [chTo_succ hk2]; exact hel2, hs⟩
     ·
      try simp only [Bool.not_eq_true', Bool.not_eq_false', decide_eq_true_eq, decide_eq_false_iff_not, Int.not_lt, Int.not_le] at h35
      refine w_exit ?_
      refine q_then_exit ?_
      refine q_then_exit ?_
      refine q_blk_this ?_
      refine q_then (hK24 _ _ ?_)
      refine w_region ?_
      refine w_pure want_none (y_move (v := vN) rfl rfl) rfl ?_
      refine w_pure want_none (y_assign (v := vN) rfl rfl) rfl ?_
      refine w_nil ?_
      refine q_blk_normal ?_
      refine q_then (hK20 _ _ ?_)
      refine w_region ?_
      refine w_pure want_none (y_move (v := .int _ _) rfl rfl) rfl ?_
      refine w_pure want_none (y_add rfl rfl rfl rfl (by omega) (by omega)) rfl ?_
      refine w_pure want_none (y_assign (v := .int _ _) rfl rfl) rfl ?_
      refine w_nil ?_
      refine q_then (hN12 _ _ (Nx.intro (many - (i + 1)) (by omega) (by repeat (first | exact agree_mix | refine agree_upd rfl ?_ | refine agree_updL rfl ?_ _ | refine agree_mixin rfl ?_)) ?_))
      rw [chTo_all (by omega)] at hown1 hel1
      exact ⟨i + 1, vN, NB, E1, ws, rfl, by omega, rfl, hown1, hel1, (hs.perm (el_drop2 NB E1 OB E F)).drop⟩
   ·
    try simp only [Bool.not_eq_true', Bool.not_eq_false', decide_eq_true_eq, decide_eq_false_iff_not, Int.not_lt, Int.not_le] at h19
    refine w_exit ?_
    refine q_then_exit ?_
    refine q_then_exit ?_
    refine q_blk_this ?_
    refine q_then (hK8 _ _ ?_)
    refine w_seq (fun K85 hK84 => ?_)
    refine w_region ?_
    refine w_pure want_none (y_move (v := vO) rfl rfl) rfl ?_
    refine w_pure want_none (y_assign (v := vO) rfl rfl) rfl ?_
    refine w_nil ?_
    refine q_then (hK84 _ _ ?_)
    refine w_ret ?_
    refine q_ret (l := [.tmp 4]) (vs := [_]) rfl ⟨⟨rfl, show _ = (vO : Value) from rfl⟩, trivial⟩ ?_
    have hin : i = many := by omega
    subst hin
    obtain ⟨aO, cO, rfl, hslO⟩ := own_sl_id (w0 := w0) hown0 hel.1 E
    exact ⟨OB ++ E, vs, aO, cO, rfl, hslO, hel.app, by rw [List.append_assoc]; exact hs⟩

theorem c46 {w0 w : World} {F : List (Nat × Obj)} (l : Lot) (p : At3) (hm : LIn w0 F l p) (hok : l.Ok) (a : Option Addr) (c : Nat) (ws : List (List Int)) (vs : List Value) (hsl : Sl w0 F a 1 (vs.map fun v => [v])) (hel : EL w0 F vs ws) (hwl : ws.length ≤ 4096) (hlen0 : ∀ h ∈ ws, h.length = l.bunches.length) (g : Nat) (hg : g < l.grades.length) (hs : St w0 w F) :
  Con Try.prog 46 [.agg (l.cells p).toArray, .slice a ws.length c, .int .i64 (g : Int)] w fun v w' => ∃ B, Rt.Own v 3 1 (fitR l ws g l.bunches.length).length (iv (fitR l ws g l.bunches.length)) B ∧ St w0 w' (B ++ F) := by
  refine con_of_wc (n := 47) Try.func46 rfl rfl (Nat.le_of_ble_eq_true rfl) ?_
  have hlg := hok.lg
  have hlb := hok.lb
  refine w_seq (fun K2 hK1 => ?_)
  refine w_region ?_
  refine w_box (v := .agg #[.slice _ _ _, .slice _ _ _, .slice _ _ _]) (cs := [_, _, _]) want_none rfl rfl rfl hs (fun b3 w4 hs5 => ?_)
  refine w_pure want_none (y_assign (v := _) rfl rfl) rfl ?_
  refine w_nil ?_
  refine q_then (hK1 _ _ ?_)
  refine w_seq (fun K7 hK6 => ?_)
  have hbx := ats_ofR (i := 0) (vs := l.cells p) hs5 rfl rfl
  refine w_region ?_
  refine w_pure want_none (y_assign (v := _) rfl rfl) rfl ?_
  refine w_nil ?_
  refine q_then (hK6 _ _ ?_)
  refine w_seq (fun K9 hK8 => ?_)
  refine w_seq (fun K11 hK10 => ?_)
  refine w_region ?_
  refine w_pure want_none (y_assign (v := _) rfl rfl) rfl ?_
  refine w_nil ?_
  refine q_then (hK10 _ _ ?_)
  refine w_block ?_
  refine w_loop [7, 8, 9, 10, 11, 12, 13, 14, 15, 16, 17, 18, 19, 20, 21, 22, 23, 24, 25, 26, 27, 28, 29, 30, 31, 32, 33, 34, 35, 36, 37, 38, 39, 40, 41, 42, 43, 44, 45] [7, 8] (fun kk vs0 w => ∃ (i : Nat) (v : Value) (OB : List (Nat × Obj)), vs0 = [v, .int .i64 i] ∧ i ≤ l.bunches.length ∧ kk = l.bunches.length - i ∧ Rt.Own v 3 1 (fitR l ws g i).length (iv (fitR l ws g i)) OB ∧ St w0 w (OB ++ ((b3, blk 26 (l.cells p)) :: F))) (l.bunches.length) ?_ ?_
  ·
   exact ⟨0, _, [], rfl, by omega, by omega, own_nil 3 1, hs5⟩
  ·
   intro k vs μ w14 hI K13 hN12
   obtain ⟨i, v, OB, rfl, hia, rfl, hown, hs⟩ := hI
   refine w_seq (fun K16 hK15 => ?_)
   refine w_seq (fun K18 hK17 => ?_)
   refine w_region ?_
   refine w_pure want_none (y_move (v := .int _ _) rfl rfl) rfl ?_
   refine w_pure want_none (y_fieldAddr (o := 1) (i := 1) Try.underlying26 rfl Try.sizeOf23 rfl rfl rfl) rfl ?_
   refine w_pure want_none (y_load1 Try.isAgg23 hs.drop rfl rfl (show Ats _ _ _ _ [_] from Ats.part hbx 1 1)) rfl ?_
   refine w_pure want_none (y_lenS Try.underlying23 rfl rfl) rfl ?_
   refine w_pure want_none (y_lss rfl rfl rfl rfl) rfl ?_
   refine w_nil ?_
   refine q_then (hK17 _ _ ?_)
   refine w_cond rfl rfl (fun h19 => ?_) (fun h19 => ?_)
   ·
    try simp only [Bool.not_eq_true', Bool.not_eq_false', decide_eq_true_eq, decide_eq_false_iff_not, Int.not_lt, Int.not_le] at h19
    refine w_skip ?_
    refine q_then (hK15 _ _ ?_)
    refine w_seq (fun K21 hK20 => ?_)
    refine w_block ?_
    refine w_seq (fun K23 hK22 => ?_)
    have hi2 : i < l.bunches.length := by omega
    have hfl := (fitR_in l ws g i).1
    refine w_region ?_
    refine w_pure want_none (y_loadN (vs := [_, _, _]) Try.isAgg26 Try.sizeOf26 hs.drop rfl rfl hbx) rfl ?_
    refine w_pure want_none (y_move (v := .slice _ _ _) rfl rfl) rfl ?_
    refine w_pure want_none (y_move (v := .int _ _) rfl rfl) rfl ?_
    refine w_call want_none Try.call76 rfl rfl rfl rfl (c76 l p hm.cons.app hok _ _ ws vs hsl.cons.app hel.cons.app hwl i hi2 (fun h hh => by rw [hlen0 h hh]; omega) (-1) hs) ?_
    rintro _ w25 ⟨rfl, hs26⟩
    refine w_pure want_none (y_not rfl rfl) rfl ?_
    refine w_pure want_none (y_assign (v := .bool _) rfl rfl) rfl ?_
    refine w_nil ?_
    refine q_then (hK22 _ _ ?_)
    refine w_seq (fun K28 hK27 => ?_)
    refine w_seq (fun K30 hK29 => ?_)
    refine w_region ?_
    refine w_pure want_none (y_move (v := .int _ _) rfl rfl) rfl ?_
    refine w_pure want_none (y_add rfl rfl rfl rfl (by omega) (by omega)) rfl ?_
    refine w_pure want_none (y_assign (v := .int _ _) rfl rfl) rfl ?_
    refine w_nil ?_
    refine q_then (hK29 _ _ ?_)
    refine w_block ?_
    refine w_loop [9, 10, 25, 26, 27, 28, 29, 30, 31, 32, 33, 34, 35, 36, 37, 38, 39, 40] [9, 10] (fun kk vs0 w => ∃ (q : Nat), vs0 = [.bool (noneTo l ws i g q), .int .i64 ((g : Int) + 1 + q)] ∧ q ≤ (l.grades.length - (g + 1)) ∧ kk = (l.grades.length - (g + 1)) - q ∧ St w0 w (OB ++ ((b3, blk 26 (l.cells p)) :: F))) ((l.grades.length - (g + 1))) ?_ ?_
    ·
     exact ⟨0, bi2 rfl (by omega), by omega, by omega, hs26⟩
    ·
     intro k vs μ w33 hI K32 hN31
     obtain ⟨q, rfl, hqa, rfl, hs⟩ := hI
     generalize hnt : (noneTo l ws i g q) = nt
     refine w_seq (fun K35 hK34 => ?_)
     refine w_seq (fun K37 hK36 => ?_)
     refine w_region ?_
     refine w_pure want_none (y_move (v := .int _ _) rfl rfl) rfl ?_
     refine w_pure want_none (y_fieldAddr (o := 0) (i := 0) Try.underlying26 rfl Try.sizeOf22 rfl rfl rfl) rfl ?_
     refine w_pure want_none (y_load1 Try.isAgg22 hs.drop rfl rfl (show Ats _ _ _ _ [_] from Ats.part hbx 0 1)) rfl ?_
     refine w_pure want_none (y_lenS Try.underlying22 rfl rfl) rfl ?_
     refine w_pure want_none (y_lss rfl rfl rfl rfl) rfl ?_
     refine w_nil ?_
     refine q_then (hK36 _ _ ?_)
     refine w_cond rfl rfl (fun h38 => ?_) (fun h38 => ?_)
     ·
      try simp only [Bool.not_eq_true', Bool.not_eq_false', decide_eq_true_eq, decide_eq_false_iff_not, Int.not_lt, Int.not_le] at h38
      refine w_skip ?_
      refine q_then (hK34 _ _ ?_)
      refine w_seq (fun K40 hK39 => ?_)
      refine w_block ?_
      refine w_region ?_
      refine w_pure want_none (y_move (v := .bool _) rfl rfl) rfl ?_
      refine w_pure want_none (y_move (v := .bool _) rfl rfl) rfl ?_
      refine w_split (fun h41 => ?_) (fun h41 => ?_)
      ·
       subst h41
       refine w_pure (want_yes rfl rfl rfl) (y_loadN (vs := [_, _, _]) Try.isAgg26 Try.sizeOf26 hs.drop rfl rfl hbx) rfl ?_
       refine w_pure (want_yes rfl rfl rfl) (y_move (v := .slice _ _ _) rfl rfl) rfl ?_
       refine w_pure (want_yes rfl rfl rfl) (y_move (v := .int _ _) rfl rfl) rfl ?_
       refine w_pure (want_yes rfl rfl rfl) (y_move (v := .int _ _) rfl rfl) rfl ?_
       refine w_call (want_yes rfl rfl rfl) Try.call76 rfl rfl rfl rfl (c76 l p hm.cons.app hok _ _ ws vs hsl.cons.app hel.cons.app hwl i hi2 (fun h hh => by rw [hlen0 h hh]; omega) ((g : Int) + 1 + q) hs) ?_
       rintro _ w43 ⟨rfl, hs44⟩
       refine w_pure (want_yes rfl rfl rfl) (y_not rfl rfl) rfl ?_
       refine w_pure want_none (y_pickT (v := .bool _) rfl rfl rfl rfl) rfl ?_
       refine w_pure want_none (y_assign (v := .bool _) rfl rfl) rfl ?_
       refine w_nil ?_
       refine q_blk_normal ?_
       refine q_then (hK39 _ _ ?_)
       refine w_region ?_
       refine w_pure want_none (y_move (v := .int _ _) rfl rfl) rfl ?_
       refine w_pure want_none (y_add rfl rfl rfl rfl (by omega) (by omega)) rfl ?_
       refine w_pure want_none (y_assign (v := .int _ _) rfl rfl) rfl ?_
       refine w_nil ?_
       refine q_then (hN31 _ _ (Nx.intro ((l.grades.length - (g + 1)) - (q + 1)) (by omega) (by repeat (first | exact agree_mix | refine agree_upd rfl ?_ | refine agree_updL rfl ?_ _ | refine agree_mixin rfl ?_)) ?_))
       exact ⟨q + 1, bi2 (by simp only [noneTo]; rw [hnt]; rfl) (by omega), by omega, rfl, hs44⟩
      ·
       subst h41
       refine w_skipop rfl rfl rfl ?_
       refine w_skipop rfl rfl rfl ?_
       refine w_skipop rfl rfl rfl ?_
       refine w_skipop rfl rfl rfl ?_
       refine w_skipop rfl rfl rfl ?_
       refine w_skipop rfl rfl rfl ?_
       refine w_pure want_none (y_pickF (v := _) rfl rfl rfl rfl) rfl ?_
       refine w_pure want_none (y_assign (v := .bool _) rfl rfl) rfl ?_
       refine w_nil ?_
       refine q_blk_normal ?_
       refine q_then (hK39 _ _ ?_)
       refine w_region ?_
       refine w_pure want_none (y_move (v := .int _ _) rfl rfl) rfl ?_
       refine w_pure want_none (y_add rfl rfl rfl rfl (by omega) (by omega)) rfl ?_
       refine w_pure want_none (y_assign (v := .int _ _) rfl rfl) rfl ?_
       refine w_nil ?_
       refine q_then (hN31 _ _ (Nx.intro ((l.grades.length - (g + 1)) - (q + 1)) (by omega) (by repeat (first | exact agree_mix | refine agree_upd rfl ?_ | refine agree_updL rfl ?_ _ | refine agree_mixin rfl ?_)) ?_))
       exact ⟨q + 1, bi2 (by simp only [noneTo]; rw [hnt]; rfl) (by omega), by omega, rfl, hs⟩
     ·
      try simp only [Bool.not_eq_true', Bool.not_eq_false', decide_eq_true_eq, decide_eq_false_iff_not, Int.not_lt, Int.not_le] at h38
      refine w_exit ?_
      refine q_then_exit ?_
      refine q_then_exit ?_
      refine q_blk_this ?_
      refine q_then (hK27 _ _ ?_)
      refine w_seq (fun K46 hK45 => ?_)
      refine w_region ?_
      refine w_pure want_none (y_move (v := .bool _) rfl rfl) rfl ?_
      refine w_nil ?_
      refine q_then (hK45 _ _ ?_)
      refine w_cond rfl rfl (fun h47 => ?_) (fun h47 => ?_)
      ·
       subst h47
       refine w_region ?_
       refine w_pure want_none (y_move (v := v) rfl rfl) rfl ?_
       refine w_pure want_none (y_move (v := .int _ _) rfl rfl) rfl ?_
       refine w_bslice (ps := [(0, _)]) (pv := [(0, .int _ _)]) (cs := [_]) want_none rfl rfl (fun w => Try_Yd_fb8 _ w) hs (fun b48 w49 hs50 => ?_)
       refine w_append (X := (_ :: [])) (B := OB) (rows := [[_]]) (sz := 1) (bytes := 8) want_none Try.underlying37 Try_info3 rfl rfl rfl rfl rfl rfl rfl rfl rfl hs50 hown (sl_own (i := 0) rfl (by simp) rfl) rfl (by simp) (by simp [Value.oneCell']) (by simp only [maxLen]; omega) (by omega) (fun v51 w52 B53 ho54 hs55 => ?_)
       replace hs55 := (show St _ _ (_ :: B53 ++ (_ :: F)) from hs55)
       refine w_pure want_none (y_assign (v := v51) rfl rfl) rfl ?_
       refine w_nil ?_
       refine q_blk_normal ?_
       refine q_then (hK20 _ _ ?_)
       refine w_region ?_
       refine w_pure want_none (y_move (v := .int _ _) rfl rfl) rfl ?_
       refine w_pure want_none (y_add rfl rfl rfl rfl (by omega) (by omega)) rfl ?_
       refine w_pure want_none (y_assign (v := .int _ _) rfl rfl) rfl ?_
       refine w_nil ?_
       refine q_then (hN12 _ _ (Nx.intro (l.bunches.length - (i + 1)) (by omega) (by repeat (first | exact agree_mix | refine agree_upd rfl ?_ | refine agree_updL rfl ?_ _ | refine agree_mixin rfl ?_)) ?_))
       have hqn : q = (l.grades.length - (g + 1)) := by omega
       subst hqn
       exact ⟨i + 1, _, _, rfl, by omega, rfl, by rw [fitR_yes hnt]; exact own_snoc ho54, hs55.tail⟩
      ·
       subst h47
       refine w_skip ?_
       refine q_blk_normal ?_
       refine q_then (hK20 _ _ ?_)
       refine w_region ?_
       refine w_pure want_none (y_move (v := .int _ _) rfl rfl) rfl ?_
       refine w_pure want_none (y_add rfl rfl rfl rfl (by omega) (by omega)) rfl ?_
       refine w_pure want_none (y_assign (v := .int _ _) rfl rfl) rfl ?_
       refine w_nil ?_
       refine q_then (hN12 _ _ (Nx.intro (l.bunches.length - (i + 1)) (by omega) (by repeat (first | exact agree_mix | refine agree_upd rfl ?_ | refine agree_updL rfl ?_ _ | refine agree_mixin rfl ?_)) ?_))
       have hqn : q = (l.grades.length - (g + 1)) := by omega
       subst hqn
       exact ⟨i + 1, v, OB, rfl, by omega, rfl, by rw [fitR_no hnt]; exact hown, hs⟩
   ·
    try simp only [Bool.not_eq_true', Bool.not_eq_false', decide_eq_true_eq, decide_eq_false_iff_not, Int.not_lt, Int.not_le] at h19
    refine w_exit ?_
    refine q_then_exit ?_
    refine q_then_exit ?_
    refine q_blk_this ?_
    refine q_then (hK8 _ _ ?_)
    refine w_seq (fun K57 hK56 => ?_)
    refine w_region ?_
    refine w_pure want_none (y_move (v := v) rfl rfl) rfl ?_
    refine w_pure want_none (y_assign (v := v) rfl rfl) rfl ?_
    refine w_nil ?_
    refine q_then (hK56 _ _ ?_)
    refine w_ret ?_
    refine q_ret (l := [.tmp 6]) (vs := [_]) rfl ⟨⟨rfl, show _ = (v : Value) from rfl⟩, trivial⟩ ?_
    have hin : i = l.bunches.length := by omega
    subst hin
    exact ⟨OB, hown, kq_own hs⟩

theorem c48 {w0 w : World} {F : List (Nat × Obj)} (a : Option Addr) (c : Nat) (ws : List (List Int)) (vs : List Value) (hsl : Sl w0 F a 1 (vs.map fun v => [v])) (hel : EL w0 F vs ws) (hwl : ws.length ≤ 4096) (n : Nat) (hlen0 : ∀ h ∈ ws, h.length = n) (h12 : ∀ h ∈ ws, ∀ b, 0 ≤ at_ h b ∧ at_ h b ≤ 12) (ao : Option Addr) (co : Nat) (own : List Int) (hol : own.length ≤ 6) (hoi : ∀ z ∈ own, 0 ≤ z ∧ z < n) (hos : Sl w0 F ao 1 (own.map fun x => [Value.int .i64 x])) (hs : St w0 w F) :
  Con Try.prog 48 [.slice a ws.length c, .slice ao own.length co] w fun v w' => v = .int .i64 (leastR ws own) ∧ St w0 w' F := by
  refine con_of_wc (n := 37) Try.func48 rfl rfl (Nat.le_of_ble_eq_true rfl) ?_
  refine w_seq (fun K2 hK1 => ?_)
  refine w_region ?_
  refine w_pure want_none (y_assign (v := _) rfl rfl) rfl ?_
  refine w_nil ?_
  refine q_then (hK1 _ _ ?_)
  refine w_seq (fun K4 hK3 => ?_)
  refine w_region ?_
  refine w_pure want_none (y_assign (v := _) rfl rfl) rfl ?_
  refine w_nil ?_
  refine q_then (hK3 _ _ ?_)
  refine w_seq (fun K6 hK5 => ?_)
  refine w_seq (fun K8 hK7 => ?_)
  refine w_region ?_
  refine w_pure want_none (y_assign (v := _) rfl rfl) rfl ?_
  refine w_nil ?_
  refine q_then (hK7 _ _ ?_)
  refine w_block ?_
  refine w_loop [5, 6, 7, 8, 9, 10, 11, 12, 13, 14, 15, 16, 17, 18, 19, 20, 21, 22, 23, 24, 25, 26, 27, 28, 29, 30, 31, 32, 33, 34, 35] [5, 6] (fun k vs0 w => ∃ (i : Nat), vs0 = [.int .i64 (leastR (ws.take i) own), .int .i64 i] ∧ i ≤ ws.length ∧ k = ws.length - i ∧ St w0 w F) (ws.length) ?_ ?_
  ·
   exact ⟨0, rfl, by omega, by omega, hs⟩
  ·
   intro k vs μ w11 hI K10 hN9
   obtain ⟨i, rfl, hia, rfl, hs⟩ := hI
   refine w_seq (fun K13 hK12 => ?_)
   refine w_seq (fun K15 hK14 => ?_)
   refine w_region ?_
   refine w_pure want_none (y_move (v := .int _ _) rfl rfl) rfl ?_
   refine w_pure want_none (y_move (v := .slice _ _ _) rfl rfl) rfl ?_
   refine w_pure want_none (y_lenS Try.underlying64 rfl rfl) rfl ?_
   refine w_pure want_none (y_lss rfl rfl rfl rfl) rfl ?_
   refine w_nil ?_
   refine q_then (hK14 _ _ ?_)
   refine w_cond rfl rfl (fun h16 => ?_) (fun h16 => ?_)
   ·
    try simp only [Bool.not_eq_true', Bool.not_eq_false', decide_eq_true_eq, decide_eq_false_iff_not, Int.not_lt, Int.not_le] at h16
    refine w_skip ?_
    refine q_then (hK12 _ _ ?_)
    refine w_seq (fun K18 hK17 => ?_)
    refine w_block ?_
    refine w_seq (fun K20 hK19 => ?_)
    have hi2 : i < ws.length := by omega
    obtain ⟨bx, ox, e2, q2, ha, hx, hsx, _⟩ := el_at hsl hel hi2
    subst ha
    have hlen := hlen0 _ (List.getElem_mem hi2)
    have hwi := h12 _ (List.getElem_mem hi2)
    refine w_region ?_
    refine w_pure want_none (y_assign (v := _) rfl rfl) rfl ?_
    refine w_nil ?_
    refine q_then (hK19 _ _ ?_)
    refine w_seq (fun K22 hK21 => ?_)
    refine w_seq (fun K24 hK23 => ?_)
    refine w_region ?_
    refine w_pure want_none (y_assign (v := _) rfl rfl) rfl ?_
    refine w_nil ?_
    refine q_then (hK23 _ _ ?_)
    refine w_block ?_
    refine w_loop [7, 8, 15, 16, 17, 18, 19, 20, 21, 22, 23, 24, 25, 26, 27, 28, 29, 30, 31, 32] [7, 8] (fun k vs0 w => ∃ (q : Nat), vs0 = [.int .i64 (someOf (ws[i]'hi2) (own.take q)), .int .i64 q] ∧ q ≤ own.length ∧ k = own.length - q ∧ St w0 w F) (own.length) ?_ ?_
    ·
     exact ⟨0, rfl, by omega, by omega, hs⟩
    ·
     intro k vs μ w27 hI K26 hN25
     obtain ⟨q, rfl, hqa, rfl, hs⟩ := hI
     refine w_seq (fun K29 hK28 => ?_)
     refine w_seq (fun K31 hK30 => ?_)
     refine w_region ?_
     refine w_pure want_none (y_move (v := .int _ _) rfl rfl) rfl ?_
     refine w_pure want_none (y_move (v := .slice _ _ _) rfl rfl) rfl ?_
     refine w_pure want_none (y_lenS Try.underlying37 rfl rfl) rfl ?_
     refine w_pure want_none (y_lss rfl rfl rfl rfl) rfl ?_
     refine w_nil ?_
     refine q_then (hK30 _ _ ?_)
     refine w_cond rfl rfl (fun h32 => ?_) (fun h32 => ?_)
     ·
      try simp only [Bool.not_eq_true', Bool.not_eq_false', decide_eq_true_eq, decide_eq_false_iff_not, Int.not_lt, Int.not_le] at h32
      refine w_skip ?_
      refine q_then (hK28 _ _ ?_)
      refine w_seq (fun K34 hK33 => ?_)
      refine w_block ?_
      have hq2 : q < own.length := by omega
      have hz := hoi _ (List.getElem_mem hq2)
      have hbi : (own[q]'hq2).toNat < (ws[i]'hi2).length := by omega
      obtain ⟨c1, p1, he1, hy⟩ := sl_ints hsx hbi
      subst he1
      obtain ⟨c2, p2, he2, hw⟩ := sl_ints hos hq2
      subst he2
      have hsi := someOf_in hwi (own.take q)
      have hsl2 : (own.take q).length = q := by rw [List.length_take]; omega
      have hgz := hwi (own[q]'hq2).toNat
      rw [at_get hbi] at hgz
      refine w_draw [] [(0, 0), (1, 0), (2, 0), (3, 0), (4, 1), (5, 0), (6, 0), (7, 0), (8, 1), (9, 0), (10, 1), (11, 0), (12, 0)] Try_mo (drawOK_of (by kernel_rfl)) hs (fun w35 hs36 => ?_)
      refine d_any rfl want_none rfl (fun _ => (y_move (v := .int _ _) rfl rfl)) ?_
      refine d_any rfl want_none rfl (fun _ => (y_move (v := .slice _ _ _) rfl rfl)) ?_
      refine d_any rfl want_none rfl (fun _ => (y_move (v := .int _ _) rfl rfl)) ?_
      refine d_any rfl want_none rfl (fun _ => (y_indexS Try.underlying64 Try.sizeOf37 rfl rfl rfl rfl (i := _) rfl (by omega))) ?_
      refine d_take rfl want_none rfl hs36 (fun _ hq => (y_load1 Try.isAgg37 hq rfl rfl hx)) ?_
      refine d_any rfl want_none rfl (fun _ => (y_move (v := .slice _ _ _) rfl rfl)) ?_
      refine d_any rfl want_none rfl (fun _ => (y_move (v := .int _ _) rfl rfl)) ?_
      refine d_any rfl want_none rfl (fun _ => (y_indexS Try.underlying37 Try.sizeOf3 rfl rfl rfl rfl (i := _) rfl (by omega))) ?_
      refine d_take rfl want_none rfl hs36 (fun _ hq => (y_load1 Try.isAgg3 hq rfl rfl hw)) ?_
      refine d_any rfl want_none rfl (fun _ => (y_indexS Try.underlying37 Try.sizeOf3 rfl rfl rfl rfl (i := (own[q]'hq2).toNat) (by omega) (by omega))) ?_
      refine d_take rfl want_none rfl hs36 (fun _ hq => (y_load1 Try.isAgg3 hq rfl rfl hy)) ?_
      refine d_any rfl want_none rfl (fun _ => (y_add rfl rfl rfl rfl (by omega) (by omega))) ?_
      refine d_any rfl want_none rfl (fun _ => (y_assign (v := .int _ _) rfl rfl)) ?_
      refine d_nil ?_
      refine q_blk_normal ?_
      refine q_then (hK33 _ _ ?_)
      refine w_region ?_
      refine w_pure want_none (y_move (v := .int _ _) rfl rfl) rfl ?_
      refine w_pure want_none (y_add rfl rfl rfl rfl (by omega) (by omega)) rfl ?_
      refine w_pure want_none (y_assign (v := .int _ _) rfl rfl) rfl ?_
      refine w_nil ?_
      refine q_then (hN25 _ _ (Nx.intro (own.length - (q + 1)) (by omega) (by repeat (first | exact agree_mix | refine agree_upd rfl ?_ | refine agree_updL rfl ?_ _ | refine agree_mixin rfl ?_)) ?_))
      exact ⟨q + 1, iv2 (by rw [some_take hq2, at_get hbi]) rfl, by omega, rfl, hs36⟩
     ·
      try simp only [Bool.not_eq_true', Bool.not_eq_false', decide_eq_true_eq, decide_eq_false_iff_not, Int.not_lt, Int.not_le] at h32
      refine w_exit ?_
      refine q_then_exit ?_
      refine q_then_exit ?_
      refine q_blk_this ?_
      refine q_then (hK21 _ _ ?_)
      refine w_region ?_
      refine w_pure want_none (y_move (v := .int _ _) rfl rfl) rfl ?_
      refine w_pure want_none (y_move (v := .int _ _) rfl rfl) rfl ?_
      refine w_pure want_none (y_min2 rfl rfl rfl rfl) rfl ?_
      refine w_pure want_none (y_assign (v := .int _ _) rfl rfl) rfl ?_
      refine w_nil ?_
      refine q_blk_normal ?_
      refine q_then (hK17 _ _ ?_)
      refine w_region ?_
      refine w_pure want_none (y_move (v := .int _ _) rfl rfl) rfl ?_
      refine w_pure want_none (y_add rfl rfl rfl rfl (by omega) (by omega)) rfl ?_
      refine w_pure want_none (y_assign (v := .int _ _) rfl rfl) rfl ?_
      refine w_nil ?_
      refine q_then (hN9 _ _ (Nx.intro (ws.length - (i + 1)) (by omega) (by repeat (first | exact agree_mix | refine agree_upd rfl ?_ | refine agree_updL rfl ?_ _ | refine agree_mixin rfl ?_)) ?_))
      have hqn : q = own.length := by omega
      subst hqn
      exact ⟨i + 1, iv2 (by rw [least_take hi2, List.take_length]) rfl, by omega, rfl, hs⟩
   ·
    try simp only [Bool.not_eq_true', Bool.not_eq_false', decide_eq_true_eq, decide_eq_false_iff_not, Int.not_lt, Int.not_le] at h16
    refine w_exit ?_
    refine q_then_exit ?_
    refine q_then_exit ?_
    refine q_blk_this ?_
    refine q_then (hK5 _ _ ?_)
    refine w_seq (fun K38 hK37 => ?_)
    refine w_region ?_
    refine w_pure want_none (y_move (v := .int _ _) rfl rfl) rfl ?_
    refine w_pure want_none (y_assign (v := .int _ _) rfl rfl) rfl ?_
    refine w_nil ?_
    refine q_then (hK37 _ _ ?_)
    refine w_ret ?_
    refine q_ret (l := [.tmp 4]) (vs := [_]) rfl ⟨⟨rfl, show _ = (.int _ _ : Value) from rfl⟩, trivial⟩ ?_
    have hil : i = ws.length := by omega
    subst hil
    exact ⟨by rw [List.take_length]; rfl, hs⟩

theorem c55 {w0 w : World} {F : List (Nat × Obj)} (a : Option Addr) (c : Nat) (ws : List (List Int)) (vs : List Value) (hsl : Sl w0 F a 1 (vs.map fun v => [v])) (hel : EL w0 F vs ws) (hwl : ws.length ≤ 4096) (b : Nat) (hb : ∀ h ∈ ws, b < h.length) (hs : St w0 w F) :
  Con Try.prog 55 [.slice a ws.length c, .int .i64 (b : Int)] w fun v w' => v = .int .i64 (leftW b ws) ∧ St w0 w' F := by
  refine con_of_wc (n := 34) Try.func55 rfl rfl (Nat.le_of_ble_eq_true rfl) ?_
  refine w_seq (fun K2 hK1 => ?_)
  refine w_region ?_
  refine w_pure want_none (y_assign (v := _) rfl rfl) rfl ?_
  refine w_nil ?_
  refine q_then (hK1 _ _ ?_)
  refine w_seq (fun K4 hK3 => ?_)
  refine w_region ?_
  refine w_pure want_none (y_assign (v := _) rfl rfl) rfl ?_
  refine w_nil ?_
  refine q_then (hK3 _ _ ?_)
  refine w_seq (fun K6 hK5 => ?_)
  refine w_seq (fun K8 hK7 => ?_)
  refine w_region ?_
  refine w_pure want_none (y_assign (v := _) rfl rfl) rfl ?_
  refine w_nil ?_
  refine q_then (hK7 _ _ ?_)
  refine w_block ?_
  refine w_loop [5, 6, 7, 8, 9, 10, 11, 12, 13, 14, 15, 16, 17, 18, 19, 20, 21, 22, 23, 24, 25, 26, 27, 28, 29, 30, 31, 32] [5, 6] (fun k vs0 w => ∃ (n : Nat), vs0 = [.int .i64 (mostTo b ws n), .int .i64 n] ∧ n ≤ 13 ∧ k = 13 - n ∧ St w0 w F) (13) ?_ ?_
  ·
   exact ⟨0, rfl, by omega, by omega, hs⟩
  ·
   intro k vs μ w11 hI K10 hN9
   obtain ⟨n, rfl, hna, rfl, hs⟩ := hI
   refine w_seq (fun K13 hK12 => ?_)
   refine w_seq (fun K15 hK14 => ?_)
   refine w_region ?_
   refine w_pure want_none (y_move (v := .int _ _) rfl rfl) rfl ?_
   refine w_pure want_none (y_leq rfl rfl rfl rfl) rfl ?_
   refine w_nil ?_
   refine q_then (hK14 _ _ ?_)
   refine w_cond rfl rfl (fun h16 => ?_) (fun h16 => ?_)
   ·
    try simp only [Bool.not_eq_true', Bool.not_eq_false', decide_eq_true_eq, decide_eq_false_iff_not, Int.not_lt, Int.not_le] at h16
    refine w_skip ?_
    refine q_then (hK12 _ _ ?_)
    refine w_seq (fun K18 hK17 => ?_)
    refine w_block ?_
    refine w_seq (fun K20 hK19 => ?_)
    refine w_region ?_
    refine w_pure want_none (y_assign (v := _) rfl rfl) rfl ?_
    refine w_nil ?_
    refine q_then (hK19 _ _ ?_)
    refine w_seq (fun K22 hK21 => ?_)
    refine w_seq (fun K24 hK23 => ?_)
    refine w_region ?_
    refine w_pure want_none (y_assign (v := _) rfl rfl) rfl ?_
    refine w_nil ?_
    refine q_then (hK23 _ _ ?_)
    refine w_block ?_
    refine w_loop [7, 8, 13, 14, 15, 16, 17, 18, 19, 20, 21, 22, 23, 24, 25, 26, 27, 28, 29] [7, 8] (fun k vs0 w => ∃ (i : Nat), vs0 = [.int .i64 (often b (n : Int) (ws.take i)), .int .i64 i] ∧ i ≤ ws.length ∧ k = ws.length - i ∧ St w0 w F) (ws.length) ?_ ?_
    ·
     exact ⟨0, rfl, by omega, by omega, hs⟩
    ·
     intro k vs μ w27 hI K26 hN25
     obtain ⟨i, rfl, hia, rfl, hs⟩ := hI
     refine w_seq (fun K29 hK28 => ?_)
     refine w_seq (fun K31 hK30 => ?_)
     refine w_region ?_
     refine w_pure want_none (y_move (v := .int _ _) rfl rfl) rfl ?_
     refine w_pure want_none (y_move (v := .slice _ _ _) rfl rfl) rfl ?_
     refine w_pure want_none (y_lenS Try.underlying64 rfl rfl) rfl ?_
     refine w_pure want_none (y_lss rfl rfl rfl rfl) rfl ?_
     refine w_nil ?_
     refine q_then (hK30 _ _ ?_)
     refine w_cond rfl rfl (fun h32 => ?_) (fun h32 => ?_)
     ·
      try simp only [Bool.not_eq_true', Bool.not_eq_false', decide_eq_true_eq, decide_eq_false_iff_not, Int.not_lt, Int.not_le] at h32
      refine w_skip ?_
      refine q_then (hK28 _ _ ?_)
      refine w_seq (fun K34 hK33 => ?_)
      refine w_block ?_
      refine w_seq (fun K36 hK35 => ?_)
      have hi2 : i < ws.length := by omega
      obtain ⟨bx, ox, e2, q2, ha, hx, hsx, _⟩ := el_at hsl hel hi2
      subst ha
      have hbi := hb _ (List.getElem_mem hi2)
      obtain ⟨c1, p1, he1, hy⟩ := sl_ints hsx hbi
      subst he1
      have hoi := often_in b (n : Int) (ws.take i)
      have hli : (ws.take i).length = i := by rw [List.length_take]; omega
      refine w_region ?_
      refine w_pure want_none (y_move (v := .slice _ _ _) rfl rfl) rfl ?_
      refine w_pure want_none (y_move (v := .int _ _) rfl rfl) rfl ?_
      refine w_pure want_none (y_indexS Try.underlying64 Try.sizeOf37 rfl rfl rfl rfl (i := _) rfl (by omega)) rfl ?_
      refine w_pure want_none (y_load1 Try.isAgg37 hs rfl rfl hx) rfl ?_
      refine w_pure want_none (y_move (v := .int _ _) rfl rfl) rfl ?_
      refine w_pure want_none (y_indexS Try.underlying37 Try.sizeOf3 rfl rfl rfl rfl (i := b) rfl hbi) rfl ?_
      refine w_pure want_none (y_load1 Try.isAgg3 hs rfl rfl hy) rfl ?_
      refine w_pure want_none (y_move (v := .int _ _) rfl rfl) rfl ?_
      refine w_pure want_none (y_eql rfl rfl rfl rfl) rfl ?_
      refine w_nil ?_
      refine q_then (hK35 _ _ ?_)
      refine w_cond rfl rfl (fun h37 => ?_) (fun h37 => ?_)
      ·
       try simp only [Bool.not_eq_true', Bool.not_eq_false', decide_eq_true_eq, decide_eq_false_iff_not, Int.not_lt, Int.not_le] at h37
       refine w_region ?_
       refine w_pure want_none (y_move (v := .int _ _) rfl rfl) rfl ?_
       refine w_pure want_none (y_add rfl rfl rfl rfl (by omega) (by omega)) rfl ?_
       refine w_pure want_none (y_assign (v := .int _ _) rfl rfl) rfl ?_
       refine w_nil ?_
       refine q_blk_normal ?_
       refine q_then (hK33 _ _ ?_)
       refine w_region ?_
       refine w_pure want_none (y_move (v := .int _ _) rfl rfl) rfl ?_
       refine w_pure want_none (y_add rfl rfl rfl rfl (by omega) (by omega)) rfl ?_
       refine w_pure want_none (y_assign (v := .int _ _) rfl rfl) rfl ?_
       refine w_nil ?_
       refine q_then (hN25 _ _ (Nx.intro (ws.length - (i + 1)) (by omega) (by repeat (first | exact agree_mix | refine agree_upd rfl ?_ | refine agree_updL rfl ?_ _ | refine agree_mixin rfl ?_)) ?_))
       first
         | exact ⟨i + 1, iv2 (often_yes hi2 (by rw [at_get hbi]; assumption)).symm rfl, by omega, rfl, hs⟩
         | exact ⟨i + 1, iv2 (often_no hi2 (by rw [at_get hbi]; assumption)).symm rfl, by omega, rfl, hs⟩
      ·
       try simp only [Bool.not_eq_true', Bool.not_eq_false', decide_eq_true_eq, decide_eq_false_iff_not, Int.not_lt, Int.not_le] at h37
       refine w_skip ?_
       refine q_blk_normal ?_
       refine q_then (hK33 _ _ ?_)
       refine w_region ?_
       refine w_pure want_none (y_move (v := .int _ _) rfl rfl) rfl ?_
       refine w_pure want_none (y_add rfl rfl rfl rfl (by omega) (by omega)) rfl ?_
       refine w_pure want_none (y_assign (v := .int _ _) rfl rfl) rfl ?_
       refine w_nil ?_
       refine q_then (hN25 _ _ (Nx.intro (ws.length - (i + 1)) (by omega) (by repeat (first | exact agree_mix | refine agree_upd rfl ?_ | refine agree_updL rfl ?_ _ | refine agree_mixin rfl ?_)) ?_))
       first
         | exact ⟨i + 1, iv2 (often_yes hi2 (by rw [at_get hbi]; assumption)).symm rfl, by omega, rfl, hs⟩
         | exact ⟨i + 1, iv2 (often_no hi2 (by rw [at_get hbi]; assumption)).symm rfl, by omega, rfl, hs⟩
     ·
      try simp only [Bool.not_eq_true', Bool.not_eq_false', decide_eq_true_eq, decide_eq_false_iff_not, Int.not_lt, Int.not_le] at h32
      refine w_exit ?_
      refine q_then_exit ?_
      refine q_then_exit ?_
      refine q_blk_this ?_
      refine q_then (hK21 _ _ ?_)
      refine w_region ?_
      refine w_pure want_none (y_move (v := .int _ _) rfl rfl) rfl ?_
      refine w_pure want_none (y_move (v := .int _ _) rfl rfl) rfl ?_
      refine w_pure want_none (y_max2 rfl rfl rfl rfl) rfl ?_
      refine w_pure want_none (y_assign (v := .int _ _) rfl rfl) rfl ?_
      refine w_nil ?_
      refine q_blk_normal ?_
      refine q_then (hK17 _ _ ?_)
      refine w_region ?_
      refine w_pure want_none (y_move (v := .int _ _) rfl rfl) rfl ?_
      refine w_pure want_none (y_add rfl rfl rfl rfl (by omega) (by omega)) rfl ?_
      refine w_pure want_none (y_assign (v := .int _ _) rfl rfl) rfl ?_
      refine w_nil ?_
      refine q_then (hN9 _ _ (Nx.intro (13 - (n + 1)) (by omega) (by repeat (first | exact agree_mix | refine agree_upd rfl ?_ | refine agree_updL rfl ?_ _ | refine agree_mixin rfl ?_)) ?_))
      have hil : i = ws.length := by omega
      subst hil
      exact ⟨n + 1, iv2 (by rw [most_succ, List.take_length]) rfl, by omega, rfl, hs⟩
   ·
    try simp only [Bool.not_eq_true', Bool.not_eq_false', decide_eq_true_eq, decide_eq_false_iff_not, Int.not_lt, Int.not_le] at h16
    refine w_exit ?_
    refine q_then_exit ?_
    refine q_then_exit ?_
    refine q_blk_this ?_
    refine q_then (hK5 _ _ ?_)
    refine w_seq (fun K39 hK38 => ?_)
    refine w_region ?_
    refine w_pure want_none (y_move (v := .int _ _) rfl rfl) rfl ?_
    refine w_pure want_none (y_assign (v := .int _ _) rfl rfl) rfl ?_
    refine w_nil ?_
    refine q_then (hK38 _ _ ?_)
    refine w_ret ?_
    refine q_ret (l := [.tmp 4]) (vs := [_]) rfl ⟨⟨rfl, show _ = (.int _ _ : Value) from rfl⟩, trivial⟩ ?_
    have hin : n = 13 := by omega
    subst hin
    exact ⟨rfl, hs⟩

end Go.Proofs
/- Plain law of the hand layer: the bunch to count next. No conditions. -/
set_option linter.unusedSimpArgs false
set_option linter.unusedVariables false
namespace Go.Rt.Ha
def NextS (ws : List (List Int)) (k : Nat) (s : Int × Int) : Prop :=
  (s.1 = -1 ∧ ∀ b, b < k → ¬ leftW b ws < ws.length) ∨ (∃ o, o < k ∧ s.1 = (o : Int) ∧ s.2 = leftW o ws ∧ leftW o ws < ws.length ∧ ∀ b, b < k → leftW b ws < ws.length → leftW o ws < leftW b ws ∨ (leftW b ws = leftW o ws ∧ o ≤ b))
theorem next_s (ws : List (List Int)) : ∀ k, NextS ws k (nextTo ws k)
  | 0 => .inl ⟨rfl, fun b h => by omega⟩
  | k + 1 => by
    have ih := next_s ws k
    simp only [nextTo]
    generalize nextTo ws k = s at ih
    rcases ih with ⟨h1, h2⟩ | ⟨o, h1, h2, h3, h4, h5⟩
    · by_cases hl : leftW k ws < ws.length
      · rw [if_pos ⟨hl, .inl (by omega)⟩]
        refine .inr ⟨k, by omega, rfl, rfl, hl, fun b hb hbl => ?_⟩
        by_cases e : b = k
        · subst e; exact .inr ⟨rfl, Nat.le_refl _⟩
        · exact absurd hbl (h2 b (by omega))
      · rw [if_neg fun h => hl h.1]
        refine .inl ⟨h1, fun b hb => ?_⟩
        by_cases e : b = k
        · subst e; exact hl
        · exact h2 b (by omega)
    · by_cases hc : leftW k ws < ws.length ∧ (s.1 < 0 ∨ leftW k ws < s.2)
      · rw [if_pos hc]
        have hlt : leftW k ws < leftW o ws := by
          rcases hc.2 with h | h
          · omega
          · rw [h3] at h; exact h
        refine .inr ⟨k, by omega, rfl, rfl, hc.1, fun b hb hbl => ?_⟩
        by_cases e : b = k
        · subst e; exact .inr ⟨rfl, Nat.le_refl _⟩
        · rcases h5 b (by omega) hbl with h | h
          · left; exact Int.lt_trans hlt h
          · left; rw [h.1]; exact hlt
      · rw [if_neg hc]
        refine .inr ⟨o, by omega, h2, h3, h4, fun b hb hbl => ?_⟩
        by_cases e : b = k
        · subst e
          have : ¬ leftW b ws < s.2 := fun h => hc ⟨hbl, .inr h⟩
          rw [h3] at this
          rcases Int.lt_trichotomy (leftW o ws) (leftW b ws) with h | h | h
          · exact .inl h
          · exact .inr ⟨h.symm, by omega⟩
          · exact absurd h this
        · exact h5 b (by omega) hbl
theorem counted_one (o : Nat) : ∀ (h : List Int) (i : Nat), counted (2 ^ o) i h = if i ≤ o then at_ h (o - i) else 0
  | [], i => by simp [counted, at_]
  | z :: h, i => by
    have hb : bit (2 ^ o) i = 1 ↔ o = i := by rw [bit_iff, Nat.testBit_two_pow, decide_eq_true_eq]
    rw [counted, counted_one o h (i + 1)]
    by_cases e : o = i
    · subst e
      rw [if_pos (hb.2 rfl), if_neg (by omega), if_pos (Nat.le_refl _), Nat.sub_self]
      show z + 0 = z
      omega
    · rw [if_neg fun h => e (hb.1 h)]
      by_cases e2 : i ≤ o
      · rw [if_pos e2, if_pos (by omega)]
        obtain ⟨d, hd⟩ : ∃ d, o - i = d + 1 := ⟨o - i - 1, by omega⟩
        rw [hd, show o - (i + 1) = d by omega]
        show 0 + h.getD d 0 = (z :: h).getD (d + 1) 0
        simp
      · rw [if_neg e2, if_neg (by omega)]; rfl
theorem ways_one {l : Lot} {o : Nat} {t : Int} : ways (moreL l ⟨2 ^ o, t⟩) 0 = (ways l 0).filter fun h => decide (at_ h o = t) := by
  unfold ways
  rw [List.filter_filter]
  congr 1
  funext h
  show soFrom 0 h 0 (l.counts ++ [⟨2 ^ o, t⟩]) = _
  have e : ((2 : Int) ^ o).toNat = 2 ^ o := by
    rw [show ((2 : Int) ^ o) = ((2 ^ o : Nat) : Int) by simp]; rfl
  rw [so_append]
  simp only [soFrom, e, counted_one, Nat.zero_le, if_true, Nat.sub_zero, Bool.and_true]
  simp [bit, Bool.and_comm]
theorem one_left {l : Lot} {o : Nat} {t : Int} (ht : 0 ≤ t ∧ t ≤ 12) : ((ways (moreL l ⟨2 ^ o, t⟩) 0).length : Int) ≤ leftW o (ways l 0) := by
  have h1 := (most_iff (b := o) (ws := ways l 0) (x := leftW o (ways l 0)) 13).1 (Int.le_refl _)
  have h2 := h1.2 t.toNat (by omega)
  rw [show ((t.toNat : Nat) : Int) = t by omega] at h2
  rw [ways_one]
  exact h2
theorem one_span {l : Lot} {o : Nat} {t : Int} (hw : ways (moreL l ⟨2 ^ o, t⟩) 0 ≠ []) : spanR o (ways (moreL l ⟨2 ^ o, t⟩) 0) = (t, t) := by
  have hf := span_facts (b := o) hw
  have hall : ∀ h ∈ ways (moreL l ⟨2 ^ o, t⟩) 0, at_ h o = t := by
    intro h hh
    rw [ways_one] at hh
    simpa using (List.mem_filter.1 hh).2
  obtain ⟨x, hx, ex⟩ := hf.lo
  obtain ⟨y, hy, ey⟩ := hf.hi
  have e1 := hall x hx
  have e2 := hall y hy
  exact Prod.ext (by rw [← ex, e1]) (by rw [← ey, e2])
end Go.Rt.Ha
/- Plain law of the hand layer: ways are told once each. No conditions. -/
set_option linter.unusedSimpArgs false
set_option linter.unusedVariables false
namespace Go.Rt.Ha
theorem at_ext {a b : List Int} (hl : a.length = b.length) (h : ∀ i, i < a.length → at_ a i = at_ b i) : a = b := by
  refine List.ext_getElem hl fun i h1 h2 => ?_
  have := h i h1
  unfold at_ at this
  simpa [List.getD, h1, h2] using this
/-- If no bunch tells ways apart there is one way. -/
theorem one_way {l : Lot} (hok : l.Ok) (hw : ways l 0 ≠ []) (h : ∀ b, b < l.bunches.length → ¬ leftW b (ways l 0) < (ways l 0).length) : (ways l 0).length = 1 := by
  have hsame : ∀ x ∈ ways l 0, ∀ y ∈ ways l 0, x = y := by
    intro x hx y hy
    have h1 := (felt_in _ _).1 (way_felt hx)
    have h2 := (felt_in _ _).1 (way_felt hy)
    refine at_ext (by omega) fun b hb => ?_
    have hbl : b < l.bunches.length := by omega
    have h3 := h b hbl
    rw [left_span hw fun z hz => by have := way_at hok hz hbl; omega] at h3
    have hf := span_facts (b := b) hw
    have a1 := hf.all x hx
    have a2 := hf.all y hy
    clear hf
    omega
  have hn := ways_nodup l 0
  match hq : ways l 0, hw, hsame, hn with
  | [], hw, _, _ => exact absurd rfl hw
  | [a], _, _, _ => rfl
  | a :: b :: r, _, hsame, hn =>
    have e := hsame a (.head _) b (.tail _ (.head _))
    rw [List.nodup_cons] at hn
    exact absurd (e ▸ .head _) hn.1
end Go.Rt.Ha
/- Plain law of the hand layer: what Next says. No conditions. -/
set_option linter.unusedSimpArgs false
set_option linter.unusedVariables false
namespace Go.Rt.Ha
theorem next_bad {l : Lot} (h : ¬ ((check l).2.2 = 0 ∧ ways l 0 ≠ [])) : (nextP l).2.2 ≠ 0 ∧ (nextP l).1 = 0 ∧ (nextP l).2.1 = 0 := by
  have he : enterE l 0 ≠ 0 := by
    unfold enterE
    by_cases hc : (check l).2.2 = 0
    · by_cases hw : ways l 0 = []
      · simp [hc, hw]
      · exact absurd ⟨hc, hw⟩ h
    · rw [if_pos hc]; exact hc
  unfold nextP
  rw [if_pos he]
  exact ⟨he, rfl, rfl⟩
structure NextF (l : Lot) (o : Nat) : Prop where
  lt : o < l.bunches.length
  is : nextP l = ((o : Int), leftW o (ways l 0), 0)
  lo : 1 ≤ leftW o (ways l 0)
  hi : leftW o (ways l 0) < (ways l 0).length
  few : ∀ b, b < l.bunches.length → leftW b (ways l 0) < (ways l 0).length → leftW o (ways l 0) < leftW b (ways l 0) ∨ (leftW b (ways l 0) = leftW o (ways l 0) ∧ o ≤ b)
theorem next_law {l : Lot} (hc : (check l).2.2 = 0) (hw : ways l 0 ≠ []) : (nextP l = (0, 0, 9) ∧ (ways l 0).length = 1) ∨ ∃ o, NextF l o := by
  have hok := check_ok hc
  have E := enter_zero hc hw (e := 0) rfl
  have hs := next_s (ways l 0) l.bunches.length
  unfold nextP
  rw [if_neg (by simp [E])]
  rcases hs with ⟨h1, h2⟩ | ⟨o, h1, h2, h3, h4, h5⟩
  · left
    rw [if_pos (by omega)]
    exact ⟨rfl, one_way hok hw h2⟩
  · right
    refine ⟨o, h1, ?_, ?_, h4, h5⟩
    · unfold nextP
      rw [if_neg (by simp [E]), if_neg (by omega), h2, h3]
    · obtain ⟨x, hx⟩ := List.exists_mem_of_ne_nil _ hw
      have h6 := way_at hok hx h1
      have h7 := one_left (l := l) (o := o) (t := at_ x o) (by omega)
      have h8 : x ∈ ways (moreL l ⟨2 ^ o, at_ x o⟩) 0 := by
        rw [ways_one]; exact List.mem_filter.2 ⟨hx, by simp⟩
      have := List.length_pos_of_mem h8
      omega
theorem next_one {l : Lot} {o : Nat} {t : List Int} (ht : t ∈ ways l 0) (hok : l.Ok) (ho : o < l.bunches.length) (hc : (check (moreL l ⟨2 ^ o, at_ t o⟩)).2.2 = 0) :
    handsP (moreL l ⟨2 ^ o, at_ t o⟩) o = ((at_ t o, at_ t o), 0) ∧ ((ways (moreL l ⟨2 ^ o, at_ t o⟩) 0).length : Int) ≤ leftW o (ways l 0) := by
  have h6 := way_at hok ht ho
  have h8 : t ∈ ways (moreL l ⟨2 ^ o, at_ t o⟩) 0 := by
    rw [ways_one]; exact List.mem_filter.2 ⟨ht, by simp⟩
  have hw := List.ne_nil_of_mem h8
  have E := enter_zero hc hw (idx_fine (n := o) (b := l.bunches.length) (by omega))
  refine ⟨?_, one_left (by omega)⟩
  rw [← hands_same]; unfold handsR
  rw [show (moreL l ⟨2 ^ o, at_ t o⟩).bunches.length = l.bunches.length from rfl, if_neg (by simp [E])]
  rw [show ((o : Int)).toNat = o from rfl, one_span hw]
theorem next_other {l : Lot} (hc : (check l).2.2 = 0) (hw : ways l 0 ≠ []) {o : Nat} (h : NextF l o) {b : Nat} (hb : b < l.bunches.length) :
    (handsP l b).2 = 0 ∧ ((handsP l b).1.1 = (handsP l b).1.2 ∨ leftW o (ways l 0) < leftW b (ways l 0) ∨ (leftW b (ways l 0) = leftW o (ways l 0) ∧ o ≤ b)) := by
  have hok := check_ok hc
  have E := enter_zero hc hw (idx_fine (n := b) (b := l.bunches.length) (by omega))
  have h1 : handsP l b = (spanR b (ways l 0), 0) := by rw [← hands_same]; unfold handsR; rw [if_neg (by simp [E])]; rfl
  rw [h1]
  refine ⟨rfl, ?_⟩
  by_cases e : leftW b (ways l 0) < (ways l 0).length
  · exact .inr (h.few b hb e)
  · left
    rw [left_span hw fun z hz => by have := way_at hok hz hb; omega] at e
    have hf := span_facts (b := b) hw
    obtain ⟨x, hx, ex⟩ := hf.lo
    have a1 := hf.all x hx
    show (spanR b (ways l 0)).1 = (spanR b (ways l 0)).2
    clear hf
    omega
theorem pow_list : ∀ o : Nat, (h : o < 6) → ([1, 2, 4, 8, 16, 32] : List Int)[o]'(by simpa using h) = 2 ^ o := by decide
end Go.Rt.Ha
/- The walking engine, part 17: a number of sixteen bits as an int. No conditions. -/
set_option linter.unusedSimpArgs false
set_option linter.unusedVariables false
namespace Go.Rt
open Go.RowKit
variable {P : Program} {n : Nat} {ρ : Nat → Value} {ds : List Deferred} {w : World} {d : Option Tmp} {ty : TypeId} {p : String} {e : Array Edge} {g : Option (Nat × Bool)}
theorem y_u16int {s t : TypeId} {x : Operand} {a : Int} (hs : (P.underlying s).isSome = true) (ht : P.underlying t = some (.int .i64)) (ho : okO n x = true) (hx : ev ρ x = .int .u16 a) (h0 : 0 ≤ a) (h1 : a ≤ 65535) :
    Yd P (A n ρ ds) ⟨d, .convert s t x, ty, p, e, g⟩ w (.int .i64 a) := by
  obtain ⟨q, hq⟩ := Option.isSome_iff_exists.1 hs
  have hw : IntKind.i64.wrap a = a := wrap_in (by omega) (by omega)
  simp [Yd, execOp, ev_eq ho, hx, Sem.run_bind, convert, run_underlying hq, run_underlying ht, Result.andThen, Conv.intToInt, hw]
end Go.Rt
/- Walks of this seat, printed by gen.py over the engine: what each function returns, in whatever world. No conditions but those of each contract. -/
set_option linter.unusedVariables false
set_option linter.unusedSimpArgs false
set_option maxRecDepth 20000
namespace Go.Proofs
open Go.Rt Go.Rt.Ha
attribute [local irreducible] WL WC Con Yd At Ats Sl Agree DW
theorem Try_Zf_fb6 (x0 : Int) (x1 : Int) (x2 : Int) (x3 : Int) (x4 : Int) (x5 : Int) (w : World) : (Instr.buildSlice 37 6 [(0, .int .i64 x0), (1, .int .i64 x1), (2, .int .i64 x2), (3, .int .i64 x3), (4, .int .i64 x4), (5, .int .i64 x5)].toArray).run Try.prog w = .ok (.slice (some ⟨w.heap.size, 0, none⟩) 6 6) (w.alloc (Go.Rt.blk 3 [.int .i64 x0, .int .i64 x1, .int .i64 x2, .int .i64 x3, .int .i64 x4, .int .i64 x5])) := by kernel_rfl
theorem Try_Zf_fb7 (x0 : Int) (x1 : Int) (w : World) : (Instr.build 51 [(0, .int .i64 x0), (1, .int .i64 x1)].toArray).run Try.prog w = .ok (.agg #[.int .i64 x0, .int .i64 x1]) w := by kernel_rfl
theorem Try_Zf_fb8  (w : World) : (Instr.buildSlice 24 0 [].toArray).run Try.prog w = .ok (.slice (some ⟨w.heap.size, 0, none⟩) 0 0) (w.alloc (Go.Rt.blk 51 [])) := by kernel_rfl
theorem Try_Zf_fb9 (x0 : Int) (x1 : Int) (w : World) : (Instr.buildSlice 24 1 [(0, .agg #[.int .i64 x0, .int .i64 x1])].toArray).run Try.prog w = .ok (.slice (some ⟨w.heap.size, 0, none⟩) 1 1) (w.alloc (Go.Rt.blk 51 [.int .i64 x0, .int .i64 x1])) := by kernel_rfl
theorem c13 {w0 w : World} {F : List (Nat × Obj)} (l : Lot) (p : At3) (hm : LIn w0 F l p) (hnG : p.ag = none → p.cg = 0) (hnB : p.ab = none → p.cb = 0) (hnC : p.ac = none → p.cc = 0) (z : Int) (hz : 0 ≤ z ∧ z ≤ 65535) (y : Int) (hy8 : 0 ≤ y ∧ y ≤ 255) (hs : St w0 w F) :
  Con Try.prog 13 [.agg (l.cells p).toArray, .int .u16 z, .int .u8 y] w fun v w' => v = .bool true ∧ St w0 w' F := by
  refine con_of_wc (n := 173) Try.func13 rfl rfl (Nat.le_of_ble_eq_true rfl) ?_
  have hlb0 := hm.lb
  refine w_seq (fun K2 hK1 => ?_)
  refine w_region ?_
  refine w_box (v := .agg #[.slice _ _ _, .slice _ _ _, .slice _ _ _]) (cs := [_, _, _]) want_none rfl rfl rfl hs (fun b3 w4 hs5 => ?_)
  refine w_pure want_none (y_assign (v := _) rfl rfl) rfl ?_
  refine w_nil ?_
  refine q_then (hK1 _ _ ?_)
  refine w_seq (fun K7 hK6 => ?_)
  have hbx := ats_of (i := 0) (vs := l.cells p) hs5 rfl rfl
  refine w_region ?_
  refine w_pure want_none (y_loadN (vs := [_, _, _]) Try.isAgg26 Try.sizeOf26 hs5 rfl rfl hbx) rfl ?_
  refine w_call want_none Try.call32 rfl rfl rfl rfl ((c32 l _ hm.cons hs5).mono (fun v w2 h => (⟨_, _, _, h.1, rfl, h.2⟩ : ∃ x1 x2 x3 : Int, v = .tuple #[.int .i64 x1, .int .i64 x2, .int .i64 x3] ∧ nextP l = (x1, x2, x3) ∧ St w0 w2 _))) ?_
  rintro _ w9 ⟨n1, n2, n3, rfl, hnp, hs10⟩
  refine w_pure want_none (y_move (v := .tuple _) rfl rfl) rfl ?_
  refine w_pure want_none (y_extract (v := .int _ _) rfl rfl rfl) rfl ?_
  refine w_pure want_none (y_extract (v := .int _ _) rfl rfl rfl) rfl ?_
  refine w_pure want_none (y_extract (v := .int _ _) rfl rfl rfl) rfl ?_
  refine w_pure want_none (y_assign (v := .int _ _) rfl rfl) rfl ?_
  refine w_pure want_none (y_assign (v := .int _ _) rfl rfl) rfl ?_
  refine w_pure want_none (y_assign (v := .int _ _) rfl rfl) rfl ?_
  refine w_nil ?_
  refine q_then (hK6 _ _ ?_)
  refine w_seq (fun K12 hK11 => ?_)
  refine w_seq (fun K14 hK13 => ?_)
  refine w_region ?_
  refine w_pure want_none (y_loadN (vs := [_, _, _]) Try.isAgg26 Try.sizeOf26 hs10 rfl rfl hbx) rfl ?_
  refine w_call want_none Try.call44 rfl rfl rfl rfl (c44 l _ hm.cons hs10) ?_
  rintro _ w16 ⟨rfl, hs17⟩
  refine w_pure want_none (y_not rfl rfl) rfl ?_
  refine w_nil ?_
  refine q_then (hK13 _ _ ?_)
  refine w_cond rfl rfl (fun h18 => ?_) (fun h18 => ?_)
  ·
   try simp only [Bool.not_eq_true', Bool.not_eq_false', decide_eq_true_eq, decide_eq_false_iff_not, Int.not_lt, Int.not_le] at h18
   refine w_seq (fun K20 hK19 => ?_)
   have hnb := next_bad (l := l) (by assumption)
   refine w_region ?_
   refine w_pure want_none (y_move (v := .int _ _) rfl rfl) rfl ?_
   refine w_pure want_none (y_neq rfl rfl rfl rfl) rfl ?_
   refine w_pure want_none (y_move (v := .bool _) rfl rfl) rfl ?_
   refine w_split (fun h21 => ?_) (fun h21 => ?_)
   ·
    try simp only [Bool.not_eq_true', Bool.not_eq_false', decide_eq_true_eq, decide_eq_false_iff_not, Int.not_lt, Int.not_le] at h21
    refine w_pure (want_yes rfl rfl rfl) (y_move (v := .int _ _) rfl rfl) rfl ?_
    refine w_pure (want_yes rfl rfl rfl) (y_eql rfl rfl rfl rfl) rfl ?_
    refine w_pure want_none (y_pickT (v := .bool _) rfl rfl rfl rfl) rfl ?_
    refine w_pure want_none (y_move (v := .bool _) rfl rfl) rfl ?_
    refine w_split (fun h22 => ?_) (fun h22 => ?_)
    ·
     try simp only [Bool.not_eq_true', Bool.not_eq_false', decide_eq_true_eq, decide_eq_false_iff_not, Int.not_lt, Int.not_le] at h22
     refine w_pure (want_yes rfl rfl rfl) (y_move (v := .int _ _) rfl rfl) rfl ?_
     refine w_pure (want_yes rfl rfl rfl) (y_eql rfl rfl rfl rfl) rfl ?_
     refine w_pure want_none (y_pickT (v := .bool _) rfl rfl rfl rfl) rfl ?_
     refine w_pure want_none (y_move (v := .bool _) rfl rfl) rfl ?_
     refine w_split (fun h23 => ?_) (fun h23 => ?_)
     ·
      try simp only [Bool.not_eq_true', Bool.not_eq_false', decide_eq_true_eq, decide_eq_false_iff_not, Int.not_lt, Int.not_le] at h23
      refine w_call (want_yes rfl rfl rfl) Try.call20 rfl rfl rfl rfl (c20 hs17) ?_
      rintro _ w25 ⟨rfl, hs26⟩
      refine w_pure want_none (y_pickT (v := .bool _) rfl rfl rfl rfl) rfl ?_
      refine w_pure want_none (y_assign (v := .bool _) rfl rfl) rfl ?_
      refine w_nil ?_
      refine q_then (hK19 _ _ ?_)
      refine w_ret ?_
      refine q_then_ret ?_
      refine q_ret (l := [.tmp 6]) (vs := [_]) rfl ⟨⟨rfl, show _ = (.bool _ : Value) from rfl⟩, trivial⟩ ?_
      exact ⟨rfl, hs26.tail⟩
     ·
      exfalso
      try simp only [Bool.not_eq_true', Bool.not_eq_false', decide_eq_true_eq, decide_eq_false_iff_not, Int.not_lt, Int.not_le] at h23
      rw [hnp] at hnb; exact h23 hnb.2.2
    ·
     exfalso
     try simp only [Bool.not_eq_true', Bool.not_eq_false', decide_eq_true_eq, decide_eq_false_iff_not, Int.not_lt, Int.not_le] at h22
     rw [hnp] at hnb; exact h22 hnb.2.1
   ·
    exfalso
    try simp only [Bool.not_eq_true', Bool.not_eq_false', decide_eq_true_eq, decide_eq_false_iff_not, Int.not_lt, Int.not_le] at h21
    rw [hnp] at hnb; exact hnb.1 (by simpa using h21)
  ·
   try simp only [Bool.not_eq_true', Bool.not_eq_false', decide_eq_true_eq, decide_eq_false_iff_not, Int.not_lt, Int.not_le] at h18
   refine w_skip ?_
   refine q_then (hK11 _ _ ?_)
   refine w_seq (fun K28 hK27 => ?_)
   have h1 : (check l).2.2 = 0 ∧ Ha.ways l 0 ≠ [] := by assumption
   have hok := check_ok h1.1
   have hlc := hok.lc
   have hwl := ways_len hok 0
   have hnx := next_law h1.1 h1.2
   have hwp : 0 < (Ha.ways l 0).length := List.length_pos_iff.2 h1.2
   refine w_region ?_
   refine w_pure want_none (y_loadN (vs := [_, _, _]) Try.isAgg26 Try.sizeOf26 hs17 rfl rfl hbx) rfl ?_
   refine w_call want_none Try.call45 rfl rfl rfl rfl ((by have h := c45 l p hm.cons hok none 0 [] (by simp) (Sl.nil _ _) hs17; rw [waysR_nil] at h; exact h)) ?_
   rintro _ w30 ⟨B, vs, a, c, rfl, hslB, helB, hs31⟩
   replace hs31 := (show St _ _ (B ++ (_ :: F)) from hs31)
   refine w_pure want_none (y_assign (v := .slice _ _ _) rfl rfl) rfl ?_
   refine w_nil ?_
   refine q_then (hK27 _ _ ?_)
   refine w_seq (fun K33 hK32 => ?_)
   refine w_seq (fun K35 hK34 => ?_)
   refine w_region ?_
   refine w_pure want_none (y_move (v := .int _ _) rfl rfl) rfl ?_
   refine w_pure want_none (y_neq rfl rfl rfl rfl) rfl ?_
   refine w_nil ?_
   refine q_then (hK34 _ _ ?_)
   refine w_cond rfl rfl (fun h36 => ?_) (fun h36 => ?_)
   ·
    try simp only [Bool.not_eq_true', Bool.not_eq_false', decide_eq_true_eq, decide_eq_false_iff_not, Int.not_lt, Int.not_le] at h36
    refine w_seq (fun K38 hK37 => ?_)
    have h9 : nextP l = (0, 0, 9) ∧ (Ha.ways l 0).length = 1 := by
      rcases hnx with h | ⟨o, h⟩
      · exact h
      · exfalso
        have := h.is
        simp_all
    have h91 : n3 = 9 := by have := h9.1; rw [hnp] at this; simp at this; exact this.2.2
    refine w_region ?_
    refine w_pure want_none (y_move (v := .int _ _) rfl rfl) rfl ?_
    refine w_pure want_none (y_eql rfl rfl rfl rfl) rfl ?_
    refine w_pure want_none (y_move (v := .bool _) rfl rfl) rfl ?_
    refine w_split (fun h39 => ?_) (fun h39 => ?_)
    ·
     try simp only [Bool.not_eq_true', Bool.not_eq_false', decide_eq_true_eq, decide_eq_false_iff_not, Int.not_lt, Int.not_le] at h39
     refine w_pure (want_yes rfl rfl rfl) (y_move (v := .slice _ _ _) rfl rfl) rfl ?_
     refine w_pure (want_yes rfl rfl rfl) (y_lenS Try.underlying64 rfl rfl) rfl ?_
     refine w_pure (want_yes rfl rfl rfl) (y_eql rfl rfl rfl rfl) rfl ?_
     refine w_pure want_none (y_pickT (v := .bool _) rfl rfl rfl rfl) rfl ?_
     refine w_pure want_none (y_move (v := .bool _) rfl rfl) rfl ?_
     refine w_split (fun h40 => ?_) (fun h40 => ?_)
     ·
      try simp only [Bool.not_eq_true', Bool.not_eq_false', decide_eq_true_eq, decide_eq_false_iff_not, Int.not_lt, Int.not_le] at h40
      refine w_call (want_yes rfl rfl rfl) Try.call20 rfl rfl rfl rfl (c20 hs31) ?_
      rintro _ w42 ⟨rfl, hs43⟩
      refine w_pure want_none (y_pickT (v := .bool _) rfl rfl rfl rfl) rfl ?_
      refine w_pure want_none (y_assign (v := .bool _) rfl rfl) rfl ?_
      refine w_nil ?_
      refine q_then (hK37 _ _ ?_)
      refine w_ret ?_
      refine q_then_ret ?_
      refine q_ret (l := [.tmp 6]) (vs := [_]) rfl ⟨⟨rfl, show _ = (.bool _ : Value) from rfl⟩, trivial⟩ ?_
      exact ⟨rfl, hs43.drop.tail⟩
     ·
      exfalso
      try simp only [Bool.not_eq_true', Bool.not_eq_false', decide_eq_true_eq, decide_eq_false_iff_not, Int.not_lt, Int.not_le] at h40
      omega
    ·
     exfalso
     try simp only [Bool.not_eq_true', Bool.not_eq_false', decide_eq_true_eq, decide_eq_false_iff_not, Int.not_lt, Int.not_le] at h39
     omega
   ·
    try simp only [Bool.not_eq_true', Bool.not_eq_false', decide_eq_true_eq, decide_eq_false_iff_not, Int.not_lt, Int.not_le] at h36
    refine w_skip ?_
    refine q_then (hK32 _ _ ?_)
    refine w_seq (fun K45 hK44 => ?_)
    refine w_seq (fun K47 hK46 => ?_)
    obtain ⟨o, hN⟩ : ∃ o, NextF l o := by
      rcases hnx with h | h
      · exfalso
        have := h.1
        simp_all
      · exact h
    obtain ⟨rfl, rfl, rfl⟩ : n1 = (o : Int) ∧ n2 = leftW o (Ha.ways l 0) ∧ n3 = 0 := by
      have := hN.is
      rw [hnp] at this
      simpa using this
    have hNl := hN.lt
    have hNo := hN.lo
    have hNh := hN.hi
    refine w_region ?_
    refine w_pure want_none (y_move (v := .int _ _) rfl rfl) rfl ?_
    refine w_pure want_none (y_fieldAddr (o := 1) (i := 1) Try.underlying26 rfl Try.sizeOf23 rfl rfl rfl) rfl ?_
    refine w_pure want_none (y_load1 Try.isAgg23 hs31.drop rfl rfl (show Ats _ _ _ _ [_] from Ats.part hbx 1 1)) rfl ?_
    refine w_pure want_none (y_lenS Try.underlying23 rfl rfl) rfl ?_
    refine w_pure want_none (y_sub rfl rfl rfl rfl (by omega) (by omega)) rfl ?_
    refine w_call want_none Try.call51 rfl rfl rfl rfl (c51 _ _ _ hs31) ?_
    rintro _ w49 ⟨rfl, hs50⟩
    refine w_pure want_none (y_not rfl rfl) rfl ?_
    refine w_pure want_none (y_move (v := .bool _) rfl rfl) rfl ?_
    refine w_split (fun h51 => ?_) (fun h51 => ?_)
    ·
     exfalso
     try simp only [Bool.not_eq_true', Bool.not_eq_false', decide_eq_true_eq, decide_eq_false_iff_not, Int.not_lt, Int.not_le] at h51
     omega
    ·
     try simp only [Bool.not_eq_true', Bool.not_eq_false', decide_eq_true_eq, decide_eq_false_iff_not, Int.not_lt, Int.not_le] at h51
     refine w_pure (want_yes rfl rfl rfl) (y_move (v := .int _ _) rfl rfl) rfl ?_
     refine w_pure (want_yes rfl rfl rfl) (y_lss rfl rfl rfl rfl) rfl ?_
     refine w_pure want_none (y_pickF (v := .bool _) rfl rfl rfl rfl) rfl ?_
     refine w_pure want_none (y_move (v := .bool _) rfl rfl) rfl ?_
     refine w_split (fun h52 => ?_) (fun h52 => ?_)
     ·
      exfalso
      try simp only [Bool.not_eq_true', Bool.not_eq_false', decide_eq_true_eq, decide_eq_false_iff_not, Int.not_lt, Int.not_le] at h52
      omega
     ·
      try simp only [Bool.not_eq_true', Bool.not_eq_false', decide_eq_true_eq, decide_eq_false_iff_not, Int.not_lt, Int.not_le] at h52
      refine w_pure (want_yes rfl rfl rfl) (y_move (v := .int _ _) rfl rfl) rfl ?_
      refine w_pure (want_yes rfl rfl rfl) (y_move (v := .slice _ _ _) rfl rfl) rfl ?_
      refine w_pure (want_yes rfl rfl rfl) (y_lenS Try.underlying64 rfl rfl) rfl ?_
      refine w_pure (want_yes rfl rfl rfl) (y_geq rfl rfl rfl rfl) rfl ?_
      refine w_pure want_none (y_pickF (v := .bool _) rfl rfl rfl rfl) rfl ?_
      refine w_nil ?_
      refine q_then (hK46 _ _ ?_)
      refine w_cond rfl rfl (fun h53 => ?_) (fun h53 => ?_)
      ·
       exfalso
       try simp only [Bool.not_eq_true', Bool.not_eq_false', decide_eq_true_eq, decide_eq_false_iff_not, Int.not_lt, Int.not_le] at h53
       omega
      ·
       try simp only [Bool.not_eq_true', Bool.not_eq_false', decide_eq_true_eq, decide_eq_false_iff_not, Int.not_lt, Int.not_le] at h53
       refine w_skip ?_
       refine q_then (hK44 _ _ ?_)
       refine w_seq (fun K55 hK54 => ?_)
       have hzm := Int.emod_nonneg z (show ((Ha.ways l 0).length : Int) ≠ 0 by omega)
       have hzl := Int.emod_lt_of_pos z (show 0 < ((Ha.ways l 0).length : Int) by omega)
       obtain ⟨u, hu⟩ : ∃ u : Nat, z % ((Ha.ways l 0).length : Int) = (u : Int) := ⟨(z % ((Ha.ways l 0).length : Int)).toNat, by omega⟩
       have hu2 : u < (Ha.ways l 0).length := by omega
       obtain ⟨bx, ox, e2, q2, ha, hx0, hsx0, _⟩ := el_at hslB helB hu2
       subst ha
       have hx := hx0.top (F := (b3, blk 26 (l.cells p)) :: F)
       have hbi : o < ((Ha.ways l 0)[u]'hu2).length := by rw [way_len (List.getElem_mem hu2)]; exact hN.lt
       obtain ⟨c1, p1, he1, hy0⟩ := sl_ints hsx0 hbi
       subst he1
       have hy := hy0.top (F := (b3, blk 26 (l.cells p)) :: F)
       have hag := at_get hbi
       refine w_region ?_
       refine w_pure want_none (y_move (v := .slice _ _ _) rfl rfl) rfl ?_
       refine w_pure want_none (y_move (v := .int _ _) rfl rfl) rfl ?_
       refine w_pure want_none (y_u16int (by rw [Try.underlying53]; rfl) Try.underlying3 rfl rfl (by omega) (by omega)) rfl ?_
       refine w_pure want_none (y_move (v := .slice _ _ _) rfl rfl) rfl ?_
       refine w_pure want_none (y_lenS Try.underlying64 rfl rfl) rfl ?_
       refine w_pure want_none (y_rem rfl rfl rfl rfl (by omega) (by omega)) rfl ?_
       refine w_pure want_none (y_indexS Try.underlying64 Try.sizeOf37 rfl rfl rfl rfl (i := u) (by omega) hu2) rfl ?_
       refine w_pure want_none (y_load1 Try.isAgg37 hs50 rfl rfl hx) rfl ?_
       refine w_pure want_none (y_assign (v := .slice _ _ _) rfl rfl) rfl ?_
       refine w_nil ?_
       refine q_then (hK54 _ _ ?_)
       refine w_seq (fun K57 hK56 => ?_)
       refine w_region ?_
       refine w_bslice (ps := [(0, _), (1, _), (2, _), (3, _), (4, _), (5, _)]) (pv := [(0, .int _ _), (1, .int _ _), (2, .int _ _), (3, .int _ _), (4, .int _ _), (5, .int _ _)]) (cs := [_, _, _, _, _, _]) want_none rfl rfl (fun w => Try_Zf_fb6 _ _ _ _ _ _ w) hs50 (fun b58 w59 hs60 => ?_)
       replace hs60 := (show St _ _ ((_, blk 3 (iv [1, 2, 4, 8, 16, 32])) :: B ++ (_ :: F)) from hs60)
       have ho6 : o < 6 := by have := hok.lb; have := hN.lt; omega
       refine w_pure want_none (y_move (v := .int _ _) rfl rfl) rfl ?_
       refine w_pure want_none (y_indexS Try.underlying37 Try.sizeOf3 rfl rfl rfl rfl (i := o) rfl (by omega)) rfl ?_
       refine w_pure want_none (y_load1 Try.isAgg3 hs60 rfl rfl (ats_ints (i := 0) (j := o) rfl (by first | omega | rfl | (simp only [List.length_map, List.length_set, List.length_append, List.length_take, List.length_drop, List.length_replicate, List.length_cons, List.length_nil] <;> omega)))) rfl ?_
       refine w_pure want_none (y_assign (v := .int _ _) rfl rfl) rfl ?_
       refine w_nil ?_
       refine q_then (hK56 _ _ ?_)
       refine w_seq (fun K62 hK61 => ?_)
       refine w_region ?_
       refine w_pure want_none (y_loadN (vs := [_, _, _]) Try.isAgg26 Try.sizeOf26 hs60.tail.drop rfl rfl hbx) rfl ?_
       refine w_alloc (cs := [_, _, _]) want_none Try.zeroValue26 rfl hs60 (fun b63 w64 hs65 => ?_)
       refine w_store (i := 0) (v := .agg #[.slice _ _ _, .slice _ _ _, .slice _ _ _]) (vs := [_, _, _]) want_none Try.sizeOf26 rfl rfl rfl rfl rfl (by simp [Value.oneCell']) hs65 rfl (Nat.le_of_ble_eq_true rfl) (fun w66 hs67 => ?_)
       refine w_nil ?_
       refine q_then (hK61 _ _ ?_)
       refine w_seq (fun K69 hK68 => ?_)
       refine w_cut [85, 86, 87, 88, 89, 90, 91, 92, 93, 94, 95, 96, 97] [] (fun vs w => ∃ bA capA csA, vs = [] ∧ l.counts.length + 1 ≤ capA ∧ csA.take ((l.counts.length + 1) * 2) = (crows (l.counts ++ [⟨(([1, 2, 4, 8, 16, 32] : List Int).getD o 0), ((Ha.ways l 0)[u]'hu2)[o]'hbi⟩])).flatten ∧ St w0 w ((bA, blk 51 csA) :: (b63, blk 26 [.slice p.ag l.grades.length p.cg, .slice p.ab l.bunches.length p.cb, .slice (some ⟨bA, 0, none⟩) (l.counts.length + 1) capA]) :: (b58, blk 3 (iv [1, 2, 4, 8, 16, 32])) :: (B ++ ((b3, blk 26 (l.cells p)) :: F)))) (fun K71 hC70 => ?_) ?_
       ·
        refine w_drawT (C := fun w => St w0 w _) [13] (.two [(1, 0), (2, 1), (4, 0), (5, 0), (6, 0), (7, 0), (8, 1), (9, 0)] 0 10 (.two [] 3 10 (.done [(10, 2), (11, 2), (12, 0), (13, 3)]) (.done [(3, 2), (11, 2), (12, 0), (13, 3)])) (.done [(0, 2), (3, 2), (11, 2), (12, 0), (13, 3)])) Try_mo (by kernel_rfl) hs67 (fun _ h => h.drew) (fun w72 hs73 => ?_)
        refine dt_two ?_
        refine d_any rfl want_none rfl (fun _ => (y_fieldAddr (o := 2) (i := 2) Try.underlying26 rfl Try.sizeOf24 rfl rfl rfl)) ?_
        refine d_take rfl want_none rfl hs73 (fun _ hq => (y_load1 Try.isAgg24 hq.tail.tail.drop rfl rfl (show Ats _ _ _ _ [_] from Ats.part hbx 2 1))) ?_
        refine d_any rfl want_none rfl (fun _ => (y_move (v := .int _ _) rfl rfl)) ?_
        refine d_any rfl want_none rfl (fun _ => (y_move (v := .slice _ _ _) rfl rfl)) ?_
        refine d_any rfl want_none rfl (fun _ => (y_move (v := .int _ _) rfl rfl)) ?_
        refine d_any rfl want_none rfl (fun _ => (y_indexS Try.underlying37 Try.sizeOf3 rfl rfl rfl rfl (i := o) rfl hbi)) ?_
        refine d_take rfl want_none rfl hs73 (fun _ hq => (y_load1 Try.isAgg3 hq.tail.tail rfl rfl hy)) ?_
        refine d_any rfl want_none rfl (fun _ => (y_build (ps := [(0, _), (1, _)]) (pv := [(0, .int _ _), (1, .int _ _)]) rfl rfl (fun w => Try_Zf_fb7 _ _ w))) ?_
        refine d_two rfl rfl ?_ ?_
        ·
         refine w_bslice (ps := []) (pv := []) (cs := []) want_none rfl rfl (fun w => Try_Zf_fb8  w) hs73 (fun b74 w75 hs76 => ?_)
         refine w_nil ?_
         refine qn ⟨hs76.tail, ?_⟩
         refine dt_two ?_
         refine d_two rfl rfl ?_ ?_
         ·
          refine w_append (X := ([])) (B := [_]) (rows := (crows l.counts)) (sz := 2) (bytes := 16) want_none Try.underlying24 Try_info51 rfl rfl rfl rfl rfl rfl rfl rfl rfl hs76 own_made hm.c.cons.app.cons.cons.cons (by simp [crows]) hnC (crows_one _) (by simp only [maxLen]; omega) (by omega) (fun v77 w78 B79 ho80 hs81 => ?_)
          replace hs81 := (show St _ _ (B79 ++ (_ :: _ :: B ++ (_ :: F))) from hs81)
          refine w_nil ?_
          refine qn ⟨hs81.drop, ?_⟩
          refine dt_done ?_
          refine d_eff rfl ?_
          refine w_bslice (ps := [(0, _)]) (pv := [(0, .agg #[.int _ _, .int _ _])]) (cs := [_, _]) want_none rfl rfl (fun w => Try_Zf_fb9 _ _ w) hs81 (fun b82 w83 hs84 => ?_)
          refine w_nil ?_
          refine qn ⟨hs84.tail.drop, ?_⟩
          refine d_eff rfl ?_
          refine w_append (X := (_ :: [])) (B := B79) (rows := [[_, _]]) (sz := 2) (bytes := 16) want_none Try.underlying24 Try_info51 rfl rfl rfl rfl rfl rfl rfl rfl rfl hs84 ho80 (sl_own (i := 0) rfl (by simp) rfl) rfl (by simp) (by simp [Value.oneCell']) (by simp only [maxLen]; omega) (by omega) (fun v85 w86 B87 ho88 hs89 => ?_)
          replace hs89 := (show St _ _ (_ :: B87 ++ (_ :: _ :: B ++ (_ :: F))) from hs89)
          refine w_nil ?_
          refine qn ⟨hs89.tail.drop, ?_⟩
          refine d_any rfl want_none rfl (fun _ => (y_fieldAddr (o := 2) (i := 2) Try.underlying26 rfl Try.sizeOf24 rfl rfl rfl)) ?_
          have hA : Rt.Own v85 51 2 (l.counts.length + 1) (crows (l.counts ++ [⟨(([1, 2, 4, 8, 16, 32] : List Int).getD o 0), ((Ha.ways l 0)[u]'hu2)[o]'hbi⟩])).flatten B87 := by
            have h9 := ho88
            rw [Nat.zero_add] at h9
            have e : (crows (l.counts ++ [⟨(([1, 2, 4, 8, 16, 32] : List Int).getD o 0), ((Ha.ways l 0)[u]'hu2)[o]'hbi⟩])).flatten = [] ++ (crows l.counts).flatten ++ [(⟨(([1, 2, 4, 8, 16, 32] : List Int).getD o 0), ((Ha.ways l 0)[u]'hu2)[o]'hbi⟩ : Count).cells].flatten := by simp [crows]
            rw [e]; exact h9
          obtain ⟨bA, capA, csA, rfl, hBA, hA1, hA2, hA3, hA4⟩ := own_some hA (by omega)
          subst hBA
          replace hs89 := (show St _ _ (_ :: _ :: _ :: _ :: B ++ (_ :: F)) from hs89)
          refine d_late rfl ?_
          refine w_store (i := 2) (v := .slice _ _ _) (vs := [_]) want_none Try.sizeOf24 rfl rfl rfl rfl rfl (by simp [Value.oneCell']) hs89 rfl (Nat.le_of_ble_eq_true rfl) (fun w90 hs91 => ?_)
          refine w_nil ?_
          refine qn ?_
          refine d_nil ?_
          refine q_then (hC70 _ _ (Md.intro (by repeat (first | exact agree_refl | exact agree_mix | refine agree_upd rfl ?_ | refine agree_updL rfl ?_ _ | refine agree_mixin rfl ?_)) ?_))
          first
            | exact ⟨bA, capA, csA, rfl, hA1, hA4, hs91.tail⟩
            | exact ⟨bA, capA, csA, rfl, hA1, hA4, drop_2nd (show St _ _ (_ :: _ :: _) from hs91)⟩
         ·
          refine w_bslice (ps := [(0, _)]) (pv := [(0, .agg #[.int _ _, .int _ _])]) (cs := [_, _]) want_none rfl rfl (fun w => Try_Zf_fb9 _ _ w) hs76 (fun b92 w93 hs94 => ?_)
          refine w_nil ?_
          refine qn ⟨hs94.tail.tail, ?_⟩
          refine dt_done ?_
          refine d_eff rfl ?_
          refine w_append (X := (_ :: [])) (B := [_]) (rows := (crows l.counts)) (sz := 2) (bytes := 16) want_none Try.underlying24 Try_info51 rfl rfl rfl rfl rfl rfl rfl rfl rfl hs94 own_made hm.c.cons.app.cons.cons.cons.cons (by simp [crows]) hnC (crows_one _) (by simp only [maxLen]; omega) (by omega) (fun v95 w96 B97 ho98 hs99 => ?_)
          replace hs99 := (show St _ _ (_ :: B97 ++ (_ :: _ :: B ++ (_ :: F))) from hs99)
          refine w_nil ?_
          refine qn ⟨hs99.tail.drop, ?_⟩
          refine d_eff rfl ?_
          refine w_append (X := (_ :: [])) (B := B97) (rows := [[_, _]]) (sz := 2) (bytes := 16) want_none Try.underlying24 Try_info51 rfl rfl rfl rfl rfl rfl rfl rfl rfl hs99 ho98 (sl_own (i := 0) rfl (by simp) rfl) rfl (by simp) (by simp [Value.oneCell']) (by simp only [maxLen]; omega) (by omega) (fun v100 w101 B102 ho103 hs104 => ?_)
          replace hs104 := (show St _ _ (_ :: B102 ++ (_ :: _ :: B ++ (_ :: F))) from hs104)
          refine w_nil ?_
          refine qn ⟨hs104.tail.drop, ?_⟩
          refine d_any rfl want_none rfl (fun _ => (y_fieldAddr (o := 2) (i := 2) Try.underlying26 rfl Try.sizeOf24 rfl rfl rfl)) ?_
          have hA : Rt.Own v100 51 2 (l.counts.length + 1) (crows (l.counts ++ [⟨(([1, 2, 4, 8, 16, 32] : List Int).getD o 0), ((Ha.ways l 0)[u]'hu2)[o]'hbi⟩])).flatten B102 := by
            have h9 := ho103
            rw [Nat.zero_add] at h9
            have e : (crows (l.counts ++ [⟨(([1, 2, 4, 8, 16, 32] : List Int).getD o 0), ((Ha.ways l 0)[u]'hu2)[o]'hbi⟩])).flatten = [] ++ (crows l.counts).flatten ++ [(⟨(([1, 2, 4, 8, 16, 32] : List Int).getD o 0), ((Ha.ways l 0)[u]'hu2)[o]'hbi⟩ : Count).cells].flatten := by simp [crows]
            rw [e]; exact h9
          obtain ⟨bA, capA, csA, rfl, hBA, hA1, hA2, hA3, hA4⟩ := own_some hA (by omega)
          subst hBA
          replace hs104 := (show St _ _ (_ :: _ :: _ :: _ :: B ++ (_ :: F)) from hs104)
          refine d_late rfl ?_
          refine w_store (i := 2) (v := .slice _ _ _) (vs := [_]) want_none Try.sizeOf24 rfl rfl rfl rfl rfl (by simp [Value.oneCell']) hs104 rfl (Nat.le_of_ble_eq_true rfl) (fun w105 hs106 => ?_)
          refine w_nil ?_
          refine qn ?_
          refine d_nil ?_
          refine q_then (hC70 _ _ (Md.intro (by repeat (first | exact agree_refl | exact agree_mix | refine agree_upd rfl ?_ | refine agree_updL rfl ?_ _ | refine agree_mixin rfl ?_)) ?_))
          first
            | exact ⟨bA, capA, csA, rfl, hA1, hA4, hs106.tail⟩
            | exact ⟨bA, capA, csA, rfl, hA1, hA4, drop_2nd (show St _ _ (_ :: _ :: _) from hs106)⟩
        ·
         refine w_bslice (ps := [(0, _)]) (pv := [(0, .agg #[.int _ _, .int _ _])]) (cs := [_, _]) want_none rfl rfl (fun w => Try_Zf_fb9 _ _ w) hs73 (fun b107 w108 hs109 => ?_)
         refine w_nil ?_
         refine qn ⟨hs109.tail, ?_⟩
         refine dt_done ?_
         refine d_eff rfl ?_
         refine w_bslice (ps := []) (pv := []) (cs := []) want_none rfl rfl (fun w => Try_Zf_fb8  w) hs109 (fun b110 w111 hs112 => ?_)
         refine w_nil ?_
         refine qn ⟨hs112.tail.tail, ?_⟩
         refine d_eff rfl ?_
         refine w_append (X := ([])) (B := [_]) (rows := (crows l.counts)) (sz := 2) (bytes := 16) want_none Try.underlying24 Try_info51 rfl rfl rfl rfl rfl rfl rfl rfl rfl hs112 own_made hm.c.cons.app.cons.cons.cons.cons (by simp [crows]) hnC (crows_one _) (by simp only [maxLen]; omega) (by omega) (fun v113 w114 B115 ho116 hs117 => ?_)
         replace hs117 := (show St _ _ (B115 ++ (_ :: _ :: _ :: B ++ (_ :: F))) from hs117)
         refine w_nil ?_
         refine qn ⟨hs117.drop.tail, ?_⟩
         refine d_eff rfl ?_
         refine w_append (X := ([])) (B := B115) (rows := [[_, _]]) (sz := 2) (bytes := 16) want_none Try.underlying24 Try_info51 rfl rfl rfl rfl rfl rfl rfl rfl rfl hs117 ho116 (show Sl _ (B115 ++ _) _ _ _ from Sl.app (sl_own (i := 0) rfl (by simp) rfl)) rfl (by simp) (by simp [Value.oneCell']) (by simp only [maxLen]; omega) (by omega) (fun v118 w119 B120 ho121 hs122 => ?_)
         replace hs122 := (show St _ _ (B120 ++ (_ :: _ :: _ :: B ++ (_ :: F))) from hs122)
         refine w_nil ?_
         refine qn ⟨hs122.drop.tail, ?_⟩
         refine d_any rfl want_none rfl (fun _ => (y_fieldAddr (o := 2) (i := 2) Try.underlying26 rfl Try.sizeOf24 rfl rfl rfl)) ?_
         have hA : Rt.Own v118 51 2 (l.counts.length + 1) (crows (l.counts ++ [⟨(([1, 2, 4, 8, 16, 32] : List Int).getD o 0), ((Ha.ways l 0)[u]'hu2)[o]'hbi⟩])).flatten B120 := by
           have h9 := ho121
           rw [Nat.zero_add] at h9
           have e : (crows (l.counts ++ [⟨(([1, 2, 4, 8, 16, 32] : List Int).getD o 0), ((Ha.ways l 0)[u]'hu2)[o]'hbi⟩])).flatten = [] ++ (crows l.counts).flatten ++ [(⟨(([1, 2, 4, 8, 16, 32] : List Int).getD o 0), ((Ha.ways l 0)[u]'hu2)[o]'hbi⟩ : Count).cells].flatten := by simp [crows]
           rw [e]; exact h9
         obtain ⟨bA, capA, csA, rfl, hBA, hA1, hA2, hA3, hA4⟩ := own_some hA (by omega)
         subst hBA
         replace hs122 := (show St _ _ (_ :: _ :: _ :: _ :: B ++ (_ :: F)) from hs122)
         refine d_late rfl ?_
         refine w_store (i := 2) (v := .slice _ _ _) (vs := [_]) want_none Try.sizeOf24 rfl rfl rfl rfl rfl (by simp [Value.oneCell']) hs122 rfl (Nat.le_of_ble_eq_true rfl) (fun w123 hs124 => ?_)
         refine w_nil ?_
         refine qn ?_
         refine d_nil ?_
         refine q_then (hC70 _ _ (Md.intro (by repeat (first | exact agree_refl | exact agree_mix | refine agree_upd rfl ?_ | refine agree_updL rfl ?_ _ | refine agree_mixin rfl ?_)) ?_))
         first
           | exact ⟨bA, capA, csA, rfl, hA1, hA4, hs124.tail⟩
           | exact ⟨bA, capA, csA, rfl, hA1, hA4, drop_2nd (show St _ _ (_ :: _ :: _) from hs124)⟩
       ·
        intro vs μ w125 hM
        obtain ⟨bA, capA, csA, rfl, hA1, hA4, hs⟩ := hM
        refine q_then (hK68 _ _ ?_)
        refine w_seq (fun K127 hK126 => ?_)
        refine w_seq (fun K129 hK128 => ?_)
        have hpw := pow_list o ho6
        have hbv : (([1, 2, 4, 8, 16, 32] : List Int).getD o 0) = 2 ^ o := by rw [← hpw]; simp [List.getD, ho6]
        have hMC : (moreL l ⟨(([1, 2, 4, 8, 16, 32] : List Int).getD o 0), ((Ha.ways l 0)[u]'hu2)[o]'hbi⟩) = (moreL l ⟨2 ^ o, at_ ((Ha.ways l 0)[u]'hu2) o⟩) := by rw [hbv, ← hag]
        have hcA : (moreL l ⟨2 ^ o, at_ ((Ha.ways l 0)[u]'hu2) o⟩).cells (⟨p.ag, p.cg, p.ab, p.cb, some ⟨bA, 0, none⟩, capA⟩ : At3) = [.slice p.ag l.grades.length p.cg, .slice p.ab l.bunches.length p.cb, .slice (some ⟨bA, 0, none⟩) (l.counts.length + 1) capA] := by simp [Lot.cells, moreL]
        obtain ⟨Z, hZ, hsZ⟩ := gen_Z hs
        have hb3 : Ats w0 Z b3 0 (l.cells p) := by rw [hZ]; exact hbx.app.cons.cons.cons
        have hb13 : Ats w0 Z b63 0 ((moreL l ⟨2 ^ o, at_ ((Ha.ways l 0)[u]'hu2) o⟩).cells (⟨p.ag, p.cg, p.ab, p.cb, some ⟨bA, 0, none⟩, capA⟩ : At3)) := by rw [hZ]; rw [hcA]; exact ats_of (i := 1) (vs := [.slice p.ag l.grades.length p.cg, .slice p.ab l.bunches.length p.cb, .slice (some ⟨bA, 0, none⟩) (l.counts.length + 1) capA]) hs rfl rfl
        have hmA : LIn w0 Z l p := by rw [hZ]; exact hm.cons.app.cons.cons.cons
        have hslZ : Sl w0 Z (some ⟨bx, ox, none⟩) 1 (vs.map fun v => [v]) := by rw [hZ]; exact hslB.top.cons.cons.cons
        have helZ : EL w0 Z vs (Ha.ways l 0) := by rw [hZ]; exact helB.top.cons.cons.cons
        have hyZ : Ats w0 Z c1 (p1 + o * 1) [.int .i64 (((Ha.ways l 0)[u]'hu2)[o]'hbi)] := by rw [hZ]; exact hy.cons.cons.cons
        have hmB : LIn w0 Z (moreL l ⟨2 ^ o, at_ ((Ha.ways l 0)[u]'hu2) o⟩) (⟨p.ag, p.cg, p.ab, p.cb, some ⟨bA, 0, none⟩, capA⟩ : At3) := by rw [← hMC]; exact lin_more (i := 0) (c := ⟨(([1, 2, 4, 8, 16, 32] : List Int).getD o 0), ((Ha.ways l 0)[u]'hu2)[o]'hbi⟩) hsZ hmA (by rw [hZ]; rfl) hA1 hA4 (by have := hok.lc; omega)
        refine w_region ?_
        refine w_pure want_none (y_loadN (vs := [_, _, _]) Try.isAgg26 Try.sizeOf26 hsZ rfl rfl hb13) rfl ?_
        refine w_call want_none Try.call38 rfl rfl rfl rfl (c38 (moreL l ⟨2 ^ o, at_ ((Ha.ways l 0)[u]'hu2) o⟩) _ hmB hsZ) ?_
        rintro _ w131 ⟨rfl, hs132⟩
        refine w_pure want_none (y_not rfl rfl) rfl ?_
        refine w_nil ?_
        refine q_then (hK128 _ _ ?_)
        refine w_cond rfl rfl (fun h133 => ?_) (fun h133 => ?_)
        ·
         try simp only [Bool.not_eq_true', Bool.not_eq_false', decide_eq_true_eq, decide_eq_false_iff_not, Int.not_lt, Int.not_le] at h133
         refine w_seq (fun K135 hK134 => ?_)
         refine w_region ?_
         refine w_call want_none Try.call20 rfl rfl rfl rfl (c20 hs132) ?_
         rintro _ w137 ⟨rfl, hs138⟩
         refine w_pure want_none (y_assign (v := .bool _) rfl rfl) rfl ?_
         refine w_nil ?_
         refine q_then (hK134 _ _ ?_)
         refine w_ret ?_
         refine q_then_ret ?_
         refine q_ret (l := [.tmp 6]) (vs := [_]) rfl ⟨⟨rfl, show _ = (.bool _ : Value) from rfl⟩, trivial⟩ ?_
         exact ⟨rfl, (St.cast hZ hs138).tail.tail.tail.drop.tail⟩
        ·
         try simp only [Bool.not_eq_true', Bool.not_eq_false', decide_eq_true_eq, decide_eq_false_iff_not, Int.not_lt, Int.not_le] at h133
         refine w_skip ?_
         refine q_then (hK126 _ _ ?_)
         refine w_seq (fun K140 hK139 => ?_)
         have hco : (check (moreL l ⟨2 ^ o, at_ ((Ha.ways l 0)[u]'hu2) o⟩)).2.2 = 0 := by assumption
         have hH := next_one (List.getElem_mem hu2) hok hNl hco
         refine w_region ?_
         refine w_pure want_none (y_loadN (vs := [_, _, _]) Try.isAgg26 Try.sizeOf26 hs132 rfl rfl hb13) rfl ?_
         refine w_pure want_none (y_move (v := .int _ _) rfl rfl) rfl ?_
         refine w_call want_none Try.call21 rfl rfl rfl rfl (c21 (moreL l ⟨2 ^ o, at_ ((Ha.ways l 0)[u]'hu2) o⟩) _ hmB (o : Int) hs132) ?_
         rintro _ w142 ⟨rfl, hs143⟩
         refine w_pure want_none (y_move (v := .tuple _) rfl rfl) rfl ?_
         refine w_pure want_none (y_extract (v := .agg _) rfl rfl rfl) rfl ?_
         refine w_pure want_none (y_extract (v := .int _ _) rfl rfl rfl) rfl ?_
         refine w_alloc (cs := [_, _]) want_none Try.zeroValue34 rfl hs143 (fun b144 w145 hs146 => ?_)
         refine w_store (i := 0) (v := .agg #[.int _ _, .int _ _]) (vs := [_, _]) want_none Try.sizeOf34 rfl rfl rfl rfl rfl (by simp [Value.oneCell']) hs146 rfl (Nat.le_of_ble_eq_true rfl) (fun w147 hs148 => ?_)
         refine w_pure want_none (y_assign (v := .int _ _) rfl rfl) rfl ?_
         refine w_nil ?_
         refine q_then (hK139 _ _ ?_)
         refine w_seq (fun K150 hK149 => ?_)
         refine w_seq (fun K152 hK151 => ?_)
         refine w_draw [] [(0, 0), (1, 0), (2, 0), (3, 1), (4, 0), (5, 0), (6, 0), (7, 1), (8, 0), (9, 0), (10, 0), (11, 1), (12, 2), (13, 0), (14, 0), (15, 0), (16, 1), (19, 0), (17, 2), (18, 0), (20, 0), (21, 0)] Try_mo (drawOK_of (by kernel_rfl)) hs148 (fun w153 hs154 => ?_)
         refine d_any rfl want_none rfl (fun _ => (y_move (v := .int _ _) rfl rfl)) ?_
         refine d_any rfl want_none rfl (fun _ => (y_neq rfl rfl rfl rfl)) ?_
         refine d_any rfl want_none rfl (fun _ => (y_move (v := .bool _) rfl rfl)) ?_
         refine d_split (fun h155 => ?_) (fun h155 => ?_)
         ·
          exfalso
          try simp only [Bool.not_eq_true', Bool.not_eq_false', decide_eq_true_eq, decide_eq_false_iff_not, Int.not_lt, Int.not_le] at h155
          rw [hH.1] at h155; simp at h155
         ·
          try simp only [Bool.not_eq_true', Bool.not_eq_false', decide_eq_true_eq, decide_eq_false_iff_not, Int.not_lt, Int.not_le] at h155
          refine d_take rfl (want_yes rfl rfl rfl) rfl hs154 (fun _ hq => (y_loadN (vs := [_, _]) Try.isAgg34 Try.sizeOf34 hq rfl rfl (ats_own (i := 0) (vs := [_, _]) rfl rfl))) ?_
          refine d_any rfl (want_yes rfl rfl rfl) rfl (fun _ => (y_move (v := .slice _ _ _) rfl rfl)) ?_
          refine d_any rfl (want_yes rfl rfl rfl) rfl (fun _ => (y_move (v := .int _ _) rfl rfl)) ?_
          refine d_any rfl (want_yes rfl rfl rfl) rfl (fun _ => (y_indexS Try.underlying37 Try.sizeOf3 rfl rfl rfl rfl (i := o) rfl hbi)) ?_
          refine d_take rfl (want_yes rfl rfl rfl) rfl hs154 (fun _ hq => (y_load1 Try.isAgg3 hq.tail rfl rfl hyZ)) ?_
          refine d_any rfl (want_yes rfl rfl rfl) rfl (fun _ => (y_move (v := .slice _ _ _) rfl rfl)) ?_
          refine d_any rfl (want_yes rfl rfl rfl) rfl (fun _ => (y_move (v := .int _ _) rfl rfl)) ?_
          refine d_any rfl (want_yes rfl rfl rfl) rfl (fun _ => (y_indexS Try.underlying37 Try.sizeOf3 rfl rfl rfl rfl (i := o) rfl hbi)) ?_
          refine d_take rfl (want_yes rfl rfl rfl) rfl hs154 (fun _ hq => (y_load1 Try.isAgg3 hq.tail rfl rfl hyZ)) ?_
          refine d_eff rfl ?_
          refine w_call (want_yes rfl rfl rfl) Try.call37 rfl rfl rfl rfl (c37 _ _ hs154) ?_
          rintro _ w157 ⟨rfl, hs158⟩
          refine w_nil ?_
          refine qn ⟨hs158, ?_⟩
          refine d_any rfl (want_yes rfl rfl rfl) rfl (fun _ => (y_neFlat (l := [_, _]) (m := [_, _]) Try.eqGuardType34 Try_flat34 (by first | omega | rfl | (simp only [List.length_map, List.length_set, List.length_append, List.length_take, List.length_drop, List.length_replicate, List.length_cons, List.length_nil] <;> omega)) (by first | omega | rfl | (simp only [List.length_map, List.length_set, List.length_append, List.length_take, List.length_drop, List.length_replicate, List.length_cons, List.length_nil] <;> omega)) rfl rfl rfl rfl rfl rfl)) ?_
          refine d_any rfl want_none rfl (fun _ => (y_pickF (v := .bool _) rfl rfl rfl rfl)) ?_
          refine d_any rfl want_none rfl (fun _ => (y_move (v := .bool _) rfl rfl)) ?_
          refine d_split (fun h159 => ?_) (fun h159 => ?_)
          ·
           exfalso
           try simp only [Bool.not_eq_true', Bool.not_eq_false', decide_eq_true_eq, decide_eq_false_iff_not, Int.not_lt, Int.not_le] at h159
           exact h159 (by rw [hH.1]; simp only [hag])
          ·
           try simp only [Bool.not_eq_true', Bool.not_eq_false', decide_eq_true_eq, decide_eq_false_iff_not, Int.not_lt, Int.not_le] at h159
           refine d_take rfl (want_yes rfl rfl rfl) rfl hs158 (fun _ hq => (y_loadN (vs := [_, _, _]) Try.isAgg26 Try.sizeOf26 hq.tail rfl rfl hb13)) ?_
           refine d_any rfl (want_yes rfl rfl rfl) rfl (fun _ => (y_move (v := .int _ _) rfl rfl)) ?_
           refine d_eff rfl ?_
           refine w_call (want_yes rfl rfl rfl) Try.call45 rfl rfl rfl rfl ((by have h := c45 (moreL l ⟨2 ^ o, at_ ((Ha.ways l 0)[u]'hu2) o⟩) _ hmB.cons (check_ok hco) none 0 [] (by simp) (Sl.nil _ _) hs158; rw [waysR_nil] at h; exact h)) ?_
           rintro _ w161 ⟨B9, vs9, a9, c9, rfl, hsl9, hel9, hs162⟩
           replace hs162 := (show St _ _ (B9 ++ (_ :: Z)) from hs162)
           refine w_nil ?_
           refine qn ⟨hs162.drop, ?_⟩
           refine d_any rfl (want_yes rfl rfl rfl) rfl (fun _ => (y_lenS Try.underlying64 rfl rfl)) ?_
           refine d_any rfl (want_yes rfl rfl rfl) rfl (fun _ => (y_gtr rfl rfl rfl rfl)) ?_
           refine d_any rfl want_none rfl (fun _ => (y_pickF (v := .bool _) rfl rfl rfl rfl)) ?_
           refine d_nil ?_
           refine q_then (hK151 _ _ ?_)
           refine w_cond rfl rfl (fun h163 => ?_) (fun h163 => ?_)
           ·
            exfalso
            try simp only [Bool.not_eq_true', Bool.not_eq_false', decide_eq_true_eq, decide_eq_false_iff_not, Int.not_lt, Int.not_le] at h163
            have := hH.2
            omega
           ·
            try simp only [Bool.not_eq_true', Bool.not_eq_false', decide_eq_true_eq, decide_eq_false_iff_not, Int.not_lt, Int.not_le] at h163
            refine w_skip ?_
            refine q_then (hK149 _ _ ?_)
            refine w_seq (fun K165 hK164 => ?_)
            have hym := Int.emod_nonneg y (show (l.bunches.length : Int) ≠ 0 by omega)
            have hyl := Int.emod_lt_of_pos y (show 0 < (l.bunches.length : Int) by omega)
            obtain ⟨r, hr⟩ : ∃ r : Nat, y % (l.bunches.length : Int) = (r : Int) := ⟨(y % (l.bunches.length : Int)).toNat, by omega⟩
            have hr2 : r < l.bunches.length := by omega
            have hO := next_other h1.1 h1.2 hN hr2
            refine w_region ?_
            refine w_pure want_none (y_move (v := .int _ _) rfl rfl) rfl ?_
            refine w_pure want_none (y_u8int (by rw [Try.underlying5]; rfl) Try.underlying3 rfl rfl (by omega) (by omega)) rfl ?_
            refine w_pure want_none (y_fieldAddr (o := 1) (i := 1) Try.underlying26 rfl Try.sizeOf23 rfl rfl rfl) rfl ?_
            refine w_pure want_none (y_load1 Try.isAgg23 hs162.drop.tail rfl rfl (show Ats _ _ _ _ [_] from Ats.part hb3 1 1)) rfl ?_
            refine w_pure want_none (y_lenS Try.underlying23 rfl rfl) rfl ?_
            refine w_pure want_none (y_rem rfl rfl rfl rfl (by omega) (by omega)) rfl ?_
            refine w_pure want_none (y_assign (v := .int _ _) rfl rfl) rfl ?_
            refine w_nil ?_
            refine q_then (hK164 _ _ ?_)
            refine w_seq (fun K167 hK166 => ?_)
            rw [hr]
            refine w_region ?_
            refine w_pure want_none (y_loadN (vs := [_, _, _]) Try.isAgg26 Try.sizeOf26 hs162.drop.tail rfl rfl hb3) rfl ?_
            refine w_pure want_none (y_move (v := .int _ _) rfl rfl) rfl ?_
            refine w_call want_none Try.call21 rfl rfl rfl rfl (c21 l _ hmA.cons.app (r : Int) hs162) ?_
            rintro _ w169 ⟨rfl, hs170⟩
            refine w_pure want_none (y_move (v := .tuple _) rfl rfl) rfl ?_
            refine w_pure want_none (y_extract (v := .agg _) rfl rfl rfl) rfl ?_
            refine w_pure want_none (y_extract (v := .int _ _) rfl rfl rfl) rfl ?_
            refine w_alloc (cs := [_, _]) want_none Try.zeroValue34 rfl hs170 (fun b171 w172 hs173 => ?_)
            refine w_store (i := 0) (v := .agg #[.int _ _, .int _ _]) (vs := [_, _]) want_none Try.sizeOf34 rfl rfl rfl rfl rfl (by simp [Value.oneCell']) hs173 rfl (Nat.le_of_ble_eq_true rfl) (fun w174 hs175 => ?_)
            refine w_pure want_none (y_assign (v := .int _ _) rfl rfl) rfl ?_
            refine w_nil ?_
            refine q_then (hK166 _ _ ?_)
            refine w_seq (fun K177 hK176 => ?_)
            refine w_region ?_
            refine w_pure want_none (y_move (v := .int _ _) rfl rfl) rfl ?_
            refine w_pure want_none (y_eql rfl rfl rfl rfl) rfl ?_
            refine w_pure want_none (y_move (v := .bool _) rfl rfl) rfl ?_
            refine w_split (fun h178 => ?_) (fun h178 => ?_)
            ·
             try simp only [Bool.not_eq_true', Bool.not_eq_false', decide_eq_true_eq, decide_eq_false_iff_not, Int.not_lt, Int.not_le] at h178
             refine w_pure (want_yes rfl rfl rfl) (y_fieldAddr (o := 0) (i := 0) Try.underlying34 rfl Try.sizeOf3 rfl rfl rfl) rfl ?_
             refine w_pure (want_yes rfl rfl rfl) (y_load1 Try.isAgg3 hs175 rfl rfl (ats_own (i := 0) (vs := [_]) rfl rfl)) rfl ?_
             refine w_pure (want_yes rfl rfl rfl) (y_fieldAddr (o := 1) (i := 1) Try.underlying34 rfl Try.sizeOf3 rfl rfl rfl) rfl ?_
             refine w_pure (want_yes rfl rfl rfl) (y_load1 Try.isAgg3 hs175 rfl rfl (ats_own (i := 0) (vs := [_]) rfl rfl)) rfl ?_
             refine w_pure (want_yes rfl rfl rfl) (y_eql rfl rfl rfl rfl) rfl ?_
             refine w_pure (want_yes rfl rfl rfl) (y_move (v := .bool _) rfl rfl) rfl ?_
             refine w_split (fun h179 => ?_) (fun h179 => ?_)
             ·
              try simp only [Bool.not_eq_true', Bool.not_eq_false', decide_eq_true_eq, decide_eq_false_iff_not, Int.not_lt, Int.not_le] at h179
              refine w_skipop rfl rfl rfl ?_
              refine w_skipop rfl rfl rfl ?_
              refine w_skipop rfl rfl rfl ?_
              refine w_skipop rfl rfl rfl ?_
              refine w_skipop rfl rfl rfl ?_
              refine w_pure (want_yes rfl rfl rfl) (y_pickT (v := _) rfl rfl rfl rfl) rfl ?_
              refine w_pure (want_yes rfl rfl rfl) (y_move (v := .bool _) rfl rfl) rfl ?_
              refine w_skipop rfl rfl rfl ?_
              refine w_skipop rfl rfl rfl ?_
              refine w_skipop rfl rfl rfl ?_
              refine w_skipop rfl rfl rfl ?_
              refine w_skipop rfl rfl rfl ?_
              refine w_skipop rfl rfl rfl ?_
              refine w_skipop' rfl rfl rfl ?_
              refine w_skipop' rfl rfl rfl ?_
              refine w_skipop' rfl rfl rfl ?_
              refine w_skipop rfl rfl rfl ?_
              refine w_pure (want_yes rfl rfl rfl) (y_pickT (v := _) rfl rfl rfl rfl) rfl ?_
              refine w_pure want_none (y_pickT (v := .bool _) rfl rfl rfl rfl) rfl ?_
              refine w_pure want_none (y_move (v := .bool _) rfl rfl) rfl ?_
              refine w_call (want_yes rfl rfl rfl) Try.call20 rfl rfl rfl rfl (c20 hs175) ?_
              rintro _ w181 ⟨rfl, hs182⟩
              refine w_pure want_none (y_pickT (v := .bool _) rfl rfl rfl rfl) rfl ?_
              refine w_pure want_none (y_assign (v := .bool _) rfl rfl) rfl ?_
              refine w_nil ?_
              refine q_then (hK176 _ _ ?_)
              refine w_ret ?_
              refine q_ret (l := [.tmp 6]) (vs := [_]) rfl ⟨⟨rfl, show _ = (.bool _ : Value) from rfl⟩, trivial⟩ ?_
              exact ⟨rfl, (St.cast hZ hs182.tail.drop.tail).tail.tail.tail.drop.tail⟩
             ·
              try simp only [Bool.not_eq_true', Bool.not_eq_false', decide_eq_true_eq, decide_eq_false_iff_not, Int.not_lt, Int.not_le] at h179
              refine w_pure (want_yes rfl rfl rfl) (y_move (v := .slice _ _ _) rfl rfl) rfl ?_
              refine w_pure (want_yes rfl rfl rfl) (y_move (v := .int _ _) rfl rfl) rfl ?_
              refine w_call (want_yes rfl rfl rfl) Try.call55 rfl rfl rfl rfl (c55 _ _ (Ha.ways l 0) vs hslZ.cons.app.cons helZ.cons.app.cons hwl r (fun h hh => by rw [way_len hh]; omega) hs175) ?_
              rintro _ w184 ⟨rfl, hs185⟩
              refine w_pure (want_yes rfl rfl rfl) (y_move (v := .int _ _) rfl rfl) rfl ?_
              refine w_pure (want_yes rfl rfl rfl) (y_gtr rfl rfl rfl rfl) rfl ?_
              refine w_pure (want_yes rfl rfl rfl) (y_pickF (v := .bool _) rfl rfl rfl rfl) rfl ?_
              refine w_pure (want_yes rfl rfl rfl) (y_move (v := .bool _) rfl rfl) rfl ?_
              refine w_split (fun h186 => ?_) (fun h186 => ?_)
              ·
               try simp only [Bool.not_eq_true', Bool.not_eq_false', decide_eq_true_eq, decide_eq_false_iff_not, Int.not_lt, Int.not_le] at h186
               refine w_skipop rfl rfl rfl ?_
               refine w_skipop rfl rfl rfl ?_
               refine w_skipop rfl rfl rfl ?_
               refine w_skipop rfl rfl rfl ?_
               refine w_skipop rfl rfl rfl ?_
               refine w_skipop rfl rfl rfl ?_
               refine w_skipop' rfl rfl rfl ?_
               refine w_skipop' rfl rfl rfl ?_
               refine w_skipop' rfl rfl rfl ?_
               refine w_skipop rfl rfl rfl ?_
               refine w_pure (want_yes rfl rfl rfl) (y_pickT (v := _) rfl rfl rfl rfl) rfl ?_
               refine w_pure want_none (y_pickT (v := .bool _) rfl rfl rfl rfl) rfl ?_
               refine w_pure want_none (y_move (v := .bool _) rfl rfl) rfl ?_
               refine w_call (want_yes rfl rfl rfl) Try.call20 rfl rfl rfl rfl (c20 hs185) ?_
               rintro _ w188 ⟨rfl, hs189⟩
               refine w_pure want_none (y_pickT (v := .bool _) rfl rfl rfl rfl) rfl ?_
               refine w_pure want_none (y_assign (v := .bool _) rfl rfl) rfl ?_
               refine w_nil ?_
               refine q_then (hK176 _ _ ?_)
               refine w_ret ?_
               refine q_ret (l := [.tmp 6]) (vs := [_]) rfl ⟨⟨rfl, show _ = (.bool _ : Value) from rfl⟩, trivial⟩ ?_
               exact ⟨rfl, (St.cast hZ hs189.tail.drop.tail).tail.tail.tail.drop.tail⟩
              ·
               try simp only [Bool.not_eq_true', Bool.not_eq_false', decide_eq_true_eq, decide_eq_false_iff_not, Int.not_lt, Int.not_le] at h186
               refine w_pure (want_yes rfl rfl rfl) (y_move (v := .slice _ _ _) rfl rfl) rfl ?_
               refine w_pure (want_yes rfl rfl rfl) (y_move (v := .int _ _) rfl rfl) rfl ?_
               refine w_call (want_yes rfl rfl rfl) Try.call55 rfl rfl rfl rfl (c55 _ _ (Ha.ways l 0) vs hslZ.cons.app.cons helZ.cons.app.cons hwl r (fun h hh => by rw [way_len hh]; omega) hs185) ?_
               rintro _ w191 ⟨rfl, hs192⟩
               refine w_pure (want_yes rfl rfl rfl) (y_move (v := .int _ _) rfl rfl) rfl ?_
               refine w_pure (want_yes rfl rfl rfl) (y_eql rfl rfl rfl rfl) rfl ?_
               refine w_pure (want_yes rfl rfl rfl) (y_move (v := .bool _) rfl rfl) rfl ?_
               refine w_split (fun h193 => ?_) (fun h193 => ?_)
               ·
                try simp only [Bool.not_eq_true', Bool.not_eq_false', decide_eq_true_eq, decide_eq_false_iff_not, Int.not_lt, Int.not_le] at h193
                refine w_pure (want_yes rfl rfl rfl) (y_move (v := .int _ _) rfl rfl) rfl ?_
                refine w_pure (want_yes rfl rfl rfl) (y_move (v := .int _ _) rfl rfl) rfl ?_
                refine w_pure (want_yes rfl rfl rfl) (y_geq rfl rfl rfl rfl) rfl ?_
                refine w_pure (want_yes rfl rfl rfl) (y_pickT (v := .bool _) rfl rfl rfl rfl) rfl ?_
                refine w_pure (want_yes rfl rfl rfl) (y_pickF (v := .bool _) rfl rfl rfl rfl) rfl ?_
                refine w_pure want_none (y_pickT (v := .bool _) rfl rfl rfl rfl) rfl ?_
                refine w_pure want_none (y_move (v := .bool _) rfl rfl) rfl ?_
                refine w_split (fun h194 => ?_) (fun h194 => ?_)
                ·
                 try simp only [Bool.not_eq_true', Bool.not_eq_false', decide_eq_true_eq, decide_eq_false_iff_not, Int.not_lt, Int.not_le] at h194
                 refine w_call (want_yes rfl rfl rfl) Try.call20 rfl rfl rfl rfl (c20 hs192) ?_
                 rintro _ w196 ⟨rfl, hs197⟩
                 refine w_pure want_none (y_pickT (v := .bool _) rfl rfl rfl rfl) rfl ?_
                 refine w_pure want_none (y_assign (v := .bool _) rfl rfl) rfl ?_
                 refine w_nil ?_
                 refine q_then (hK176 _ _ ?_)
                 refine w_ret ?_
                 refine q_ret (l := [.tmp 6]) (vs := [_]) rfl ⟨⟨rfl, show _ = (.bool _ : Value) from rfl⟩, trivial⟩ ?_
                 exact ⟨rfl, (St.cast hZ hs197.tail.drop.tail).tail.tail.tail.drop.tail⟩
                ·
                 exfalso
                 try simp only [Bool.not_eq_true', Bool.not_eq_false', decide_eq_true_eq, decide_eq_false_iff_not, Int.not_lt, Int.not_le] at h194
                 have := hO.2
                 omega
               ·
                exfalso
                try simp only [Bool.not_eq_true', Bool.not_eq_false', decide_eq_true_eq, decide_eq_false_iff_not, Int.not_lt, Int.not_le] at h193
                have := hO.2
                omega
            ·
             exfalso
             try simp only [Bool.not_eq_true', Bool.not_eq_false', decide_eq_true_eq, decide_eq_false_iff_not, Int.not_lt, Int.not_le] at h178
             rw [hO.1] at h178; simp at h178

end Go.Proofs
