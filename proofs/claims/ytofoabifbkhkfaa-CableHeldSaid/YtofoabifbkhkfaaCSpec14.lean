/- Plain words of the cable layer's laws: what Plan has, and that it is the least. No conditions. -/
import Derived.Test.YtofoabifbkhkfaaCSpec13
import Derived.Test.YtofoabifbkhkfaaCSpecEx
set_option linter.unusedSimpArgs false
namespace Go.Rt
theorem beforeL_trans : ∀ (a b c : List Int), beforeL a b = true → beforeL b c = true → beforeL a c = true
  | [], _, _, h, _ => by simp [beforeL] at h
  | _ :: _, [], _, h, _ => by simp [beforeL] at h
  | _ :: _, _ :: _, [], _, h => by simp [beforeL] at h
  | x :: a, y :: b, z :: c, h1, h2 => by
    simp only [beforeL] at h1 h2 ⊢
    by_cases e1 : x = y
    · subst e1
      simp only [if_true] at h1
      by_cases e2 : x = z
      · subst e2
        simp only [if_true] at h2 ⊢
        exact beforeL_trans a b c h1 h2
      · rw [if_neg e2] at h2 ⊢; exact h2
    · rw [if_neg e1] at h1
      by_cases e2 : y = z
      · subst e2; rw [if_neg e1]; exact h1
      · rw [if_neg e2] at h2
        simp only [Bool.or_eq_true, Bool.and_eq_true, decide_eq_true_eq, Bool.not_eq_true', decide_eq_false_iff_not] at h1 h2
        rw [if_neg (by omega)]
        simp only [Bool.or_eq_true, Bool.and_eq_true, decide_eq_true_eq, Bool.not_eq_true', decide_eq_false_iff_not]
        omega
theorem beforeL_irrefl : ∀ a : List Int, beforeL a a = false
  | [] => rfl
  | x :: a => by simp only [beforeL, if_true]; exact beforeL_irrefl a
theorem before_iff {p : Port} {a b : List Int} : before p a b = true ↔ vain p a < vain p b ∨ (vain p a = vain p b ∧ (cut p.farms a < cut p.farms b ∨ (cut p.farms a = cut p.farms b ∧ beforeL a b = true))) := by
  unfold before
  split
  · rename_i h
    split
    · rename_i h2; simp [h, h2]
    · rename_i h2; simp only [decide_eq_true_eq]; omega
  · rename_i h; simp only [decide_eq_true_eq]; omega
theorem before_trans {p : Port} {a b c : List Int} (h1 : before p a b = true) (h2 : before p b c = true) : before p a c = true := by
  rw [before_iff] at h1 h2 ⊢
  rcases h1 with h1 | ⟨h1, h1' | ⟨h1', h1''⟩⟩ <;> rcases h2 with h2 | ⟨h2, h2' | ⟨h2', h2''⟩⟩
  · exact .inl (by omega)
  · exact .inl (by omega)
  · exact .inl (by omega)
  · exact .inl (by omega)
  · exact .inr ⟨by omega, .inl (by omega)⟩
  · exact .inr ⟨by omega, .inl (by omega)⟩
  · exact .inl (by omega)
  · exact .inr ⟨by omega, .inl (by omega)⟩
  · exact .inr ⟨by omega, .inr ⟨by omega, beforeL_trans _ _ _ h1'' h2''⟩⟩
theorem before_irrefl {p : Port} {a : List Int} : before p a a = false := by
  unfold before; simp [beforeL_irrefl]
theorem rb_least {p : Port} {L : List (List Int)} : ∀ {i : Nat}, 1 ≤ i → i ≤ L.length → ∀ j (h : j < L.length), j < i → before p L[j] (rbUpto p L i) = false
  | 1, _, hi, j, h, hj => by
    have : j = 0 := by omega
    subst this
    rw [rb_one (by omega)]; exact before_irrefl
  | i + 2, _, hi, j, h, hj => by
    have hi1 : i + 1 < L.length := by omega
    have ih := rb_least (p := p) (L := L) (i := i + 1) (by omega) (by omega)
    rw [show rbUpto p L (i + 2) = _ from rb_succ (i := i + 1) (by omega) hi1]
    unfold rsel
    split
    · rename_i hb
      by_cases hji : j = i + 1
      · subst hji; exact before_irrefl
      · cases hc : before p L[j] L[i + 1] with
        | false => rfl
        | true =>
          have := before_trans hc hb
          rw [ih j h (by omega)] at this; cases this
    · rename_i hb
      by_cases hji : j = i + 1
      · subst hji; simpa using hb
      · exact ih j h (by omega)
theorem do_mem {p : Port} {l : List Int} (h : l ∈ allC 11 p.farms.length) (hf : full p l = true) : l ∈ doC p := List.mem_filter.2 ⟨h, hf⟩
theorem plan_e09 {p : Port} (h : (check p).2.2 = 0) : planE p = 0 ∨ planE p = 9 := by
  unfold planE
  rw [if_pos h]; split <;> simp
theorem plan_iff {p : Port} (h : (check p).2.2 = 0) : planE p = 0 ↔ 0 < (doC p).length := by
  constructor
  · intro h0
    rcases Nat.eq_zero_or_pos (doC p).length with hz | hz
    · have := (plan_e2 h (best_none hz)).2.2; omega
    · exact hz
  · intro hz; exact (plan_rb h hz).2.2
/-- What Plan has, if there are cables that do. -/
theorem plan_has {p : Port} (h : (check p).2.2 = 0) (h0 : planE p = 0) : planL p ∈ doC p ∧ planV p = vain p (planL p) ∧ ∀ l ∈ doC p, before p l (planL p) = false := by
  have hz := (plan_iff h).1 h0
  obtain ⟨e1, e2, _⟩ := plan_rb h hz
  refine ⟨by rw [e1]; exact rb_in hz (Nat.le_refl _), by rw [e1, e2], ?_⟩
  intro l hl
  obtain ⟨j, hj, rfl⟩ := List.getElem_of_mem hl
  rw [e1]; exact rb_least hz (Nat.le_refl _) j hj hj
theorem plan_not {p : Port} (h : (check p).2.2 = 0) (h0 : ¬ planE p = 0) : doC p = [] ∧ planL p = [] := by
  have hz : (doC p).length = 0 := by
    rcases Nat.eq_zero_or_pos (doC p).length with hz | hz
    · exact hz
    · exact absurd ((plan_iff h).2 hz) h0
  exact ⟨List.length_eq_zero_iff.1 hz, (plan_e2 h (best_none hz)).1⟩
theorem does_one {p : Port} {l : List Int} : does p l = 1 ↔ full p l = true := by
  unfold does
  split
  · simp [*]
  · rename_i h
    split <;> simp [h]
theorem does_two {p : Port} {l : List Int} (h : does p l = 2) : never p l = true := by
  unfold does at h
  split at h
  · omega
  · split at h
    · assumption
    · omega
theorem enter_any {p : Port} (h : (check p).2.2 = 0) {l : List Int} (hl : l.length = p.farms.length) (hi : ∀ z ∈ l, -1 ≤ z ∧ z ≤ 10) : enterErr p l = 0 := by
  unfold enterErr
  rw [if_neg (by simp [h]), if_neg (by simp [hl]), if_neg]
  intro ha
  rw [List.any_eq_true] at ha
  obtain ⟨z, hz, hz2⟩ := ha
  have := hi z hz
  simp only [out, Bool.or_eq_true, decide_eq_true_eq] at hz2
  omega
theorem day_mem {p : Port} {day : Int} (h1 : p.clo ≤ day) (h2 : day ≤ p.chi) : day ∈ p.days := by
  unfold Port.days
  refine List.mem_map.2 ⟨(day - p.clo).toNat, List.mem_range.2 (by omega), by omega⟩
theorem mem_day {p : Port} {day : Int} (h : day ∈ p.days) : p.clo ≤ day ∧ day ≤ p.chi := by
  unfold Port.days at h
  obtain ⟨k, hk, rfl⟩ := List.mem_map.1 h
  rw [List.mem_range] at hk
  omega
theorem full_day {p : Port} {l : List Int} (h : full p l = true) {day : Int} (h1 : p.clo ≤ day) (h2 : day ≤ p.chi) : p.hold ≤ (on p.farms l day).least := by
  unfold full at h
  simpa using List.all_eq_true.1 h day (day_mem h1 h2)
theorem full_of {p : Port} {l : List Int} (h : ∀ day, p.clo ≤ day → day ≤ p.chi → p.hold ≤ (on p.farms l day).least) : full p l = true := by
  unfold full
  refine List.all_eq_true.2 fun day hd => ?_
  have := mem_day hd
  simpa using h day this.1 this.2
theorem never_day {p : Port} {l : List Int} (h : never p l = true) {day : Int} (h1 : p.clo ≤ day) (h2 : day ≤ p.chi) : (on p.farms l day).most < p.hold := by
  unfold never at h
  simpa using List.all_eq_true.1 h day (day_mem h1 h2)
theorem max_fold (L : List Load) : ∀ n : Int, n ≤ L.foldl (fun n x => max n x.vain) n ∧ ∀ x ∈ L, x.vain ≤ L.foldl (fun n x => max n x.vain) n := by
  induction L with
  | nil => intro n; simp
  | cons y L ih =>
    intro n
    have := ih (max n y.vain)
    simp only [List.foldl_cons]
    refine ⟨by omega, fun x hx => ?_⟩
    cases hx with
    | head => omega
    | tail _ hx => exact this.2 x hx
theorem max_le (L : List Load) : ∀ n m : Int, n ≤ m → (∀ x ∈ L, x.vain ≤ m) → L.foldl (fun n x => max n x.vain) n ≤ m := by
  induction L with
  | nil => intro n m h _; exact h
  | cons y L ih =>
    intro n m h hx
    have := hx y (.head _)
    exact ih _ m (by show max n y.vain ≤ m; omega) fun x h => hx x (.tail _ h)
theorem vain_day {p : Port} {l : List Int} {day : Int} (h1 : p.clo ≤ day) (h2 : day ≤ p.chi) : (on p.farms l day).vain ≤ vain p l :=
  (max_fold (loads p l) 0).2 _ (List.mem_map.2 ⟨day, day_mem h1 h2, rfl⟩)
theorem vain_of {p : Port} {l : List Int} {m : Int} (h0 : 0 ≤ m) (h : ∀ day, p.clo ≤ day → day ≤ p.chi → (on p.farms l day).vain ≤ m) : vain p l ≤ m := by
  refine max_le _ 0 m h0 fun x hx => ?_
  obtain ⟨day, hd, rfl⟩ := List.mem_map.1 hx
  have := mem_day hd
  exact h day this.1 this.2
theorem quay_get {p : Port} {l : List Int} (h : enterErr p l = 0) {k : Nat} (hk : k < (quayR p l).length) : (quayR p l)[k] = [(on p.farms l (p.clo + k)).least, (on p.farms l (p.clo + k)).most] := by
  have e : quayR p l = quay p l := by unfold quayR; rw [if_pos h]
  have hk2 : k < (quay p l).length := by rw [← e]; exact hk
  have : (quayR p l)[k] = (quay p l)[k] := by simp [e]
  rw [this]
  simp [quay, loads, Port.days]
theorem quay_len {p : Port} {l : List Int} (h : enterErr p l = 0) (hc : p.clo ≤ p.chi) : ((quayR p l).length : Int) = p.chi - p.clo + 1 := by
  have e : quayR p l = quay p l := by unfold quayR; rw [if_pos h]
  rw [e]; unfold quay; rw [List.length_map, loads_len]; omega
theorem fullR_eq {p : Port} {l : List Int} (h : enterErr p l = 0) : fullR p l = does p l := by unfold fullR; rw [if_pos h]
theorem vainR_eq {p : Port} {l : List Int} (h : enterErr p l = 0) : vainR p l = vain p l := by unfold vainR; rw [if_pos h]
/-- A truth of the full law: what is fresh and in vain on its day. -/
theorem truth_full {p : Port} (hok : p.Ok) {l x : List Int} (hl : l.length = p.farms.length) {d : Int} :
    (full p l = true → p.hold ≤ (trU p.farms l x (p.clo + d % (p.chi - p.clo + 1)) p.farms.length).1) ∧ (never p l = true → (trU p.farms l x (p.clo + d % (p.chi - p.clo + 1)) p.farms.length).1 < p.hold) ∧
    (trU p.farms l x (p.clo + d % (p.chi - p.clo + 1)) p.farms.length).2 ≤ vain p l ∧ (on p.farms l (p.clo + d % (p.chi - p.clo + 1))).least ≤ (trU p.farms l x (p.clo + d % (p.chi - p.clo + 1)) p.farms.length).1 ∧
    (trU p.farms l x (p.clo + d % (p.chi - p.clo + 1)) p.farms.length).1 ≤ (on p.farms l (p.clo + d % (p.chi - p.clo + 1))).most := by
  have hc := hok.come
  have hq1 := Int.emod_nonneg d (show p.chi - p.clo + 1 ≠ 0 by omega)
  have hq2 := Int.emod_lt_of_pos d (show 0 < p.chi - p.clo + 1 by omega)
  generalize d % (p.chi - p.clo + 1) = q at hq1 hq2 ⊢
  have ht := tr_all (x := x) (day := p.clo + q) hok.farm hl
  have hv := vain_day (p := p) (l := l) (day := p.clo + q) (by omega) (by omega)
  refine ⟨fun h => ?_, fun h => ?_, by omega, ht.1, ht.2.1⟩
  · have := full_day h (day := p.clo + q) (by omega) (by omega); omega
  · have := never_day h (day := p.clo + q) (by omega) (by omega); omega
end Go.Rt
