/- Plain words of the cable layer: valid ports, cables that are given. No conditions. -/
import Derived.Test.YtofoabifbkhkfaaCSpec3
set_option linter.unusedSimpArgs false
namespace Go.Rt
theorem fErr_ok {b : List ByteArray} {f : Farm} (h : fErr b f = 0) : f.Ok := by
  unfold fErr at h
  split at h
  · split at h
    · omega
    · unfold farmErr at h
      split at h
      · omega
      · rename_i h1
        unfold ends at h
        split at h
        · omega
        · rename_i h2
          split at h
          · omega
          · simp only [out, Bool.or_eq_true, decide_eq_true_eq, not_or] at h1 h2
            unfold Farm.Ok
            omega
  · omega
theorem farmsErr_ok : ∀ (l : List Farm) (b : List ByteArray) (i : Int), (farmsErr b i l).2.2 = 0 → ∀ f ∈ l, f.Ok
  | [], _, _, _ => by simp
  | f :: l, b, i, h => by
    simp only [farmsErr] at h
    split at h
    · rename_i h1
      intro g hg
      cases hg with
      | head => exact fErr_ok h1
      | tail _ hg => exact farmsErr_ok l _ _ h g hg
    · rename_i h1; exact absurd h h1
theorem check_ok {p : Port} (h : (check p).2.2 = 0) : p.Ok := by
  unfold check at h
  split at h
  · simp at h
  · rename_i h1
    split at h
    · simp at h
    · rename_i h2
      split at h
      · simp at h
      · rename_i h3
        simp only [out, Bool.or_eq_true, decide_eq_true_eq, not_or] at h1
        exact ⟨by omega, by omega, by omega, farmsErr_ok _ _ _ h⟩
theorem farmsErr_zero : ∀ (l : List Farm) (b : List ByteArray) (i : Int), (farmsErr b i l).2.2 = 0 → farmsErr b i l = (0, 0, 0)
  | [], _, _, _ => rfl
  | f :: l, b, i, h => by
    simp only [farmsErr] at h ⊢
    split at h
    · rename_i h1; rw [if_pos h1]; exact farmsErr_zero l _ _ h
    · rename_i h1; exact absurd h h1
theorem check_zero {p : Port} (h : (check p).2.2 = 0) : check p = (0, 0, 0) := by
  unfold check at h ⊢
  split at h
  · simp at h
  · rename_i h1
    rw [if_neg h1]
    split at h
    · simp at h
    · rename_i h2
      rw [if_neg h2]
      split at h
      · simp at h
      · rename_i h3
        rw [if_neg h3]
        exact farmsErr_zero _ _ _ h
/-- The cables as the program keeps them. -/
def pad (l : List Int) : List Int := l.take 3 ++ [0, 0, 0].drop l.length
theorem pad_len (l : List Int) : (pad l).length = 3 := by simp [pad]; omega
/-- The error of a port, or of cables. -/
def enterErr (p : Port) (l : List Int) : Int := if (check p).2.2 ≠ 0 then (check p).2.2 else if l.length ≠ p.farms.length then 3 else if l.any (out (-1) 10) then 7 else 0
theorem enter_ok {p : Port} {l : List Int} (h : enterErr p l = 0) : (check p).2.2 = 0 ∧ l.length = p.farms.length ∧ ∀ x ∈ l, -1 ≤ x ∧ x ≤ 10 := by
  unfold enterErr at h
  split at h
  · rename_i h1; exact absurd h h1
  · rename_i h1
    split at h
    · omega
    · rename_i h2
      split at h
      · omega
      · rename_i h3
        refine ⟨by simpa using h1, by simpa using h2, fun x hx => ?_⟩
        have h4 : l.any (out (-1) 10) = false := by simpa using h3
        rw [List.any_eq_false] at h4
        have := h4 x hx
        simp only [out, Bool.or_eq_true, decide_eq_true_eq, not_or] at this
        omega
theorem pad_in {p : Port} {l : List Int} (h : enterErr p l = 0) : ∀ x ∈ pad l, -1 ≤ x ∧ x ≤ 10 := by
  intro x hx
  unfold pad at hx
  rcases List.mem_append.1 hx with h1 | h1
  · exact (enter_ok h).2.2 x (List.mem_of_mem_take h1)
  · have := List.mem_of_mem_drop h1
    simp only [List.mem_cons, List.not_mem_nil, or_false, or_self] at this
    omega
theorem zip_pad {fs : List Farm} {l : List Int} (h : l.length = fs.length) (h3 : fs.length ≤ 3) : fs.zip (pad l) = fs.zip l := by
  unfold pad
  rw [List.take_of_length_le (by omega)]
  apply List.ext_getElem?
  intro i
  by_cases hi : i < l.length
  · simp [List.getElem?_append_left hi, List.zip, List.getElem?_zipWith]
  · simp [List.zip, List.getElem?_zipWith, List.getElem?_eq_none (by omega : fs.length ≤ i)]
theorem on_pad {fs : List Farm} {l : List Int} (day : Int) (h : l.length = fs.length) (h3 : fs.length ≤ 3) : on fs (pad l) day = on fs l day := by unfold on; rw [zip_pad h h3]
theorem loads_pad {p : Port} {l : List Int} (h : l.length = p.farms.length) (h3 : p.farms.length ≤ 3) : loads p (pad l) = loads p l := by
  unfold loads; congr 1; funext d; exact on_pad d h h3
theorem vain_pad {p : Port} {l : List Int} (h : l.length = p.farms.length) (h3 : p.farms.length ≤ 3) : vain p (pad l) = vain p l := by unfold vain; rw [loads_pad h h3]
theorem full_pad {p : Port} {l : List Int} (h : l.length = p.farms.length) (h3 : p.farms.length ≤ 3) : full p (pad l) = full p l := by unfold full; congr 1; funext d; rw [on_pad d h h3]
theorem never_pad {p : Port} {l : List Int} (h : l.length = p.farms.length) (h3 : p.farms.length ≤ 3) : never p (pad l) = never p l := by unfold never; congr 1; funext d; rw [on_pad d h h3]
theorem does_pad {p : Port} {l : List Int} (h : l.length = p.farms.length) (h3 : p.farms.length ≤ 3) : does p (pad l) = does p l := by unfold does; rw [full_pad h h3, never_pad h h3]
/-- Full and never, over the loads. -/
theorem full_loads (p : Port) (l : List Int) : full p l = (loads p l).all fun x => decide (p.hold ≤ x.least) := by simp [full, loads, List.all_map, Function.comp_def]
theorem never_loads (p : Port) (l : List Int) : never p l = (loads p l).all fun x => decide (x.most < p.hold) := by simp [never, loads, List.all_map, Function.comp_def]
def quay (p : Port) (l : List Int) : List (List Int) := (loads p l).map fun x => [x.least, x.most]
def quayR (p : Port) (l : List Int) : List (List Int) := if enterErr p l = 0 then quay p l else []
end Go.Rt
