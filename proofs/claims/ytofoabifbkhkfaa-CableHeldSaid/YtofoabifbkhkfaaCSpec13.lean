/- Plain words of the cable layer's laws: any cables, any truth. No conditions. -/
import Derived.Test.YtofoabifbkhkfaaCSpec12
set_option linter.unusedSimpArgs false
namespace Go.Rt
/-- A list's number, by turns. -/
def turnOf (x : List Int) (n : Nat) : Int := if x.length = 0 then 0 else x.getD (n % x.length) 0
theorem turn_in {x : List Int} (h : ∀ z ∈ x, 0 ≤ z ∧ z ≤ 255) (n : Nat) : 0 ≤ turnOf x n ∧ turnOf x n ≤ 255 := by
  unfold turnOf
  split
  · omega
  · rename_i h0
    have hl : n % x.length < x.length := Nat.mod_lt _ (by omega)
    simp only [List.getD, List.getElem?_eq_getElem hl, Option.getD_some]
    exact h _ (List.getElem_mem hl)
def anyC (n : Nat) (x : List Int) : List Int := (List.range n).map fun i => turnOf x i % 12 - 1
theorem any_len (n : Nat) (x : List Int) : (anyC n x).length = n := by simp [anyC]
theorem any_succ (n : Nat) (x : List Int) : anyC (n + 1) x = anyC n x ++ [turnOf x n % 12 - 1] := by simp [anyC, List.range_succ]
theorem any_in {n : Nat} {x : List Int} : ∀ z ∈ anyC n x, -1 ≤ z ∧ z ≤ 10 := by
  intro z hz
  obtain ⟨i, _, rfl⟩ := List.mem_map.1 hz
  omega
theorem any_all (n : Nat) (x : List Int) : anyC n x ∈ allC 11 n := by
  have := seg_all (ds := dys 11) n [] (anyC n x) ?_ (any_len n x)
  · simpa [allC] using this
  · intro z hz
    have := any_in z hz
    unfold dys
    by_cases h : z = -1
    · simp [h]
    · refine List.mem_append.2 (.inl (List.mem_map.2 ⟨z.toNat, List.mem_range.2 (by omega), by omega⟩))
/-- What is fresh and what is in vain in a truth, behind some farms. -/
def ownH (f : Farm) (t : Int) : Int := f.lo + t % (f.hi - f.lo + 1)
def trU (fs : List Farm) (l x : List Int) (day : Int) : Nat → Int × Int
  | 0 => (0, 0)
  | i + 1 => match fs[i]? with
    | some f => if l.getD i 0 = -1 then trU fs l x day i else if fresh f (l.getD i 0) day then ((trU fs l x day i).1 + ownH f (turnOf x i), (trU fs l x day i).2) else ((trU fs l x day i).1, (trU fs l x day i).2 + ownH f (turnOf x i))
    | none => trU fs l x day i
theorem ownH_in {f : Farm} (hf : f.Ok) {t : Int} : f.lo ≤ ownH f t ∧ ownH f t ≤ f.hi := by
  unfold Farm.Ok at hf
  unfold ownH
  have h1 := Int.emod_nonneg t (show f.hi - f.lo + 1 ≠ 0 by omega)
  have h2 := Int.emod_lt_of_pos t (show 0 < f.hi - f.lo + 1 by omega)
  omega
theorem tr_bound {fs : List Farm} {l x : List Int} {day : Int} (hok : ∀ f ∈ fs, f.Ok) (hl : l.length = fs.length) : ∀ i, i ≤ fs.length →
    (onUpto fs l day i).least ≤ (trU fs l x day i).1 ∧ (trU fs l x day i).1 ≤ (onUpto fs l day i).most ∧ 0 ≤ (trU fs l x day i).2 ∧ (trU fs l x day i).2 ≤ (onUpto fs l day i).vain
  | 0, _ => by simp [onUpto, trU]
  | i + 1, hi => by
    have ih := tr_bound (x := x) (day := day) hok hl i (by omega)
    have hi2 : i < fs.length := by omega
    have ho := ownH_in (hok _ (List.getElem_mem hi2)) (t := turnOf x i)
    have hf := hok _ (List.getElem_mem hi2)
    unfold Farm.Ok at hf
    rw [onUpto_succ day hi2 (by omega)]
    simp only [trU, List.getElem?_eq_getElem hi2, step]
    split
    · exact ih
    · split
      · dsimp only; omega
      · dsimp only; omega
theorem tr_all {fs : List Farm} {l x : List Int} {day : Int} (hok : ∀ f ∈ fs, f.Ok) (hl : l.length = fs.length) :
    (on fs l day).least ≤ (trU fs l x day fs.length).1 ∧ (trU fs l x day fs.length).1 ≤ (on fs l day).most ∧ 0 ≤ (trU fs l x day fs.length).2 ∧ (trU fs l x day fs.length).2 ≤ (on fs l day).vain := by
  have := tr_bound (x := x) (day := day) hok hl fs.length (Nat.le_refl _)
  rwa [onUpto_all (i := fs.length) day (Nat.le_refl _)] at this
theorem trU_never {fs : List Farm} {l x : List Int} {day : Int} {i : Nat} (hi : i < fs.length) (h : l.getD i 0 = -1) : trU fs l x day (i + 1) = trU fs l x day i := by
  simp only [trU, List.getElem?_eq_getElem hi, if_pos h]
theorem trU_fresh {fs : List Farm} {l x : List Int} {day : Int} {i : Nat} (hi : i < fs.length) (h : ¬ l.getD i 0 = -1) (h2 : fresh fs[i] (l.getD i 0) day = true) : trU fs l x day (i + 1) = ((trU fs l x day i).1 + ownH fs[i] (turnOf x i), (trU fs l x day i).2) := by
  simp only [trU, List.getElem?_eq_getElem hi, if_neg h, h2, if_true]
theorem trU_vain {fs : List Farm} {l x : List Int} {day : Int} {i : Nat} (hi : i < fs.length) (h : ¬ l.getD i 0 = -1) (h2 : fresh fs[i] (l.getD i 0) day = false) : trU fs l x day (i + 1) = ((trU fs l x day i).1, (trU fs l x day i).2 + ownH fs[i] (turnOf x i)) := by
  simp only [trU, List.getElem?_eq_getElem hi, if_neg h, h2, Bool.false_eq_true, if_false]
theorem tr_small {p : Port} (hok : p.Ok) {l x : List Int} {day : Int} (hl : l.length = p.farms.length) (i : Nat) (hi : i ≤ p.farms.length) : 0 ≤ (trU p.farms l x day i).1 ∧ (trU p.farms l x day i).1 ≤ 180 ∧ 0 ≤ (trU p.farms l x day i).2 ∧ (trU p.farms l x day i).2 ≤ 180 := by
  have h1 := tr_bound (x := x) (day := day) hok.farm hl i hi
  have h2 := onUpto_bound (l := l) day i (by have := hok.len; omega) hok.farm
  omega
end Go.Rt
