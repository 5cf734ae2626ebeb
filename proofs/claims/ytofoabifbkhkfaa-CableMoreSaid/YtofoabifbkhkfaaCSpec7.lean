/- Plain words of the cable layer: the cables that do, as they are come to. No conditions. -/
import Derived.Test.YtofoabifbkhkfaaCSpec6
set_option linter.unusedSimpArgs false
namespace Go.Rt
theorem filter_drop {α : Type} (f : α → Bool) (l : List α) (i : Nat) : (l.filter f).drop ((l.take i).filter f).length = (l.drop i).filter f := by
  have h : l.filter f = (l.take i).filter f ++ (l.drop i).filter f := by rw [← List.filter_append, List.take_append_drop]
  rw [h, List.drop_left' rfl]
theorem filter_here {α : Type} {f : α → Bool} {l : List α} {i : Nat} (hi : i < l.length) (hf : f l[i] = true) : (l.filter f).drop ((l.take i).filter f).length = l[i] :: (l.drop (i + 1)).filter f := by
  rw [filter_drop, List.drop_eq_getElem_cons hi, List.filter_cons_of_pos hf]
theorem filter_yes {α : Type} {f : α → Bool} {l : List α} {i : Nat} (hi : i < l.length) (hf : f l[i] = true) : ((l.take (i + 1)).filter f).length = ((l.take i).filter f).length + 1 := by
  rw [List.take_succ_eq_append_getElem hi, List.filter_append, List.length_append, List.filter_cons_of_pos hf]; rfl
theorem filter_no {α : Type} {f : α → Bool} {l : List α} {i : Nat} (hi : i < l.length) (hf : f l[i] = false) : ((l.take (i + 1)).filter f).length = ((l.take i).filter f).length := by
  rw [List.take_succ_eq_append_getElem hi, List.filter_append, List.length_append, List.filter_cons_of_neg (by simp [hf])]; rfl
theorem full_and {p : Port} (hok : p.Ok) {x : Load} (h : ¬ x.ints = [0, 0, 0]) (s : Bool) : (s && decide (p.hold ≤ x.least)) = (s && decide (p.hold ≤ x.least)) := rfl
theorem zero_least {p : Port} (hok : p.Ok) {x : Load} (h : x.ints = [0, 0, 0]) : decide (p.hold ≤ x.least) = false := by
  have h1 : x.least = 0 := by
    unfold Load.ints at h
    simp only [List.cons.injEq] at h
    exact h.1
  have := hok.hold
  rw [h1]; simp; omega
theorem do_len {p : Port} {l : List Int} (h : l ∈ doC p) : l.length = p.farms.length := all_len (List.mem_filter.1 h).1
theorem do_full {p : Port} {l : List Int} (h : l ∈ doC p) : full p l = true := (List.mem_filter.1 h).2
theorem do_in {p : Port} {l : List Int} (h : l ∈ doC p) : ∀ y ∈ l, -1 ≤ y ∧ y ≤ 10 := by
  intro y hy
  have := all_in (List.mem_filter.1 h).1 y hy
  omega
theorem pad_of {l : List Int} {lo : Int} (h0 : lo ≤ 10) (h : ∀ y ∈ l, -1 ≤ y ∧ y ≤ lo) : ∀ y ∈ pad l, -1 ≤ y ∧ y ≤ 10 := by
  intro x hx
  unfold pad at hx
  rcases List.mem_append.1 hx with h1 | h1
  · have := h x (List.mem_of_mem_take h1); omega
  · have := List.mem_of_mem_drop h1
    simp only [List.mem_cons, List.not_mem_nil, or_false, or_self] at this
    omega
theorem all_len2 {below n i : Nat} (hi : i < (allC below n).length) : ((allC below n)[i]).length = n := all_len (List.getElem_mem hi)
theorem allpad_in {below n i : Nat} (hb : below ≤ 11) (hi : i < (allC below n).length) : ∀ y ∈ pad ((allC below n)[i]), -1 ≤ y ∧ y ≤ 10 :=
  pad_of (lo := 10) (by omega) fun y hy => by have := all_in (List.getElem_mem hi) y hy; omega
end Go.Rt
