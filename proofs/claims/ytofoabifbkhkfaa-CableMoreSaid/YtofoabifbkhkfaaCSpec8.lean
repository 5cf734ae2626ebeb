/- Plain words of the cable layer: the best cables, how long a cable can be held, what is told. No conditions. -/
import Derived.Test.YtofoabifbkhkfaaCSpec7
set_option linter.unusedSimpArgs false
namespace Go.Rt
structure Best where
  found : Bool
  b : List Int
  v : Int
  c : Int
def bstep (p : Port) (s : Best) (l : List Int) : Best := if s.found = false ∨ less [vain p l, cut p.farms l] [s.v, s.c] = true then ⟨true, l, vain p l, cut p.farms l⟩ else s
def bestUpto (p : Port) (Ls : List (List Int)) (i : Nat) : Best := (Ls.take i).foldl (bstep p) ⟨false, [0, 0, 0], 0, 0⟩
def best (p : Port) (Ls : List (List Int)) : Best := Ls.foldl (bstep p) ⟨false, [0, 0, 0], 0, 0⟩
theorem bestUpto_succ {p : Port} {Ls : List (List Int)} {i : Nat} (hi : i < Ls.length) : bestUpto p Ls (i + 1) = bstep p (bestUpto p Ls i) Ls[i] := by
  unfold bestUpto; rw [List.take_succ_eq_append_getElem hi, List.foldl_append]; rfl
theorem bestUpto_all {p : Port} {Ls : List (List Int)} {i : Nat} (hi : Ls.length ≤ i) : bestUpto p Ls i = best p Ls := by
  unfold bestUpto best; rw [List.take_of_length_le hi]
theorem bstep_take {p : Port} {s : Best} {l : List Int} (h : s.found = false ∨ less [vain p l, cut p.farms l] [s.v, s.c] = true) : bstep p s l = ⟨true, l, vain p l, cut p.farms l⟩ := by unfold bstep; rw [if_pos h]
theorem bstep_keep {p : Port} {s : Best} {l : List Int} (h : s.found = true) (h2 : less [vain p l, cut p.farms l] [s.v, s.c] = false) : bstep p s l = s := by unfold bstep; rw [if_neg (by simp [h, h2])]
theorem best_len {p : Port} {Ls : List (List Int)} (h : ∀ l ∈ Ls, l.length = 3) (i : Nat) : (bestUpto p Ls i).b.length = 3 := by
  unfold bestUpto
  have : ∀ (L : List (List Int)) (s : Best), (∀ l ∈ L, l.length = 3) → s.b.length = 3 → (L.foldl (bstep p) s).b.length = 3 := by
    intro L
    induction L with
    | nil => intro s _ h; exact h
    | cons l L ih =>
      intro s hL hs
      refine ih _ (fun x hx => hL x (.tail _ hx)) ?_
      unfold bstep; split
      · exact hL l (.head _)
      · exact hs
  exact this _ _ (fun l hl => h l (List.mem_of_mem_take hl)) rfl
theorem best_in {p : Port} {Ls : List (List Int)} (h : ∀ l ∈ Ls, ∀ y ∈ l, -1 ≤ y ∧ y ≤ 10) (i : Nat) : ∀ y ∈ (bestUpto p Ls i).b, -1 ≤ y ∧ y ≤ 10 := by
  unfold bestUpto
  have : ∀ (L : List (List Int)) (s : Best), (∀ l ∈ L, ∀ y ∈ l, -1 ≤ y ∧ y ≤ 10) → (∀ y ∈ s.b, -1 ≤ y ∧ y ≤ 10) → ∀ y ∈ (L.foldl (bstep p) s).b, -1 ≤ y ∧ y ≤ 10 := by
    intro L
    induction L with
    | nil => intro s _ h; exact h
    | cons l L ih =>
      intro s hL hs
      refine ih _ (fun x hx => hL x (.tail _ hx)) ?_
      unfold bstep; split
      · exact hL l (.head _)
      · exact hs
  exact this _ _ (fun l hl => h l (List.mem_of_mem_take hl)) (by simp)
def doP (p : Port) : List (List Int) := (doC p).map pad
theorem doP_len {p : Port} : ∀ l ∈ doP p, l.length = 3 := by
  intro l hl
  obtain ⟨x, _, rfl⟩ := List.mem_map.1 hl
  exact pad_len x
theorem doP_in {p : Port} : ∀ l ∈ doP p, ∀ y ∈ l, -1 ≤ y ∧ y ≤ 10 := by
  intro l hl
  obtain ⟨x, hx, rfl⟩ := List.mem_map.1 hl
  exact pad_of (lo := 10) (by omega) (do_in hx)
end Go.Rt
