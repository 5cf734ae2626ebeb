/- Arguments that came in, opened into what the walks ask. No conditions. -/
import Derived.Test.YtbnnmjfjibneaaaEng8
import Derived.ProofKit
import Derived.Deep.Slices
set_option linter.unusedSimpArgs false
set_option linter.unusedVariables false
namespace Go.Rt
open Go.RowKit
variable {H : Type} {enc : TypeId × Value → H} {P : Program} {W : World} {sp : Nat → Bool} {held : Bool} {fuel : Nat} {t : TypeId} {cs : List Value} {x : DataW H × List MemPlace}
/-- A row of cells that is read. -/
theorem ats_cells {b off n : Nat} {cs : List Value} (h : W.cells? 0 ⟨b, off, none⟩ n = some cs) : Ats W [] b off cs := by
  obtain ⟨_, hl, hc⟩ := World.cells?_some h
  refine ats_base fun j v hj => ?_
  have hjn : j < n := by rw [← hl]; exact (List.getElem?_eq_some_iff.1 hj).1
  have := hc j hjn
  rw [Addr.add_lit] at this
  rw [this, hj]
/-- A slice that came in, element by element: what each element's cells are, by F. -/
theorem open_rows {α : Type} [Inhabited α] {e sz : Nat} {row : α → List Value} {ok : α → Prop} (ht : P.underlying t = some (.slice e)) (hsz : P.cellsOf e = sz) (hpos : 0 < sz) (hrow : ∀ f, (row f).length = sz)
    (hel : ∀ fuel cs y, DataW.trod enc P W 0 sp held fuel e cs = some y → ∃ f, cs = row f ∧ ok f) (h : DataW.trod enc P W 0 sp held fuel t cs = some x) :
    ∃ (a : Option Addr) (c : Nat) (l : List α), cs = [.slice a l.length c] ∧ Sl W [] a sz (l.map row) ∧ l.length ≤ c ∧ l.length ≤ 9223372036854775807 ∧ ∀ f ∈ l, ok f := by
  rcases Deep.open_slice ht h with ⟨rfl, _⟩ | ⟨a, len, cap, m, n, D, Pl, rfl, _, hlc, hcm, hm, _, hx⟩
  · exact ⟨none, 0, [], rfl, Sl.nil _ _, by simp, by simp, by simp⟩
  · have hlm : len ≤ m := by rw [hm]; split <;> omega
    have key : ∀ i, ∃ f : α, i < len → (∃ cs', W.cells? 0 (a.add (i * sz)) sz = some cs' ∧ cs' = row f) ∧ ok f := by
      intro i
      by_cases hi : i < len
      · obtain ⟨cs', h1, h2⟩ := hx i (by omega)
        rw [hsz] at h1
        obtain ⟨f, hf, hok⟩ := hel _ _ _ h2
        exact ⟨f, fun _ => ⟨⟨cs', h1, hf⟩, hok⟩⟩
      · exact ⟨default, fun h => absurd h hi⟩
    obtain ⟨F, hF⟩ := Classical.skolem.1 key
    have hmax : cap ≤ 9223372036854775807 := by simpa [maxLen] using hcm
    refine ⟨some a, cap, (List.range len).map F, by simp, ?_, by simpa using hlc, by simp; omega, ?_⟩
    · by_cases h0 : len = 0
      · subst h0; exact Sl.nil _ _
      · obtain ⟨b, off, spot⟩ := a
        have hspot : spot = none := by
          obtain ⟨⟨cs', h1, h2⟩, _⟩ := hF 0 (by omega)
          obtain ⟨_, hl, hc⟩ := World.cells?_some h1
          have h3 := hc 0 hpos
          have h4 : cs'[0]? = some (cs'[0]'(by omega)) := List.getElem?_eq_getElem (by omega)
          rw [h4] at h3
          simpa [Addr.add] using World.cell?_spot h3
        subst hspot
        refine .inr ⟨b, off, rfl, fun i r hi => ?_⟩
        have hil : i < len := by have := (List.getElem?_eq_some_iff.1 hi).1; simpa using this
        have hr : r = row (F i) := by
          simp only [List.getElem?_map, List.getElem?_range hil, Option.map_some, Option.some.injEq] at hi
          exact hi.symm
        subst hr
        obtain ⟨⟨cs', h1, h2⟩, _⟩ := hF i hil
        subst h2
        rw [Addr.add_lit] at h1
        exact ⟨hrow _, ats_cells h1⟩
    · intro f hf
      obtain ⟨i, hi, rfl⟩ := List.mem_map.1 hf
      exact (hF i (List.mem_range.1 hi)).2
theorem trod_i64 (ht : P.underlying t = some (.int .i64)) (h : DataW.trod enc P W 0 sp held fuel t cs = some x) : ∃ n, cs = [.int .i64 n] := by
  obtain ⟨n, h, _⟩ := DataW.trod_int ht h
  exact ⟨n, h⟩
/-- One field of a struct that is read. -/
theorem trod_field {fs : Array Field} (ht : P.underlying t = some (.struct fs)) (h : DataW.trod enc P W 0 sp held fuel t cs = some x) (i e off sz : Nat) {f : Field} (hf : fs[i]? = some f) (he : f.type = e) (ho : f.offset = off) (hc : P.cellsOf e = sz) :
    ∃ n y, DataW.trod enc P W 0 sp held n e ((cs.drop off).take sz) = some y := by
  subst he ho hc
  obtain ⟨xs, n, _, _, _, hl, hfl⟩ := DataW.trod_struct ht h
  have hi : i < xs.length := by rw [hl]; exact (Array.getElem?_eq_some_iff.1 hf).1
  refine ⟨n, xs[i], ?_⟩
  rw [hfl i f hf, List.getElem?_eq_getElem hi]
theorem trod_len {fs : Array Field} (ht : P.underlying t = some (.struct fs)) (h : DataW.trod enc P W 0 sp held fuel t cs = some x) : cs.length = P.cellsOf t := by
  obtain ⟨_, _, _, _, h, _⟩ := DataW.trod_struct ht h
  exact h
end Go.Rt
