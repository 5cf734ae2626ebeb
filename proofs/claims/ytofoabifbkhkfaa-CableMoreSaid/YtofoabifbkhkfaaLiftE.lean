/- More of the cable layer's arguments, opened: two bytes, how it is easier, one farm. No conditions. -/
import Derived.Test.YtofoabifbkhkfaaLiftD
import Derived.OpenShut
set_option maxRecDepth 100000
set_option linter.unusedSimpArgs false
set_option linter.unusedVariables false
namespace Go.Proofs.Ytofoabifbkhkfaa
open Go.Rt Go.RowKit Go.ChangeShapes Go.WideShapes Go.ChangeAt
variable {H : Type} {enc : TypeId × Value → H} {W : World} {sp : Nat → Bool} {held : Bool}
theorem open_two {v : Value} {d : DataW H} {ps : List MemPlace} {r : Reach} {b0 : Nat} (hval : Value.okWide Try.prog W r b0 65 v) (h : DataW.Trod enc Try.prog W 0 sp held 65 v d ps) :
    ∃ x0 x1 : Int, v = .agg #[.int .u8 x0, .int .u8 x1] ∧ (0 ≤ x0 ∧ x0 ≤ 255) ∧ (0 ≤ x1 ∧ x1 ≤ 255) := by
  obtain ⟨xs, rfl, hsz⟩ : ∃ xs, v = .agg xs ∧ xs.size = 2 := by
    unfold Value.okWide at hval
    rw [Try.underlying65] at hval
    obtain ⟨cs, h1, h2, _⟩ := hval
    exact ⟨cs, h1, by rw [h2, cells65]⟩
  obtain ⟨fuel, hf⟩ := h
  have hf2 : DataW.trod enc Try.prog W 0 sp held fuel 65 xs.toList = some (d, ps) := hf
  obtain ⟨ys, m, _, _, _, hl, he⟩ := DataW.trod_array Try.underlying65 hf2
  rw [cells5] at he
  obtain ⟨xl, rfl⟩ : ∃ l : List Value, xs = l.toArray := ⟨xs.toList, by simp⟩
  have hl2 : xl.length = 2 := by simpa using hsz
  match xl, hl2 with
  | [c0, c1], _ =>
    have h0 := he 0 (by omega)
    have h1 := he 1 (by omega)
    rw [List.getElem?_eq_getElem (by omega)] at h0 h1
    obtain ⟨n0, e0, r0⟩ := trod_u8 h0
    obtain ⟨n1, e1, r1⟩ := trod_u8 h1
    simp at e0 e1
    exact ⟨n0, n1, by rw [e0, e1], r0, r1⟩
theorem open_easier {v : Value} {d : DataW H} {ps : List MemPlace} {r : Reach} {b0 : Nat} (hval : Value.okWide Try.prog W r b0 68 v) (h : DataW.Trod enc Try.prog W 0 sp held 68 v d ps) :
    ∃ x0 x1 x2 x3 x4 x5 : Int, v = .agg #[.int .u8 x0, .int .u8 x1, .int .u8 x2, .int .u8 x3, .int .u8 x4, .int .u8 x5] ∧ (0 ≤ x0 ∧ x0 ≤ 255) ∧ (0 ≤ x1 ∧ x1 ≤ 255) ∧ (0 ≤ x2 ∧ x2 ≤ 255) ∧ (0 ≤ x3 ∧ x3 ≤ 255) ∧ (0 ≤ x4 ∧ x4 ≤ 255) ∧ (0 ≤ x5 ∧ x5 ≤ 255) := by
  obtain ⟨xs, rfl, hsz⟩ := okWide_struct Try.underlying68 hval
  rw [cells68] at hsz
  obtain ⟨fuel, hf⟩ := h
  have hf2 : DataW.trod enc Try.prog W 0 sp held fuel 68 xs.toList = some (d, ps) := hf
  obtain ⟨_, _, h0⟩ := trod_field Try.underlying68 hf2 0 5 0 1 rfl rfl rfl cells5
  obtain ⟨_, _, h1⟩ := trod_field Try.underlying68 hf2 1 5 1 1 rfl rfl rfl cells5
  obtain ⟨_, _, h2⟩ := trod_field Try.underlying68 hf2 2 5 2 1 rfl rfl rfl cells5
  obtain ⟨_, _, h3⟩ := trod_field Try.underlying68 hf2 3 5 3 1 rfl rfl rfl cells5
  obtain ⟨_, _, h4⟩ := trod_field Try.underlying68 hf2 4 5 4 1 rfl rfl rfl cells5
  obtain ⟨_, _, h5⟩ := trod_field Try.underlying68 hf2 5 5 5 1 rfl rfl rfl cells5
  obtain ⟨xl, rfl⟩ : ∃ l : List Value, xs = l.toArray := ⟨xs.toList, by simp⟩
  have hl2 : xl.length = 6 := by simpa using hsz
  match xl, hl2 with
  | [c0, c1, c2, c3, c4, c5], _ =>
    obtain ⟨n0, e0, r0⟩ := trod_u8 h0
    obtain ⟨n1, e1, r1⟩ := trod_u8 h1
    obtain ⟨n2, e2, r2⟩ := trod_u8 h2
    obtain ⟨n3, e3, r3⟩ := trod_u8 h3
    obtain ⟨n4, e4, r4⟩ := trod_u8 h4
    obtain ⟨n5, e5, r5⟩ := trod_u8 h5
    simp at e0 e1 e2 e3 e4 e5
    exact ⟨n0, n1, n2, n3, n4, n5, by rw [e0, e1, e2, e3, e4, e5], r0, r1, r2, r3, r4, r5⟩
theorem open_one {v : Value} {d : DataW H} {ps : List MemPlace} {r : Reach} {b0 : Nat} (hval : Value.okWide Try.prog W r b0 60 v) (h : DataW.Trod enc Try.prog W 0 sp held 60 v d ps) : ∃ f : Go.Rt.Farm, v = .agg f.cells.toArray ∧ f.name.size ≤ 9223372036854775807 := by
  obtain ⟨xs, rfl, _⟩ := okWide_struct Try.underlying60 hval
  obtain ⟨fuel, hf⟩ := h
  have hf2 : DataW.trod enc Try.prog W 0 sp held fuel 60 xs.toList = some (d, ps) := hf
  obtain ⟨f, e, hn⟩ := open_farm _ _ _ hf2
  exact ⟨f, by rw [← e], hn⟩
end Go.Proofs.Ytofoabifbkhkfaa
