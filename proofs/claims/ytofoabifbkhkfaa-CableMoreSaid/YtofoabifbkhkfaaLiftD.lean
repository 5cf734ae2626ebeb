/- More of the cable layer's arguments, opened: bytes, truths. No conditions. -/
import Derived.Test.YtofoabifbkhkfaaLiftC
set_option maxRecDepth 100000
set_option linter.unusedSimpArgs false
set_option linter.unusedVariables false
namespace Go.Proofs.Ytofoabifbkhkfaa
open Go.Rt Go.RowKit Go.ChangeShapes Go.WideShapes Go.ChangeAt
theorem cells5 : Try.prog.cellsOf 5 = 1 := by kernel_rfl
theorem cells46 : Try.prog.cellsOf 46 = 1 := by kernel_rfl
theorem cells48 : Try.prog.cellsOf 48 = 2 := by kernel_rfl
theorem cells65 : Try.prog.cellsOf 65 = 2 := by kernel_rfl
theorem cells68 : Try.prog.cellsOf 68 = 6 := by kernel_rfl
variable {H : Type} {enc : TypeId × Value → H} {W : World} {sp : Nat → Bool} {held : Bool}
theorem trod_u8 {fuel : Nat} {cs : List Value} {y : DataW H × List MemPlace} (h : DataW.trod enc Try.prog W 0 sp held fuel 5 cs = some y) : ∃ f : Int, cs = [Value.int .u8 f] ∧ 0 ≤ f ∧ f ≤ 255 := by
  obtain ⟨n, e, _, hw⟩ := DataW.trod_int Try.underlying5 h
  exact ⟨n, e, u8_wf hw⟩
theorem cell_u8 (fuel : Nat) (cs : List Value) (y : DataW H × List MemPlace) (h : DataW.trod enc Try.prog W 0 sp held fuel 5 cs = some y) : ∃ f : Int, cs = [Value.int .u8 f] ∧ (0 ≤ f ∧ f ≤ 255) := trod_u8 h
theorem bytes_cells {fuel : Nat} {cs : List Value} {y : DataW H × List MemPlace} (h : DataW.trod enc Try.prog W 0 sp held fuel 46 cs = some y) :
    ∃ (a : Option Addr) (c : Nat) (x : List Int), cs = [.slice a x.length c] ∧ x.length ≤ 9223372036854775807 ∧ Sl W [] a 1 (x.map fun n => [Value.int .u8 n]) ∧ ∀ z ∈ x, 0 ≤ z ∧ z ≤ 255 := by
  obtain ⟨a, c, l, e, hsl, _, hm, hr⟩ := open_rows (row := fun x : Int => [Value.int .u8 x]) (ok := fun f => 0 ≤ f ∧ f ≤ 255) Try.underlying46 cells5 (by omega) (fun _ => rfl) cell_u8 h
  exact ⟨a, c, l, e, hm, hsl, hr⟩
theorem open_bytes {v : Value} {d : DataW H} {ps : List MemPlace} {r : Reach} {b0 : Nat} (hval : Value.okWide Try.prog W r b0 46 v) (h : DataW.Trod enc Try.prog W 0 sp held 46 v d ps) :
    ∃ (a : Option Addr) (c : Nat) (x : List Int), v = .slice a x.length c ∧ x.length ≤ 9223372036854775807 ∧ Sl W [] a 1 (x.map fun n => [Value.int .u8 n]) ∧ ∀ z ∈ x, 0 ≤ z ∧ z ≤ 255 := by
  obtain ⟨a0, len, cap, rfl⟩ := okWide_slice Try.underlying46 hval
  obtain ⟨fuel, hf⟩ := h
  obtain ⟨a, c, x, e, h1, h2, h3⟩ := bytes_cells hf
  have e2 : ([Value.slice a0 len cap] : List Value) = [.slice a x.length c] := e
  exact ⟨a, c, x, (List.cons.inj e2).1, h1, h2, h3⟩
theorem open_u8 {v : Value} {d : DataW H} {ps : List MemPlace} {r : Reach} {b0 : Nat} (hval : Value.okWide Try.prog W r b0 5 v) (h : DataW.Trod enc Try.prog W 0 sp held 5 v d ps) : ∃ z : Int, v = .int .u8 z ∧ 0 ≤ z ∧ z ≤ 255 := by
  obtain ⟨z, rfl⟩ := okWide_int Try.underlying5 hval
  obtain ⟨fuel, hf⟩ := h
  obtain ⟨n, e, hr⟩ := trod_u8 hf
  have e2 : ([Value.int .u8 z] : List Value) = [.int .u8 n] := e
  cases e2
  exact ⟨z, rfl, hr⟩
theorem open_truth {v : Value} {d : DataW H} {ps : List MemPlace} {r : Reach} {b0 : Nat} (hval : Value.okWide Try.prog W r b0 48 v) (h : DataW.Trod enc Try.prog W 0 sp held 48 v d ps) :
    ∃ (n : Int) (a : Option Addr) (c : Nat) (x : List Int), v = .agg #[.int .u8 n, .slice a x.length c] ∧ (0 ≤ n ∧ n ≤ 255) ∧ x.length ≤ 9223372036854775807 ∧ Sl W [] a 1 (x.map fun n => [Value.int .u8 n]) ∧ ∀ z ∈ x, 0 ≤ z ∧ z ≤ 255 := by
  obtain ⟨xs, rfl, hsz⟩ := okWide_struct Try.underlying48 hval
  rw [cells48] at hsz
  obtain ⟨fuel, hf⟩ := h
  have hf2 : DataW.trod enc Try.prog W 0 sp held fuel 48 xs.toList = some (d, ps) := hf
  obtain ⟨_, _, h0⟩ := trod_field Try.underlying48 hf2 0 5 0 1 rfl rfl rfl cells5
  obtain ⟨_, _, h1⟩ := trod_field Try.underlying48 hf2 1 46 1 1 rfl rfl rfl cells46
  obtain ⟨xl, rfl⟩ : ∃ l : List Value, xs = l.toArray := ⟨xs.toList, by simp⟩
  have hl2 : xl.length = 2 := by simpa using hsz
  match xl, hl2 with
  | [c0, c1], _ =>
    obtain ⟨n, e0, hr⟩ := trod_u8 h0
    obtain ⟨a, c, x, e1, h2, h3, h4⟩ := bytes_cells h1
    simp at e0 e1
    exact ⟨n, a, c, x, by rw [e0, e1], hr, h2, h3, h4⟩
end Go.Proofs.Ytofoabifbkhkfaa
