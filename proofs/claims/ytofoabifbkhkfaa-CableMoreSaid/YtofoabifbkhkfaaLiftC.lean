/- The cable layer's arguments, opened; what a law that holds leaves behind. No conditions. -/
import Derived.Test.YtofoabifbkhkfaaLift
import Derived.Test.YtofoabifbkhkfaaCSpec10
import Derived.Test.YtofoabifbkhkfaaRows
set_option maxRecDepth 100000
set_option linter.unusedSimpArgs false
set_option linter.unusedVariables false
namespace Go.Proofs.Ytofoabifbkhkfaa
open Go.Rt Go.RowKit Go.ChangeShapes Go.WideShapes Go.ChangeAt
instance : Inhabited Go.Rt.Farm := ⟨⟨ByteArray.empty, 0, 0, 0, 0, 0⟩⟩
theorem Try.own : ownKnob Try.prog.godebug = none := by kernel_rfl
theorem Try.laidOut : laidOutB Try.prog = true := by kernel_rfl
theorem cells60 : Try.prog.cellsOf 60 = 6 := by kernel_rfl
theorem cells26 : Try.prog.cellsOf 26 = 4 := by kernel_rfl
theorem cells23 : Try.prog.cellsOf 23 = 2 := by kernel_rfl
theorem cells24 : Try.prog.cellsOf 24 = 1 := by kernel_rfl
theorem cells3 : Try.prog.cellsOf 3 = 1 := by kernel_rfl
theorem cells9 : Try.prog.cellsOf 9 = 1 := by kernel_rfl
variable {H : Type} {enc : TypeId × Value → H} {W : World} {sp : Nat → Bool} {held : Bool}
theorem open_span {fuel : Nat} {cs : List Value} {x : DataW H × List MemPlace} (h : DataW.trod enc Try.prog W 0 sp held fuel 23 cs = some x) : ∃ a b : Int, cs = [.int .i64 a, .int .i64 b] := by
  have hl := trod_len Try.underlying23 h
  rw [cells23] at hl
  obtain ⟨n, y, h0⟩ := trod_field Try.underlying23 h 0 3 0 1 rfl rfl rfl cells3
  obtain ⟨n1, y1, h1⟩ := trod_field Try.underlying23 h 1 3 1 1 rfl rfl rfl cells3
  match cs, hl with
  | [c0, c1], _ =>
    obtain ⟨a, e0⟩ := trod_i64 Try.underlying3 h0
    obtain ⟨b, e1⟩ := trod_i64 Try.underlying3 h1
    simp at e0 e1
    exact ⟨a, b, by rw [e0, e1]⟩
theorem open_farm (fuel : Nat) (cs : List Value) (y : DataW H × List MemPlace) (h : DataW.trod enc Try.prog W 0 sp held fuel 60 cs = some y) : ∃ f : Go.Rt.Farm, cs = f.cells ∧ f.name.size ≤ 9223372036854775807 := by
  have hl := trod_len Try.underlying60 h
  rw [cells60] at hl
  obtain ⟨_, _, h0⟩ := trod_field Try.underlying60 h 0 9 0 1 rfl rfl rfl cells9
  obtain ⟨_, _, h1⟩ := trod_field Try.underlying60 h 1 3 1 1 rfl rfl rfl cells3
  obtain ⟨_, _, h2⟩ := trod_field Try.underlying60 h 2 3 2 1 rfl rfl rfl cells3
  obtain ⟨_, _, h3⟩ := trod_field Try.underlying60 h 3 3 3 1 rfl rfl rfl cells3
  obtain ⟨_, _, h4⟩ := trod_field Try.underlying60 h 4 23 4 2 rfl rfl rfl cells23
  match cs, hl with
  | [c0, c1, c2, c3, c4, c5], _ =>
    obtain ⟨s, e0, _, hs⟩ := DataW.trod_string Try.underlying9 h0
    obtain ⟨x1, e1⟩ := trod_i64 Try.underlying3 h1
    obtain ⟨x2, e2⟩ := trod_i64 Try.underlying3 h2
    obtain ⟨x3, e3⟩ := trod_i64 Try.underlying3 h3
    obtain ⟨x4, x5, e4⟩ := open_span h4
    simp at e0 e1 e2 e3 e4
    exact ⟨⟨s, x1, x2, x3, x4, x5⟩, by rw [e0, e1, e2, e3, e4.1, e4.2]; rfl, by simpa [maxLen] using hs⟩
theorem open_port {v : Value} {d : DataW H} {ps : List MemPlace} {r : Reach} {b0 : Nat} (hval : Value.okWide Try.prog W r b0 26 v) (h : DataW.Trod enc Try.prog W 0 sp held 26 v d ps) :
    ∃ (p : Go.Rt.Port) (a : Option Addr) (c : Nat), v = .agg (p.cells a c).toArray ∧ Sl W [] a 6 (rows p.farms) ∧ p.farms.length ≤ c ∧ p.farms.length ≤ 9223372036854775807 ∧ ∀ f ∈ p.farms, f.name.size ≤ 9223372036854775807 := by
  obtain ⟨xs, rfl, hsz⟩ : ∃ xs, v = .agg xs ∧ xs.size = 4 := by
    unfold Value.okWide at hval
    rw [Try.underlying26] at hval
    obtain ⟨cs, h1, h2, _⟩ := hval
    exact ⟨cs, h1, by rw [h2, cells26]⟩
  obtain ⟨fuel, hf⟩ := h
  have hf2 : DataW.trod enc Try.prog W 0 sp held fuel 26 xs.toList = some (d, ps) := hf
  obtain ⟨_, _, h0⟩ := trod_field Try.underlying26 hf2 0 3 0 1 rfl rfl rfl cells3
  obtain ⟨_, _, h1⟩ := trod_field Try.underlying26 hf2 1 23 1 2 rfl rfl rfl cells23
  obtain ⟨_, _, h2⟩ := trod_field Try.underlying26 hf2 2 24 3 1 rfl rfl rfl cells24
  obtain ⟨xl, rfl⟩ : ∃ l : List Value, xs = l.toArray := ⟨xs.toList, by simp⟩
  have hl4 : xl.length = 4 := by simpa using hsz
  match xl, hl4 with
  | [c0, c1, c2, c3], _ =>
    obtain ⟨x0, e0⟩ := trod_i64 Try.underlying3 h0
    obtain ⟨x1, x2, e1⟩ := open_span h1
    obtain ⟨a, c, l, e2, hsl, hc, hm, hn⟩ := open_rows (row := Go.Rt.Farm.cells) (ok := fun f => f.name.size ≤ 9223372036854775807) Try.underlying24 cells60 (by omega) (fun _ => rfl) open_farm h2
    simp at e0 e1 e2
    exact ⟨⟨x0, x1, x2, l⟩, a, c, by rw [e0, e1.1, e1.2, e2]; rfl, hsl, hc, hm, hn⟩
theorem cell_int (fuel : Nat) (cs : List Value) (y : DataW H × List MemPlace) (h : DataW.trod enc Try.prog W 0 sp held fuel 3 cs = some y) : ∃ f : Int, cs = [Value.int .i64 f] ∧ True := by
  obtain ⟨n, h⟩ := trod_i64 Try.underlying3 h
  exact ⟨n, h, trivial⟩
theorem open_list {v : Value} {d : DataW H} {ps : List MemPlace} {r : Reach} {b0 : Nat} (hval : Value.okWide Try.prog W r b0 27 v) (h : DataW.Trod enc Try.prog W 0 sp held 27 v d ps) :
    ∃ (a : Option Addr) (c : Nat) (l : List Int), v = .slice a l.length c ∧ Sl W [] a 1 (l.map fun x => [Value.int .i64 x]) ∧ l.length ≤ 9223372036854775807 := by
  obtain ⟨a0, len, cap, rfl⟩ := okWide_slice Try.underlying27 hval
  obtain ⟨fuel, hf⟩ := h
  obtain ⟨a, c, l, e, hsl, _, hm, _⟩ := open_rows (row := fun x : Int => [Value.int .i64 x]) (ok := fun _ => True) Try.underlying27 cells3 (by omega) (fun _ => rfl) cell_int hf
  have e2 : ([Value.slice a0 len cap] : List Value) = [.slice a l.length c] := e
  exact ⟨a, c, l, (List.cons.inj e2).1, hsl, hm⟩
theorem i64_wf {n : Int} (h : (Lit.int .i64 n).wf = true) : -9223372036854775808 ≤ n ∧ n ≤ 9223372036854775807 := by
  simp only [Lit.wf, Bool.and_eq_true, decide_eq_true_eq] at h
  exact h
theorem u8_wf {n : Int} (h : (Lit.int .u8 n).wf = true) : 0 ≤ n ∧ n ≤ 255 := by
  simp only [Lit.wf, Bool.and_eq_true, decide_eq_true_eq] at h
  exact h
theorem open_i64 {v : Value} {d : DataW H} {ps : List MemPlace} {r : Reach} {b0 : Nat} (hval : Value.okWide Try.prog W r b0 3 v) (h : DataW.Trod enc Try.prog W 0 sp held 3 v d ps) : ∃ z : Int, v = .int .i64 z ∧ -9223372036854775808 ≤ z ∧ z ≤ 9223372036854775807 := by
  obtain ⟨z, rfl⟩ := okWide_int Try.underlying3 hval
  obtain ⟨fuel, hf⟩ := h
  obtain ⟨n, e, _, hw⟩ := DataW.trod_int Try.underlying3 hf
  have e2 : ([Value.int .i64 z] : List Value) = [.int .i64 n] := e
  cases e2
  exact ⟨z, rfl, i64_wf hw⟩
end Go.Proofs.Ytofoabifbkhkfaa
