/- The shop layer's arguments, opened; what a law that holds leaves behind. No conditions. -/
import Derived.Test.YtbnnmjfjibneaaaLift
import Derived.Test.YtbnnmjfjibneaaaD
import Derived.Test.YtbnnmjfjibneaaaRows
set_option maxRecDepth 100000
set_option linter.unusedSimpArgs false
set_option linter.unusedVariables false
namespace Go.Proofs.Ytbnnmjfjibneaaa
open Go.Rt Go.Rt.Sh Go.RowKit Go.ChangeShapes Go.WideShapes Go.ChangeAt
instance : Inhabited Room := ⟨⟨ByteArray.empty, 0, 0, 0, 0⟩⟩
instance : Inhabited Shop := ⟨⟨ByteArray.empty, 0, 0⟩⟩
instance : Inhabited Train := ⟨⟨0, 0, 0, 0⟩⟩
theorem Try.own : ownKnob Try.prog.godebug = none := by kernel_rfl
theorem Try.laidOut : laidOutB Try.prog = true := by kernel_rfl
theorem cells69 : Try.prog.cellsOf 69 = 5 := by kernel_rfl
theorem cells52 : Try.prog.cellsOf 52 = 3 := by kernel_rfl
theorem cells63 : Try.prog.cellsOf 63 = 4 := by kernel_rfl
theorem cells67 : Try.prog.cellsOf 67 = 2 := by kernel_rfl
theorem cells26 : Try.prog.cellsOf 26 = 3 := by kernel_rfl
theorem cells22 : Try.prog.cellsOf 22 = 1 := by kernel_rfl
theorem cells23 : Try.prog.cellsOf 23 = 1 := by kernel_rfl
theorem cells24 : Try.prog.cellsOf 24 = 1 := by kernel_rfl
theorem cells3 : Try.prog.cellsOf 3 = 1 := by kernel_rfl
theorem cells9 : Try.prog.cellsOf 9 = 1 := by kernel_rfl
variable {H : Type} {enc : TypeId × Value → H} {W : World} {sp : Nat → Bool} {held : Bool}
theorem open_span {fuel : Nat} {cs : List Value} {x : DataW H × List MemPlace} (h : DataW.trod enc Try.prog W 0 sp held fuel 67 cs = some x) : ∃ a b : Int, cs = [.int .i64 a, .int .i64 b] := by
  have hl := trod_len Try.underlying67 h
  rw [cells67] at hl
  obtain ⟨n, y, h0⟩ := trod_field Try.underlying67 h 0 3 0 1 rfl rfl rfl cells3
  obtain ⟨n1, y1, h1⟩ := trod_field Try.underlying67 h 1 3 1 1 rfl rfl rfl cells3
  match cs, hl with
  | [c0, c1], _ =>
    obtain ⟨a, e0⟩ := trod_i64 Try.underlying3 h0
    obtain ⟨b, e1⟩ := trod_i64 Try.underlying3 h1
    simp at e0 e1
    exact ⟨a, b, by rw [e0, e1]⟩
theorem open_room (fuel : Nat) (cs : List Value) (y : DataW H × List MemPlace) (h : DataW.trod enc Try.prog W 0 sp held fuel 69 cs = some y) : ∃ f : Room, cs = f.cells ∧ f.name.size ≤ 9223372036854775807 := by
  have hl := trod_len Try.underlying69 h
  rw [cells69] at hl
  obtain ⟨_, _, h0⟩ := trod_field Try.underlying69 h 0 9 0 1 rfl rfl rfl cells9
  obtain ⟨_, _, h1⟩ := trod_field Try.underlying69 h 1 67 1 2 rfl rfl rfl cells67
  obtain ⟨_, _, h2⟩ := trod_field Try.underlying69 h 2 3 3 1 rfl rfl rfl cells3
  obtain ⟨_, _, h3⟩ := trod_field Try.underlying69 h 3 3 4 1 rfl rfl rfl cells3
  match cs, hl with
  | [c0, c1, c2, c3, c4], _ =>
    obtain ⟨s, e0, _, hs⟩ := DataW.trod_string Try.underlying9 h0
    obtain ⟨x1, x2, e1⟩ := open_span h1
    obtain ⟨x3, e3⟩ := trod_i64 Try.underlying3 h2
    obtain ⟨x4, e4⟩ := trod_i64 Try.underlying3 h3
    simp at e0 e1 e3 e4
    exact ⟨⟨s, x1, x2, x3, x4⟩, by rw [e0, e1.1, e1.2, e3, e4]; rfl, by simpa [maxLen] using hs⟩
theorem open_shop (fuel : Nat) (cs : List Value) (y : DataW H × List MemPlace) (h : DataW.trod enc Try.prog W 0 sp held fuel 52 cs = some y) : ∃ f : Shop, cs = f.cells ∧ f.name.size ≤ 9223372036854775807 := by
  have hl := trod_len Try.underlying52 h
  rw [cells52] at hl
  obtain ⟨_, _, h0⟩ := trod_field Try.underlying52 h 0 9 0 1 rfl rfl rfl cells9
  obtain ⟨_, _, h1⟩ := trod_field Try.underlying52 h 1 3 1 1 rfl rfl rfl cells3
  obtain ⟨_, _, h2⟩ := trod_field Try.underlying52 h 2 3 2 1 rfl rfl rfl cells3
  match cs, hl with
  | [c0, c1, c2], _ =>
    obtain ⟨s, e0, _, hs⟩ := DataW.trod_string Try.underlying9 h0
    obtain ⟨x1, e1⟩ := trod_i64 Try.underlying3 h1
    obtain ⟨x2, e2⟩ := trod_i64 Try.underlying3 h2
    simp at e0 e1 e2
    exact ⟨⟨s, x1, x2⟩, by rw [e0, e1, e2]; rfl, by simpa [maxLen] using hs⟩
theorem open_train (fuel : Nat) (cs : List Value) (y : DataW H × List MemPlace) (h : DataW.trod enc Try.prog W 0 sp held fuel 63 cs = some y) : ∃ f : Train, cs = f.cells ∧ True := by
  have hl := trod_len Try.underlying63 h
  rw [cells63] at hl
  obtain ⟨_, _, h0⟩ := trod_field Try.underlying63 h 0 3 0 1 rfl rfl rfl cells3
  obtain ⟨_, _, h1⟩ := trod_field Try.underlying63 h 1 3 1 1 rfl rfl rfl cells3
  obtain ⟨_, _, h2⟩ := trod_field Try.underlying63 h 2 3 2 1 rfl rfl rfl cells3
  obtain ⟨_, _, h3⟩ := trod_field Try.underlying63 h 3 3 3 1 rfl rfl rfl cells3
  match cs, hl with
  | [c0, c1, c2, c3], _ =>
    obtain ⟨x0, e0⟩ := trod_i64 Try.underlying3 h0
    obtain ⟨x1, e1⟩ := trod_i64 Try.underlying3 h1
    obtain ⟨x2, e2⟩ := trod_i64 Try.underlying3 h2
    obtain ⟨x3, e3⟩ := trod_i64 Try.underlying3 h3
    simp at e0 e1 e2 e3
    exact ⟨⟨x0, x1, x2, x3⟩, by rw [e0, e1, e2, e3]; rfl, trivial⟩
theorem open_market {v : Value} {d : DataW H} {ps : List MemPlace} {r : Reach} {b0 : Nat} (hval : Value.okWide Try.prog W r b0 26 v) (h : DataW.Trod enc Try.prog W 0 sp held 26 v d ps) :
    ∃ (m : Market) (p : At3), v = .agg (m.cells p).toArray ∧ MIn W [] m p := by
  obtain ⟨xs, rfl, hsz⟩ : ∃ xs, v = .agg xs ∧ xs.size = 3 := by
    unfold Value.okWide at hval
    rw [Try.underlying26] at hval
    obtain ⟨cs, h1, h2, _⟩ := hval
    exact ⟨cs, h1, by rw [h2, cells26]⟩
  obtain ⟨fuel, hf⟩ := h
  have hf2 : DataW.trod enc Try.prog W 0 sp held fuel 26 xs.toList = some (d, ps) := hf
  obtain ⟨_, _, h0⟩ := trod_field Try.underlying26 hf2 0 22 0 1 rfl rfl rfl cells22
  obtain ⟨_, _, h1⟩ := trod_field Try.underlying26 hf2 1 23 1 1 rfl rfl rfl cells23
  obtain ⟨_, _, h2⟩ := trod_field Try.underlying26 hf2 2 24 2 1 rfl rfl rfl cells24
  obtain ⟨xl, rfl⟩ : ∃ l : List Value, xs = l.toArray := ⟨xs.toList, by simp⟩
  have hl3 : xl.length = 3 := by simpa using hsz
  match xl, hl3 with
  | [c0, c1, c2], _ =>
    obtain ⟨a, ca, la, e0, hsa, hca, hma, hna⟩ := open_rows (row := Room.cells) (ok := fun f => f.name.size ≤ 9223372036854775807) Try.underlying22 cells69 (by omega) (fun _ => rfl) open_room h0
    obtain ⟨b, cb, lb, e1, hsb, hcb, hmb, hnb⟩ := open_rows (row := Shop.cells) (ok := fun f => f.name.size ≤ 9223372036854775807) Try.underlying23 cells52 (by omega) (fun _ => rfl) open_shop h1
    obtain ⟨c, cc, lc, e2, hsc, hcc, hmc, hnc⟩ := open_rows (row := Train.cells) (ok := fun f => True) Try.underlying24 cells63 (by omega) (fun _ => rfl) open_train h2
    simp at e0 e1 e2
    exact ⟨⟨la, lb, lc⟩, ⟨a, ca, b, cb, c, cc⟩, by rw [e0, e1, e2]; rfl, ⟨hsa, hsb, hsc, hma, hmb, hmc, hca, hcb, hcc, hna, hnb⟩⟩
theorem cell_int (fuel : Nat) (cs : List Value) (y : DataW H × List MemPlace) (h : DataW.trod enc Try.prog W 0 sp held fuel 3 cs = some y) : ∃ f : Int, cs = [Value.int .i64 f] ∧ True := by
  obtain ⟨n, h⟩ := trod_i64 Try.underlying3 h
  exact ⟨n, h, trivial⟩
theorem open_list {v : Value} {d : DataW H} {ps : List MemPlace} {r : Reach} {b0 : Nat} (hval : Value.okWide Try.prog W r b0 30 v) (h : DataW.Trod enc Try.prog W 0 sp held 30 v d ps) :
    ∃ (a : Option Addr) (c : Nat) (l : List Int), v = .slice a l.length c ∧ Sl W [] a 1 (l.map fun x => [Value.int .i64 x]) ∧ l.length ≤ 9223372036854775807 := by
  obtain ⟨a0, len, cap, rfl⟩ := okWide_slice Try.underlying30 hval
  obtain ⟨fuel, hf⟩ := h
  obtain ⟨a, c, l, e, hsl, _, hm, _⟩ := open_rows (row := fun x : Int => [Value.int .i64 x]) (ok := fun _ => True) Try.underlying30 cells3 (by omega) (fun _ => rfl) cell_int hf
  have e2 : ([Value.slice a0 len cap] : List Value) = [.slice a l.length c] := e
  exact ⟨a, c, l, (List.cons.inj e2).1, hsl, hm⟩
theorem i64_wf {n : Int} (h : (Lit.int .i64 n).wf = true) : -9223372036854775808 ≤ n ∧ n ≤ 9223372036854775807 := by
  simp only [Lit.wf, Bool.and_eq_true, decide_eq_true_eq] at h
  exact h
theorem u8_wf {n : Int} (h : (Lit.int .u8 n).wf = true) : 0 ≤ n ∧ n ≤ 255 := by
  simp only [Lit.wf, Bool.and_eq_true, decide_eq_true_eq] at h
  exact h
theorem open_i64 {v : Value} {d : DataW H} {ps : List MemPlace} {r : Reach} {b0 : Nat} (hval : Value.okWide Try.prog W r b0 3 v) (h : DataW.Trod enc Try.prog W 0 sp held 3 v d ps) : ∃ z : Int, v = .int .i64 z ∧ -9223372036854775808 ≤ z ∧ z ≤ 9223372036854775807 := by
  obtain ⟨z, rfl⟩ := okWide_int Try.underlying3 hval
  obtain ⟨fuel, hf⟩ := h
  obtain ⟨n, e, _, hw⟩ := DataW.trod_int Try.underlying3 hf
  have e2 : ([Value.int .i64 z] : List Value) = [.int .i64 n] := e
  cases e2
  exact ⟨z, rfl, i64_wf hw⟩
end Go.Proofs.Ytbnnmjfjibneaaa
