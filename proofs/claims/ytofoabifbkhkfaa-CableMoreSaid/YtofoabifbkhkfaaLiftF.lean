/- A port's farms are no more bytes than the form lets come in. No conditions. -/
import Derived.Test.YtofoabifbkhkfaaLiftE
import Derived.SizedLaws
set_option maxRecDepth 100000
set_option linter.unusedSimpArgs false
set_option linter.unusedVariables false
namespace Go.Proofs.Ytofoabifbkhkfaa
open Go.Rt Go.RowKit Go.ChangeShapes Go.WideShapes Go.ChangeAt
variable {H : Type} {enc : TypeId × Value → H} {W : World} {sp : Nat → Bool} {held : Bool}
theorem bytes60 : Try.prog.bytesOf 60 = 56 := by kernel_rfl
theorem port_facts {p : Go.Rt.Port} {a : Option Addr} {c : Nat} {d : DataW H} {ps : List MemPlace} {ts : List TypeId} {ds : List (DataW H)} (h : DataW.Trod enc Try.prog W 0 sp held 26 (.agg (p.cells a c).toArray) d ps)
    (hsz : (DataW.weightsEach Try.prog (26 :: ts) (d :: ds)).all (· ≤ reachBytes) = true) : (a = none → c = 0) ∧ p.farms.length * 56 ≤ 140737488351232 := by
  obtain ⟨fuel, hf⟩ := h
  have hf2 : DataW.trod enc Try.prog W 0 sp held fuel 26 (p.cells a c) = some (d, ps) := hf
  obtain ⟨xs, n, _, hx, _, hl, hfl⟩ := DataW.trod_struct Try.underlying26 hf2
  have hl3 : xs.length = 3 := hl
  have hd : d = .agg (xs.map (·.1)) := congrArg Prod.fst hx
  have h2 := hfl 2 _ rfl
  rw [List.getElem?_eq_getElem (by omega)] at h2
  have h3 : DataW.trod enc Try.prog W 0 sp held n 24 [.slice a p.farms.length c] = some xs[2] := h2
  rcases DataW.trod_slice Try.underlying24 h3 with ⟨hcs, _⟩ | ⟨a', len, cap, elems, rest, m, _, hcs, hxs, _, _, _, hel, _⟩
  · have e : Value.slice a p.farms.length c = .slice none 0 0 := (List.cons.inj hcs).1
    injection e with e1 e2 e3
    exact ⟨fun _ => e3, by omega⟩
  · have e : Value.slice a p.farms.length c = .slice (some a') len cap := (List.cons.inj hcs).1
    injection e with e1 e2 e3
    refine ⟨fun h => (by rw [h] at e1; cases e1), ?_⟩
    have hw : (elems.length + rest.length) * Try.prog.bytesOf 60 ∈ DataW.weightsEach Try.prog (26 :: ts) (d :: ds) := by
      refine DataW.weights_mem_each (j := 0) (t := 26) (d := d) rfl rfl _ ?_
      rw [hd]
      simp only [DataW.weights, Try.underlying26]
      refine DataW.weights_mem_each (j := 2) (t := 24) (d := xs[2].1) rfl (by simp [hl3]) _ ?_
      rw [hxs]
      simp [DataW.weights, Try.underlying24]
    have := List.all_eq_true.1 hsz _ hw
    rw [bytes60] at this
    simp only [decide_eq_true_eq] at this
    have hr : reachBytes = 140737488351232 := by decide
    have hle : elems.length * 56 ≤ (elems.length + rest.length) * 56 := Nat.mul_le_mul_right _ (by omega)
    rw [e2, ← hel]
    omega
end Go.Proofs.Ytofoabifbkhkfaa
