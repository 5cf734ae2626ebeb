/- Plain words of the cable layer: the examples of the document, evaluated. No conditions. -/
import Derived.Test.YtofoabifbkhkfaaCSpec10
set_option maxRecDepth 100000
namespace Go.Rt
def fAlto : Farm := ⟨⟨#[97, 108, 116, 111]⟩, 1, 1, 5, 20, 25⟩
def fBajo : Farm := ⟨⟨#[98, 97, 106, 111]⟩, 2, 1, 4, 30, 30⟩
def fCima : Farm := ⟨⟨#[99, 105, 109, 97]⟩, 1, 2, 3, 40, 45⟩
def exPort (come : Int) (n : Nat) : Port := ⟨50, come, 8, [fAlto, fBajo, fCima].take n⟩
theorem ex_nm (come : Int) (n : Nat) : ∀ f ∈ (exPort come n).farms, f.name.size ≤ 9223372036854775807 := by
  intro f hf
  have h := List.mem_of_mem_take hf
  simp only [List.mem_cons, List.not_mem_nil, or_false] at h
  rcases h with rfl | rfl | rfl <;> decide
def fullR (p : Port) (l : List Int) : Int := if enterErr p l = 0 then does p l else 0
def vainR (p : Port) (l : List Int) : Int := if enterErr p l = 0 then vain p l else 0
theorem ex_q5 : enterErr (exPort 5 3) [2, 3, -1] = 0 := by decide +kernel
theorem ex_q5v : quayR (exPort 5 3) [2, 3, -1] = [[20, 25], [50, 55], [50, 55], [50, 55]] := by decide +kernel
theorem ex_q6 : enterErr (exPort 6 3) [2, 3, -1] = 0 := by decide +kernel
theorem ex_q6v : quayR (exPort 6 3) [2, 3, -1] = [[50, 55], [50, 55], [50, 55]] := by decide +kernel
theorem ex_q5b : enterErr (exPort 5 3) [-1, -1, 3] = 0 := by decide +kernel
theorem ex_f6 : fullR (exPort 6 3) [2, 3, -1] = 1 := by decide +kernel
theorem ex_f5 : fullR (exPort 5 3) [2, 3, -1] = 0 := by decide +kernel
theorem ex_f5b : fullR (exPort 5 3) [-1, -1, 3] = 2 := by decide +kernel
theorem ex_v5 : vainR (exPort 5 3) [2, 3, -1] = 30 := by decide +kernel
theorem ex_v6 : vainR (exPort 6 3) [2, 3, -1] = 0 := by decide +kernel
theorem ex_p6 : planL (exPort 6 3) = [2, 3, -1] := by decide +kernel
theorem ex_p6v : planV (exPort 6 3) = 0 := by decide +kernel
theorem ex_p6e : planE (exPort 6 3) = 0 := by decide +kernel
theorem ex_p5 : planL (exPort 5 3) = [2, 0, 3] := by decide +kernel
theorem ex_p5v : planV (exPort 5 3) = 45 := by decide +kernel
theorem ex_p5e : planE (exPort 5 3) = 0 := by decide +kernel
theorem ex_t5 : planL (exPort 5 2) = [] := by decide +kernel
theorem ex_t5v : planV (exPort 5 2) = 0 := by decide +kernel
theorem ex_t5e : planE (exPort 5 2) = 9 := by decide +kernel
theorem ex_h60 : heldD (exPort 6 2) 0 = 4 := by decide +kernel
theorem ex_h60e : heldE (exPort 6 2) 0 = 0 := by decide +kernel
theorem ex_h61 : heldD (exPort 6 2) 1 = 3 := by decide +kernel
theorem ex_h61e : heldE (exPort 6 2) 1 = 0 := by decide +kernel
theorem ex_h63 : heldD (exPort 6 3) 3 = 0 := by decide +kernel
theorem ex_h63e : heldE (exPort 6 3) 3 = 4 := by decide +kernel
theorem ex_h630 : heldD (exPort 6 3) 0 = -1 := by decide +kernel
theorem ex_h630e : heldE (exPort 6 3) 0 = 0 := by decide +kernel
theorem ex_h520 : heldD (exPort 5 2) 0 = 0 := by decide +kernel
theorem ex_h520e : heldE (exPort 5 2) 0 = 9 := by decide +kernel
theorem ex_e5 : earlyD (exPort 5 2) = (1, 1, 0) := by decide +kernel
theorem ex_e6 : earlyD (exPort 6 3) = (0, 0, 2) := by decide +kernel
theorem ex_t3 : toldD (exPort 5 3) 3 = 30 := by decide +kernel
theorem ex_t3e : toldE (exPort 5 3) 3 = 0 := by decide +kernel
theorem ex_t0 : toldD (exPort 5 3) 0 = 0 := by decide +kernel
theorem ex_t0e : toldE (exPort 5 3) 0 = 0 := by decide +kernel
theorem ex_t10 : toldD (exPort 5 3) 10 = 45 := by decide +kernel
theorem ex_t10e : toldE (exPort 5 3) 10 = 0 := by decide +kernel
end Go.Rt
