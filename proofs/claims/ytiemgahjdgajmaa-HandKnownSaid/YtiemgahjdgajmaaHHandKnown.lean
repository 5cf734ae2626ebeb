/- HandKnown returns true and leaves its arguments as they were, whatever the input. No conditions. -/
import Derived.Test.YtiemgahjdgajmaaRows
import Derived.Test.YtiemgahjdgajmaaHHandKnowna
import Derived.Test.YtiemgahjdgajmaaHHandKnownb
import Derived.Test.YtiemgahjdgajmaaHHandKnownc
import Derived.Test.YtiemgahjdgajmaaHHandKnownd
import Derived.Test.YtiemgahjdgajmaaHHandKnowne
import Derived.Test.YtiemgahjdgajmaaHHandKnownf
set_option maxRecDepth 100000
set_option linter.unusedVariables false
set_option linter.unusedSimpArgs false
namespace Go.Proofs.Ytiemgahjdgajmaa
open Go.Rt Go.Rt.Ha Go.RowKit Go.ChangeShapes Go.WideShapes Go.ChangeAt
theorem handKnown_lifted (os : Os) (started : os.Started) (H : Type) (enc : TypeId × Value → H) :
    ReturnsInHanded {} Try.checked os 8 .any (Rows.handKnownSpec.pre6 enc Try.prog Try.f8 Rows.handKnownRow.domain false) (Rows.handKnownSpec.post enc Try.prog Try.f8 false true false false) := by
  refine returnsInHanded_of_change (C := Try.checked) Try.own started (by kernel_rfl) Try.func8
    (ChangeSpec.witness6 (enc := enc) (C := Try.checked) false ⟨#[], #[], []⟩ 8 (by kernel_rfl) (by kernel_rfl) (by kernel_rfl) (by kernel_rfl)) ?_
  intro W base args ds gs before hval0 hW hcnd _
  have hval : ∀ (j : Nat) t v, Try.f8.params[j]? = some t → args[j]? = some v → Value.okWide Try.prog W .any base t v := hval0
  have hW' := hW
  obtain ⟨p, q, hA0, hV, rfl, hfz, hnd⟩ := hW
  have hA : DataW.TrodAll enc Try.prog W 0 (fun _ => true) true Try.f8.params.toList args.toList ds p := hA0
  obtain ⟨rfl, rfl, rfl⟩ := trodAll_none (show DataW.TrodAll enc Try.prog W 0 (fun _ => true) true [] args.toList ds p from hA)
  obtain ⟨rfl, rfl⟩ := trodVars_none hV
  clear hA0 hval0
  simp only [List.append_nil, List.append_assoc] at hW'
  refine (con_calls (c8  (St.nil W))).mono fun e W' he => ?_
  obtain ⟨v, rfl, rfl, hst⟩ := he
  have bel : Below W.heap.size W W' := hst.below
  refine ⟨_, rfl, ?_⟩
  refine ⟨_, _, _, [], [], [], hW', ?_, ?_, rfl, bel.frame _, fun h => by cases h⟩
  · exact trodAll_mk1 (shut_bool Try.underlying4 true)
  · exact trodAll_mk0 
theorem handKnown_holds : Rows.HandKnownSaid :=
  OpenClaim.holds_of_wide 8 Try.f8 rfl rfl rfl rfl rfl rfl rfl ⟨rfl, rfl, rfl, rfl, rfl⟩ rfl rfl rfl rfl rfl (by kernel_rfl) Try.func8 (by kernel_rfl)
    (of_decide_eq_true (by kernel_rfl)) (by unfold Func.isWrapper; first | (rw [if_pos (by decide +kernel)]; kernel_rfl) | (rw [if_neg (by decide +kernel)]; exact ⟨rfl, rfl⟩))
    (fun os started H enc _ => handKnown_lifted os started H enc)
#print axioms handKnown_holds
end Go.Proofs.Ytiemgahjdgajmaa
