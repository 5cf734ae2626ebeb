/- HandNexts returns true and leaves its arguments as they were, whatever the input. No conditions. -/
import Derived.Test.YtiemgahjdgajmaaRows
import Derived.Test.YtiemgahjdgajmaaHHandNextsa
import Derived.Test.YtiemgahjdgajmaaHHandNextsb
import Derived.Test.YtiemgahjdgajmaaHHandNextsc
import Derived.Test.YtiemgahjdgajmaaHHandNextsd
import Derived.Test.YtiemgahjdgajmaaHHandNextse
import Derived.Test.YtiemgahjdgajmaaHHandNextsf
import Derived.Test.YtiemgahjdgajmaaHHandNextsg
import Derived.Test.YtiemgahjdgajmaaHHandNextsh
set_option maxRecDepth 100000
set_option linter.unusedVariables false
set_option linter.unusedSimpArgs false
namespace Go.Proofs.Ytiemgahjdgajmaa
open Go.Rt Go.Rt.Ha Go.RowKit Go.ChangeShapes Go.WideShapes Go.ChangeAt
theorem handNexts_lifted (os : Os) (started : os.Started) (H : Type) (enc : TypeId × Value → H) :
    ReturnsInHanded {} Try.checked os 7 .any (Rows.handNextsSpec.pre6 enc Try.prog Try.f7 Rows.handNextsRow.domain false) (Rows.handNextsSpec.post enc Try.prog Try.f7 false true false false) := by
  refine returnsInHanded_of_change (C := Try.checked) Try.own started (by kernel_rfl) Try.func7
    (ChangeSpec.witness6 (enc := enc) (C := Try.checked) false ⟨#[], #[.agg #[.slice none 0 0, .slice none 0 0, .slice none 0 0]], []⟩ 8 (by kernel_rfl) (by kernel_rfl) (by kernel_rfl) (by kernel_rfl)) ?_
  intro W base args ds gs before hval0 hW hcnd _
  have hval : ∀ (j : Nat) t v, Try.f7.params[j]? = some t → args[j]? = some v → Value.okWide Try.prog W .any base t v := hval0
  have hW' := hW
  obtain ⟨p, q, hA0, hV, rfl, hfz, hnd⟩ := hW
  have hA : DataW.TrodAll enc Try.prog W 0 (fun _ => true) true Try.f7.params.toList args.toList ds p := hA0
  rw [Try.params7] at hA hval
  obtain ⟨v0, d0, rfl, rfl, h0⟩ := trodAll_one hA
  obtain ⟨rfl, rfl⟩ := trodVars_none hV
  obtain ⟨pt0, a0, rfl, hm0⟩ := open_lot (hval 0 26 v0 rfl rfl) h0
  clear hA0 hval0
  simp only [List.append_nil, List.append_assoc] at hW'
  have hlt0 : ∀ x ∈ p, x.block < W.heap.size := fun x hx => by simpa using hW'.lt x (by simp [hx])
  refine (con_calls (c7 pt0 a0 hm0 (St.nil W))).mono fun e W' he => ?_
  obtain ⟨v, rfl, rfl, hst⟩ := he
  have bel : Below W.heap.size W W' := hst.below
  refine ⟨_, rfl, ?_⟩
  refine ⟨_, _, _, [], p, [], hW', ?_, ?_, rfl, bel.frame _, fun h => by cases h⟩
  · exact trodAll_mk1 (shut_bool Try.underlying4 true)
  · exact trodAll_mk1 (Below.trod Try.laidOut (by kernel_rfl) (of_decide_eq_true (by kernel_rfl)) h0 bel hlt0)
theorem handNexts_holds : Rows.HandNextsSaid :=
  OpenClaim.holds_of_wide 7 Try.f7 rfl rfl rfl rfl rfl rfl rfl ⟨rfl, rfl, rfl, rfl, rfl⟩ rfl rfl rfl rfl rfl (by kernel_rfl) Try.func7 (by kernel_rfl)
    (of_decide_eq_true (by kernel_rfl)) (by unfold Func.isWrapper; first | (rw [if_pos (by decide +kernel)]; kernel_rfl) | (rw [if_neg (by decide +kernel)]; exact ⟨rfl, rfl⟩))
    (fun os started H enc _ => handNexts_lifted os started H enc)
#print axioms handNexts_holds
end Go.Proofs.Ytiemgahjdgajmaa
