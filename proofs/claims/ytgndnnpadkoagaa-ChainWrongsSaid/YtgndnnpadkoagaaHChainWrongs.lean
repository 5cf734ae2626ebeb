/- ChainWrongs returns true and leaves its arguments as they were, whatever the input. No conditions. -/
import Derived.Test.YtgndnnpadkoagaaRows
import Derived.Test.YtgndnnpadkoagaaHChainWrongsa
import Derived.Test.YtgndnnpadkoagaaHChainWrongsb
import Derived.Test.YtgndnnpadkoagaaHChainWrongsc
import Derived.Test.YtgndnnpadkoagaaHChainWrongsd
import Derived.Test.YtgndnnpadkoagaaHChainWrongse
import Derived.Test.YtgndnnpadkoagaaHChainWrongsf
import Derived.Test.YtgndnnpadkoagaaHChainWrongsg
import Derived.Test.YtgndnnpadkoagaaHChainWrongsh
set_option maxRecDepth 100000
set_option linter.unusedVariables false
set_option linter.unusedSimpArgs false
namespace Go.Proofs.Ytgndnnpadkoagaa
open Go.Rt Go.Rt.Ch Go.RowKit Go.ChangeShapes Go.WideShapes Go.ChangeAt
theorem chainWrongs_lifted (os : Os) (started : os.Started) (H : Type) (enc : TypeId × Value → H) :
    ReturnsInHanded {} Try.checked os 6 .any (Rows.chainWrongsSpec.pre6 enc Try.prog Try.f6 Rows.chainWrongsRow.domain false) (Rows.chainWrongsSpec.post enc Try.prog Try.f6 false true false false) := by
  refine returnsInHanded_of_change (C := Try.checked) Try.own started (by kernel_rfl) Try.func6
    (ChangeSpec.witness6 (enc := enc) (C := Try.checked) false ⟨#[], #[.agg #[.int .i64 0, .slice none 0 0, .slice none 0 0]], []⟩ 8 (by kernel_rfl) (by kernel_rfl) (by kernel_rfl) (by kernel_rfl)) ?_
  intro W base args ds gs before hval0 hW hcnd _
  have hval : ∀ (j : Nat) t v, Try.f6.params[j]? = some t → args[j]? = some v → Value.okWide Try.prog W .any base t v := hval0
  have hW' := hW
  obtain ⟨p, q, hA0, hV, rfl, hfz, hnd⟩ := hW
  have hA : DataW.TrodAll enc Try.prog W 0 (fun _ => true) true Try.f6.params.toList args.toList ds p := hA0
  rw [Try.params6] at hA hval
  obtain ⟨v0, d0, rfl, rfl, h0⟩ := trodAll_one hA
  obtain ⟨rfl, rfl⟩ := trodVars_none hV
  obtain ⟨bd0, pt0, rfl, hm0, hnl0⟩ := open_boardN (hval 0 25 v0 rfl rfl) h0
  clear hA0 hval0
  simp only [List.append_nil, List.append_assoc] at hW'
  have hlt0 : ∀ x ∈ p, x.block < W.heap.size := fun x hx => by simpa using hW'.lt x (by simp [hx])
  refine (con_calls (c6 bd0 pt0 hm0 (fun i hi => (hnl0 i hi).2) (St.nil W))).mono fun e W' he => ?_
  obtain ⟨v, rfl, rfl, hst⟩ := he
  have bel : Below W.heap.size W W' := hst.below
  refine ⟨_, rfl, ?_⟩
  refine ⟨_, _, _, [], p, [], hW', ?_, ?_, rfl, bel.frame _, fun h => by cases h⟩
  · exact trodAll_mk1 (shut_bool Try.underlying4 true)
  · exact trodAll_mk1 (Below.trod Try.laidOut (by kernel_rfl) (of_decide_eq_true (by kernel_rfl)) h0 bel hlt0)
theorem chainWrongs_holds : Rows.ChainWrongsSaid :=
  OpenClaim.holds_of_wide 6 Try.f6 rfl rfl rfl rfl rfl rfl rfl ⟨rfl, rfl, rfl, rfl, rfl⟩ rfl rfl rfl rfl rfl (by kernel_rfl) Try.func6 (by kernel_rfl)
    (of_decide_eq_true (by kernel_rfl)) (by unfold Func.isWrapper; first | (rw [if_pos (by decide +kernel)]; kernel_rfl) | (rw [if_neg (by decide +kernel)]; exact ⟨rfl, rfl⟩))
    (fun os started H enc _ => chainWrongs_lifted os started H enc)
#print axioms chainWrongs_holds
end Go.Proofs.Ytgndnnpadkoagaa
