/- ChainBetter returns true and leaves its arguments as they were, whatever the input. No conditions. -/
import Derived.Test.YtgndnnpadkoagaaRows
import Derived.Test.YtgndnnpadkoagaaHChainBettera
import Derived.Test.YtgndnnpadkoagaaHChainBetterb
import Derived.Test.YtgndnnpadkoagaaHChainBetterc
import Derived.Test.YtgndnnpadkoagaaHChainBetterd
import Derived.Test.YtgndnnpadkoagaaHChainBettere
import Derived.Test.YtgndnnpadkoagaaHChainBetterf
import Derived.Test.YtgndnnpadkoagaaHChainBetterg
import Derived.Test.YtgndnnpadkoagaaHChainBetterh
set_option maxRecDepth 100000
set_option linter.unusedVariables false
set_option linter.unusedSimpArgs false
namespace Go.Proofs.Ytgndnnpadkoagaa
open Go.Rt Go.Rt.Ch Go.RowKit Go.ChangeShapes Go.WideShapes Go.ChangeAt
theorem chainBetter_lifted (os : Os) (started : os.Started) (H : Type) (enc : TypeId × Value → H) :
    ReturnsInHanded {} Try.checked os 12 .any (Rows.chainBetterSpec.pre6 enc Try.prog Try.f12 Rows.chainBetterRow.domain false) (Rows.chainBetterSpec.post enc Try.prog Try.f12 false true false false) := by
  refine returnsInHanded_of_change (C := Try.checked) Try.own started (by kernel_rfl) Try.func12
    (ChangeSpec.witness6 (enc := enc) (C := Try.checked) false ⟨#[], #[.agg #[.int .i64 0, .slice none 0 0, .slice none 0 0], .agg #[.int .u8 0, .int .u8 0, .int .u8 0, .int .u8 0, .int .u8 0]], []⟩ 8 (by kernel_rfl) (by kernel_rfl) (by kernel_rfl) (by kernel_rfl)) ?_
  intro W base args ds gs before hval0 hW hcnd _
  have hval : ∀ (j : Nat) t v, Try.f12.params[j]? = some t → args[j]? = some v → Value.okWide Try.prog W .any base t v := hval0
  have hW' := hW
  obtain ⟨p, q, hA0, hV, rfl, hfz, hnd⟩ := hW
  have hA : DataW.TrodAll enc Try.prog W 0 (fun _ => true) true Try.f12.params.toList args.toList ds p := hA0
  rw [Try.params12] at hA hval
  obtain ⟨v0, v1, d0, d1, p0, p1, rfl, rfl, rfl, h0, h1⟩ := trodAll_two hA
  obtain ⟨rfl, rfl⟩ := trodVars_none hV
  obtain ⟨bd0, pt0, rfl, hm0, hnl0⟩ := open_boardN (hval 0 25 v0 rfl rfl) h0
  obtain ⟨f0, f1, f2, f3, f4, rfl, hf0, hf1, hf2, hf3, hf4⟩ := opn74 (hval 1 74 v1 rfl rfl) h1
  obtain ⟨hnh, hnc⟩ := board_nil h0
  clear hA0 hval0
  simp only [List.append_nil, List.append_assoc] at hW'
  have hlt0 : ∀ x ∈ p0, x.block < W.heap.size := fun x hx => by simpa using hW'.lt x (by simp [hx])
  have hlt1 : ∀ x ∈ p1, x.block < W.heap.size := fun x hx => by simpa using hW'.lt x (by simp [hx])
  refine (con_calls (c12 bd0 pt0 hm0 (fun i hi => (hnl0 i hi).2) hnc f0 f1 f2 f3 f4 hf0 hf1 hf2 hf3 hf4 (St.nil W))).mono fun e W' he => ?_
  obtain ⟨v, rfl, rfl, hst⟩ := he
  have bel : Below W.heap.size W W' := hst.below
  refine ⟨_, rfl, ?_⟩
  refine ⟨_, _, _, [], p0 ++ p1, [], hW', ?_, ?_, rfl, bel.frame _, fun h => by cases h⟩
  · exact trodAll_mk1 (shut_bool Try.underlying4 true)
  · exact trodAll_mk2 (Below.trod Try.laidOut (by kernel_rfl) (of_decide_eq_true (by kernel_rfl)) h0 bel hlt0) (Below.trod Try.laidOut (by kernel_rfl) (of_decide_eq_true (by kernel_rfl)) h1 bel hlt1)
theorem chainBetter_holds : Rows.ChainBetterSaid :=
  OpenClaim.holds_of_wide 12 Try.f12 rfl rfl rfl rfl rfl rfl rfl ⟨rfl, rfl, rfl, rfl, rfl⟩ rfl rfl rfl rfl rfl (by kernel_rfl) Try.func12 (by kernel_rfl)
    (of_decide_eq_true (by kernel_rfl)) (by unfold Func.isWrapper; first | (rw [if_pos (by decide +kernel)]; kernel_rfl) | (rw [if_neg (by decide +kernel)]; exact ⟨rfl, rfl⟩))
    (fun os started H enc _ => chainBetter_lifted os started H enc)
#print axioms chainBetter_holds
end Go.Proofs.Ytgndnnpadkoagaa
