/- ChainTrue returns true and leaves its arguments as they were, whatever the input. No conditions. -/
import Derived.Test.YtgndnnpadkoagaaRows
import Derived.Test.YtgndnnpadkoagaaHChainTruea
import Derived.Test.YtgndnnpadkoagaaHChainTrueb
import Derived.Test.YtgndnnpadkoagaaHChainTruec
import Derived.Test.YtgndnnpadkoagaaHChainTrued
import Derived.Test.YtgndnnpadkoagaaHChainTruee
import Derived.Test.YtgndnnpadkoagaaHChainTruef
import Derived.Test.YtgndnnpadkoagaaHChainTrueg
set_option maxRecDepth 100000
set_option linter.unusedVariables false
set_option linter.unusedSimpArgs false
namespace Go.Proofs.Ytgndnnpadkoagaa
open Go.Rt Go.Rt.Ch Go.RowKit Go.ChangeShapes Go.WideShapes Go.ChangeAt
theorem chainTrue_lifted (os : Os) (started : os.Started) (H : Type) (enc : TypeId × Value → H) :
    ReturnsInHanded {} Try.checked os 8 .any (Rows.chainTrueSpec.pre6 enc Try.prog Try.f8 Rows.chainTrueRow.domain false) (Rows.chainTrueSpec.post enc Try.prog Try.f8 false true false false) := by
  refine returnsInHanded_of_change (C := Try.checked) Try.own started (by kernel_rfl) Try.func8
    (ChangeSpec.witness6 (enc := enc) (C := Try.checked) false ⟨#[], #[.agg #[.int .i64 0, .slice none 0 0, .slice none 0 0], .agg #[.slice none 0 0, .slice none 0 0, .slice none 0 0]], []⟩ 8 (by kernel_rfl) (by kernel_rfl) (by kernel_rfl) (by kernel_rfl)) ?_
  intro W base args ds gs before hval0 hW hcnd _
  have hval : ∀ (j : Nat) t v, Try.f8.params[j]? = some t → args[j]? = some v → Value.okWide Try.prog W .any base t v := hval0
  have hW' := hW
  obtain ⟨p, q, hA0, hV, rfl, hfz, hnd⟩ := hW
  have hA : DataW.TrodAll enc Try.prog W 0 (fun _ => true) true Try.f8.params.toList args.toList ds p := hA0
  rw [Try.params8] at hA hval
  obtain ⟨v0, v1, d0, d1, p0, p1, rfl, rfl, rfl, h0, h1⟩ := trodAll_two hA
  obtain ⟨rfl, rfl⟩ := trodVars_none hV
  obtain ⟨bd0, pt0, rfl, hm0⟩ := open_board (hval 0 25 v0 rfl rfl) h0
  obtain ⟨x1, a1, b1, c1, d1, e1, f1, rfl, hx1, hp1, hq1, hr1, hs1, ht1, hu1⟩ := open_past (hval 1 49 v1 rfl rfl) h1
  clear hA0 hval0
  simp only [List.append_nil, List.append_assoc] at hW'
  have hlt0 : ∀ x ∈ p0, x.block < W.heap.size := fun x hx => by simpa using hW'.lt x (by simp [hx])
  have hlt1 : ∀ x ∈ p1, x.block < W.heap.size := fun x hx => by simpa using hW'.lt x (by simp [hx])
  refine (con_calls (c8 bd0 pt0 hm0 x1 hx1 a1 b1 c1 d1 e1 f1 hp1 hq1 hr1 hs1 ht1 hu1 (St.nil W))).mono fun e W' he => ?_
  obtain ⟨v, rfl, rfl, hst⟩ := he
  have bel : Below W.heap.size W W' := hst.below
  refine ⟨_, rfl, ?_⟩
  refine ⟨_, _, _, [], p0 ++ p1, [], hW', ?_, ?_, rfl, bel.frame _, fun h => by cases h⟩
  · exact trodAll_mk1 (shut_bool Try.underlying4 true)
  · exact trodAll_mk2 (Below.trod Try.laidOut (by kernel_rfl) (of_decide_eq_true (by kernel_rfl)) h0 bel hlt0) (Below.trod Try.laidOut (by kernel_rfl) (of_decide_eq_true (by kernel_rfl)) h1 bel hlt1)
theorem chainTrue_holds : Rows.ChainTrueSaid :=
  OpenClaim.holds_of_wide 8 Try.f8 rfl rfl rfl rfl rfl rfl rfl ⟨rfl, rfl, rfl, rfl, rfl⟩ rfl rfl rfl rfl rfl (by kernel_rfl) Try.func8 (by kernel_rfl)
    (of_decide_eq_true (by kernel_rfl)) (by unfold Func.isWrapper; first | (rw [if_pos (by decide +kernel)]; kernel_rfl) | (rw [if_neg (by decide +kernel)]; exact ⟨rfl, rfl⟩))
    (fun os started H enc _ => chainTrue_lifted os started H enc)
#print axioms chainTrue_holds
end Go.Proofs.Ytgndnnpadkoagaa
