/- ShopSome returns true and leaves its arguments as they were, whatever the input. No conditions. -/
import Derived.Test.YtbnnmjfjibneaaaRows
import Derived.Test.YtbnnmjfjibneaaaHShopSomea
import Derived.Test.YtbnnmjfjibneaaaHShopSomeb
import Derived.Test.YtbnnmjfjibneaaaHShopSomec
import Derived.Test.YtbnnmjfjibneaaaHShopSomed
import Derived.Test.YtbnnmjfjibneaaaHShopSomee
import Derived.Test.YtbnnmjfjibneaaaHShopSomef
import Derived.Test.YtbnnmjfjibneaaaHShopSomeg
set_option maxRecDepth 100000
set_option linter.unusedVariables false
set_option linter.unusedSimpArgs false
namespace Go.Proofs.Ytbnnmjfjibneaaa
open Go.Rt Go.Rt.Sh Go.RowKit Go.ChangeShapes Go.WideShapes Go.ChangeAt
theorem shopSome_lifted (os : Os) (started : os.Started) (H : Type) (enc : TypeId × Value → H) :
    ReturnsInHanded {} Try.checked os 11 .any (Rows.shopSomeSpec.pre6 enc Try.prog Try.f11 Rows.shopSomeRow.domain false) (Rows.shopSomeSpec.post enc Try.prog Try.f11 false true false false) := by
  refine returnsInHanded_of_change (C := Try.checked) Try.own started (by kernel_rfl) Try.func11
    (ChangeSpec.witness6 (enc := enc) (C := Try.checked) false ⟨#[], #[.agg #[.slice none 0 0, .slice none 0 0, .slice none 0 0], .agg #[.int .u8 0, .int .u8 0], .slice none 0 0], []⟩ 8 (by kernel_rfl) (by kernel_rfl) (by kernel_rfl) (by kernel_rfl)) ?_
  intro W base args ds gs before hval0 hW hcnd _
  have hval : ∀ (j : Nat) t v, Try.f11.params[j]? = some t → args[j]? = some v → Value.okWide Try.prog W .any base t v := hval0
  have hW' := hW
  obtain ⟨p, q, hA0, hV, rfl, hfz, hnd⟩ := hW
  have hA : DataW.TrodAll enc Try.prog W 0 (fun _ => true) true Try.f11.params.toList args.toList ds p := hA0
  rw [Try.params11] at hA hval
  obtain ⟨v0, v1, v2, d0, d1, d2, p0, p1, p2, rfl, rfl, rfl, h0, h1, h2⟩ := trodAll_three hA
  obtain ⟨rfl, rfl⟩ := trodVars_none hV
  obtain ⟨pt0, a0, rfl, hm0⟩ := open_market (hval 0 26 v0 rfl rfl) h0
  obtain ⟨x1, y1, rfl, hx1, hy1⟩ := opn57 (hval 1 57 v1 rfl rfl) h1
  obtain ⟨a2, c2, x2, rfl, hl2, hs2, hr2, _⟩ := opn45 (hval 2 45 v2 rfl rfl) h2
  clear hA0 hval0
  simp only [List.append_nil, List.append_assoc] at hW'
  have hlt0 : ∀ x ∈ p0, x.block < W.heap.size := fun x hx => by simpa using hW'.lt x (by simp [hx])
  have hlt1 : ∀ x ∈ p1, x.block < W.heap.size := fun x hx => by simpa using hW'.lt x (by simp [hx])
  have hlt2 : ∀ x ∈ p2, x.block < W.heap.size := fun x hx => by simpa using hW'.lt x (by simp [hx])
  refine (con_calls (c11 pt0 a0 hm0 x1 y1 hx1 hy1 a2 c2 x2 hl2 hs2 hr2 (St.nil W))).mono fun e W' he => ?_
  obtain ⟨v, rfl, rfl, hst⟩ := he
  have bel : Below W.heap.size W W' := hst.below
  refine ⟨_, rfl, ?_⟩
  refine ⟨_, _, _, [], p0 ++ (p1 ++ p2), [], hW', ?_, ?_, rfl, bel.frame _, fun h => by cases h⟩
  · exact trodAll_mk1 (shut_bool Try.underlying4 true)
  · exact trodAll_mk3 (Below.trod Try.laidOut (by kernel_rfl) (of_decide_eq_true (by kernel_rfl)) h0 bel hlt0) (Below.trod Try.laidOut (by kernel_rfl) (of_decide_eq_true (by kernel_rfl)) h1 bel hlt1) (Below.trod Try.laidOut (by kernel_rfl) (of_decide_eq_true (by kernel_rfl)) h2 bel hlt2)
theorem shopSome_holds : Rows.ShopSomeSaid :=
  OpenClaim.holds_of_wide 11 Try.f11 rfl rfl rfl rfl rfl rfl rfl ⟨rfl, rfl, rfl, rfl, rfl⟩ rfl rfl rfl rfl rfl (by kernel_rfl) Try.func11 (by kernel_rfl)
    (of_decide_eq_true (by kernel_rfl)) (by unfold Func.isWrapper; first | (rw [if_pos (by decide +kernel)]; kernel_rfl) | (rw [if_neg (by decide +kernel)]; exact ⟨rfl, rfl⟩))
    (fun os started H enc _ => shopSome_lifted os started H enc)
#print axioms shopSome_holds
end Go.Proofs.Ytbnnmjfjibneaaa
