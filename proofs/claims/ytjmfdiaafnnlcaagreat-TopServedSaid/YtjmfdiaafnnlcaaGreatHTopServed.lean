/- TopServed returns true and leaves its arguments as they were, whatever the input. No conditions. -/
import Derived.Test.YtjmfdiaafnnlcaaGreatRows
import Derived.Test.YtjmfdiaafnnlcaaGreatHTopServeda
import Derived.Test.YtjmfdiaafnnlcaaGreatHTopServedb
import Derived.Test.YtjmfdiaafnnlcaaGreatHTopServedc
import Derived.Test.YtjmfdiaafnnlcaaGreatHTopServedd
import Derived.Test.YtjmfdiaafnnlcaaGreatHTopServede
import Derived.Test.YtjmfdiaafnnlcaaGreatHTopServedf
import Derived.Test.YtjmfdiaafnnlcaaGreatHTopServedg
import Derived.Test.YtjmfdiaafnnlcaaGreatHTopServedh
import Derived.Test.YtjmfdiaafnnlcaaGreatHTopServedi
import Derived.Test.YtjmfdiaafnnlcaaGreatHTopServedj
import Derived.Test.YtjmfdiaafnnlcaaGreatHTopServedk
set_option maxRecDepth 100000
set_option linter.unusedVariables false
set_option linter.unusedSimpArgs false
namespace Go.Proofs.YtjmfdiaafnnlcaaGreat
open Go.Proofs.Tryz
open Go.Rt Go.RowKit Go.ChangeShapes Go.WideShapes Go.ChangeAt
theorem topServed_lifted (os : Os) (started : os.Started) (H : Type) (enc : TypeId × Value → H) :
    ReturnsInHanded {} Tryz.checked os 3 .any (Rows.topServedSpec.pre6 enc Tryz.prog Tryz.f3 Rows.topServedRow.domain false) (Rows.topServedSpec.post enc Tryz.prog Tryz.f3 false true false false) := by
  refine returnsInHanded_of_change (C := Tryz.checked) Tryz.own started (by kernel_rfl) func3
    (ChangeSpec.witness6 (enc := enc) (C := Tryz.checked) false ⟨#[], #[.agg #[.slice none 0 0, .slice none 0 0, .slice none 0 0], .agg #[.slice none 0 0, .slice none 0 0, .slice none 0 0], .agg #[.int .u16 0, .slice none 0 0, .int .u8 0]], []⟩ 8 (by kernel_rfl) (by kernel_rfl) (by kernel_rfl) (by kernel_rfl)) ?_
  intro W base args ds gs before hval0 hW hcnd _
  have hval : ∀ (j : Nat) t v, Tryz.f3.params[j]? = some t → args[j]? = some v → Value.okWide Tryz.prog W .any base t v := hval0
  have hW' := hW
  obtain ⟨p, q, hA0, hV, rfl, hfz, hnd⟩ := hW
  have hA : DataW.TrodAll enc Tryz.prog W 0 (fun _ => true) true Tryz.f3.params.toList args.toList ds p := hA0
  rw [Tryz.params3] at hA hval
  obtain ⟨v0, v1, v2, d0, d1, d2, p0, p1, p2, rfl, rfl, rfl, h0, h1, h2⟩ := trodAll_three hA
  obtain ⟨rfl, rfl⟩ := trodVars_none hV
  obtain ⟨pt0, a0, rfl, hm0⟩ := open_lot (hval 0 26 v0 rfl rfl) h0
  obtain ⟨pt1, a1, rfl, hm1⟩ := Lm.open_market (hval 1 31 v1 rfl rfl) h1
  obtain ⟨z2, a2, c2, y2, n2, rfl, hz2, hl2, g0, hr2, hn2⟩ := open_felt (hval 2 35 v2 rfl rfl) h2
  obtain ⟨hnR, _, _⟩ := Lm.market_nil h1
  clear hA0 hval0
  simp only [List.append_nil, List.append_assoc] at hW'
  have hlt0 : ∀ x ∈ p0, x.block < W.heap.size := fun x hx => by simpa using hW'.lt x (by simp [hx])
  have hlt1 : ∀ x ∈ p1, x.block < W.heap.size := fun x hx => by simpa using hW'.lt x (by simp [hx])
  have hlt2 : ∀ x ∈ p2, x.block < W.heap.size := fun x hx => by simpa using hW'.lt x (by simp [hx])
  refine (con_calls (Go.Proofs.Tg.c3 pt0 a0 hm0 pt1 a1 hm1 hnR z2 hz2 a2 c2 y2 hl2 g0 hr2 n2 hn2 (St.nil W))).mono fun e W' he => ?_
  obtain ⟨v, rfl, rfl, hst⟩ := he
  have bel : Below W.heap.size W W' := hst.below
  refine ⟨_, rfl, ?_⟩
  refine ⟨_, _,_, [], p0 ++ (p1 ++ p2), [], hW', ?_, ?_, rfl, bel.frame _, fun h => by cases h⟩
  · exact trodAll_mk1 (shut_bool underlying4 true)
  · exact trodAll_mk3 (Below.trod Tryz.laidOut (by kernel_rfl) (of_decide_eq_true (by kernel_rfl)) h0 bel hlt0) (Below.trod Tryz.laidOut (by kernel_rfl) (of_decide_eq_true (by kernel_rfl)) h1 bel hlt1) (Below.trod Tryz.laidOut (by kernel_rfl) (of_decide_eq_true (by kernel_rfl)) h2 bel hlt2)
theorem topServed_holds : Rows.TopServedSaid :=
  OpenClaim.holds_of_wide 3 Tryz.f3 rfl rfl rfl rfl rfl rfl rfl ⟨rfl, rfl, rfl, rfl, rfl⟩ rfl rfl rfl rfl rfl (by kernel_rfl) func3 (by kernel_rfl)
    (of_decide_eq_true (by kernel_rfl)) (by unfold Func.isWrapper; first | (rw [if_pos (by decide +kernel)]; kernel_rfl) | (rw [if_neg (by decide +kernel)]; exact ⟨rfl, rfl⟩))
    (fun os started H enc _ => topServed_lifted os started H enc)
#print axioms topServed_holds
end Go.Proofs.YtjmfdiaafnnlcaaGreat
