/- TopFresh returns true and leaves its arguments as they were, whatever the input. No conditions. -/
import Derived.Test.YtbikljcddblhjaaGreatRows
import Derived.Test.YtbikljcddblhjaaGreatHTopFresha
import Derived.Test.YtbikljcddblhjaaGreatHTopFreshb
import Derived.Test.YtbikljcddblhjaaGreatHTopFreshc
import Derived.Test.YtbikljcddblhjaaGreatHTopFreshd
import Derived.Test.YtbikljcddblhjaaGreatHTopFreshe
import Derived.Test.YtbikljcddblhjaaGreatHTopFreshf
import Derived.Test.YtbikljcddblhjaaGreatHTopFreshg
import Derived.Test.YtbikljcddblhjaaGreatHTopFreshh
import Derived.Test.YtbikljcddblhjaaGreatHTopFreshi
import Derived.Test.YtbikljcddblhjaaGreatHTopFreshj
set_option maxRecDepth 100000
set_option linter.unusedVariables false
set_option linter.unusedSimpArgs false
namespace Go.Proofs.YtbikljcddblhjaaGreat
open Go.Proofs.Tryz
open Go.Rt Go.RowKit Go.ChangeShapes Go.WideShapes Go.ChangeAt
theorem topFresh_lifted (os : Os) (started : os.Started) (H : Type) (enc : TypeId × Value → H) :
    ReturnsInHanded {} Tryz.checked os 3 .any (Rows.topFreshSpec.pre6 enc Tryz.prog Tryz.f3 Rows.topFreshRow.domain false) (Rows.topFreshSpec.post enc Tryz.prog Tryz.f3 false true false false) := by
  refine returnsInHanded_of_change (C := Tryz.checked) Tryz.own started (by kernel_rfl) func3
    (ChangeSpec.witness6 (enc := enc) (C := Tryz.checked) false ⟨#[], #[.agg #[.int .i64 0, .int .i64 0, .int .i64 0, .slice none 0 0], .agg #[.int .u8 0, .int .u8 0, .int .u8 0]], []⟩ 8 (by kernel_rfl) (by kernel_rfl) (by kernel_rfl) (by kernel_rfl)) ?_
  intro W base args ds gs before hval0 hW hcnd _
  have hval : ∀ (j : Nat) t v, Tryz.f3.params[j]? = some t → args[j]? = some v → Value.okWide Tryz.prog W .any base t v := hval0
  have hW' := hW
  obtain ⟨p, q, hA0, hV, rfl, hfz, hnd⟩ := hW
  have hA : DataW.TrodAll enc Tryz.prog W 0 (fun _ => true) true Tryz.f3.params.toList args.toList ds p := hA0
  rw [Tryz.params3] at hA hval
  obtain ⟨v0, v1, d0, d1, p0, p1, rfl, rfl, rfl, h0, h1⟩ := trodAll_two hA
  obtain ⟨rfl, rfl⟩ := trodVars_none hV
  obtain ⟨pt0, a0, c0, rfl, ha0, hc0, hl0, hn0⟩ := open_port (hval 0 26 v0 rfl rfl) h0
  obtain ⟨e0, e1, e2, rfl, he0, he1, he2⟩ := opn27 (hval 1 27 v1 rfl rfl) h1
  clear hA0 hval0
  simp only [List.append_nil, List.append_assoc] at hW'
  have hlt0 : ∀ x ∈ p0, x.block < W.heap.size := fun x hx => by simpa using hW'.lt x (by simp [hx])
  have hlt1 : ∀ x ∈ p1, x.block < W.heap.size := fun x hx => by simpa using hW'.lt x (by simp [hx])
  refine (con_calls (Go.Proofs.Tf.c3 pt0 a0 c0 hl0 hc0 ha0 hn0 e0 e1 e2 he0 he1 he2 (St.nil W))).mono fun e W' he => ?_
  obtain ⟨v, rfl, rfl, hst⟩ := he
  have bel : Below W.heap.size W W' := hst.below
  refine ⟨_, rfl, ?_⟩
  refine ⟨_, _,_, [], p0 ++ p1, [], hW', ?_, ?_, rfl, bel.frame _, fun h => by cases h⟩
  · exact trodAll_mk1 (shut_bool underlying4 true)
  · exact trodAll_mk2 (Below.trod Tryz.laidOut (by kernel_rfl) (of_decide_eq_true (by kernel_rfl)) h0 bel hlt0) (Below.trod Tryz.laidOut (by kernel_rfl) (of_decide_eq_true (by kernel_rfl)) h1 bel hlt1)
theorem topFresh_holds : Rows.TopFreshSaid :=
  OpenClaim.holds_of_wide 3 Tryz.f3 rfl rfl rfl rfl rfl rfl rfl ⟨rfl, rfl, rfl, rfl, rfl⟩ rfl rfl rfl rfl rfl (by kernel_rfl) func3 (by kernel_rfl)
    (of_decide_eq_true (by kernel_rfl)) (by unfold Func.isWrapper; first | (rw [if_pos (by decide +kernel)]; kernel_rfl) | (rw [if_neg (by decide +kernel)]; exact ⟨rfl, rfl⟩))
    (fun os started H enc _ => topFresh_lifted os started H enc)
#print axioms topFresh_holds
end Go.Proofs.YtbikljcddblhjaaGreat
