/- The walking engine, part 11: one number copied into a list at a place. No conditions. -/
import Derived.Test.YtbnnmjfjibneaaaEng10
set_option linter.unusedSimpArgs false
set_option linter.unusedVariables false
namespace Go.Rt
open Go.RowKit
variable {r : Option Nat} {P : Program} {ops : Array Oper} {Q : Exit → Act → World → Prop} {rest : List Oper} {n : Nat} {ρ : Nat → Value} {ds : List Deferred} {ty : TypeId} {p : String} {e : Array Edge} {g : Option (Nat × Bool)} {w w0 : World} {L : List (Nat × Obj)}
theorem w_copy1 {d : Nat} {t el : TypeId} {i i2 : Nat} {x y : Operand} {b b2 j c c2 : Nat} {tb tb2 : TypeId} {l : List Int} {z : Int}
    (hw : Want ops (A n ρ ds) ⟨some d, .call ⟨.builtin .copy, #[x, y], #[t, t]⟩, ty, p, e, g⟩)
    (hU : P.underlying t = some (.slice el)) (hsz : ∀ w, (sizeOf el).run P w = .ok 1 w) (ho : okO n x = true) (ho1 : okO n y = true)
    (hx : ev ρ x = .slice (if c = j then some ⟨b, 0, none⟩ else (some (⟨b, 0, none⟩ : Addr)).map (·.add (j * 1))) (c - j) (c - j)) (hy : ev ρ y = .slice (some ⟨b2, 0, none⟩) 1 c2)
    (hst : St w0 w L) (hi : L[i]? = some (b, blk tb (iv l))) (hi2 : L[i2]? = some (b2, blk tb2 [.int .i64 z])) (hj : j < c) (hc : l.length = c)
    (hk : ∀ w', St w0 w' (L.set i (b, blk tb (iv (l.set j z)))) → WL r P ops Q rest (A n (upd ρ d (.int .i64 1)) ds) w') :
    WL r P ops Q (⟨some d, .call ⟨.builtin .copy, #[x, y], #[t, t]⟩, ty, p, e, g⟩ :: rest) (A n ρ ds) w := by
  have hx2 : ev ρ x = .slice (some ⟨b, j, none⟩) (c - j) (c - j) := by
    rw [hx, if_neg (by omega)]
    by_cases h0 : j = 0
    · subst h0; rfl
    · simp [Addr.add, h0]
  have hm : Nat.min 1 (c - j) = 1 := Nat.min_eq_left (by omega)
  refine w_copy (xs := [.int .i64 z]) (vs := [.int .i64 z]) (k := 1) hw hU hsz ho ho1 hx2 hy hst hi (sl_own (i := i2) (rows := [[.int .i64 z]]) hi2 (by simp) rfl) rfl hm.symm rfl (by simp [Value.oneCell']) (by simp; omega) (fun w' hst' => hk w' ?_)
  have : setMany (iv l) j [.int .i64 z] = iv (l.set j z) := by simp [setMany, iv, List.map_set]
  rwa [this] at hst'
theorem shr_lt {x y k : Nat} (h : x < k) : x >>> y < k := Nat.lt_of_le_of_lt (Nat.shiftRight_le _ _) h
end Go.Rt
