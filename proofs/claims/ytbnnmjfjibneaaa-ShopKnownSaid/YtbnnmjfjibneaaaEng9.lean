/- The walking engine, part 9: regions that draw their order, where two operations can come: both ways are walked. No conditions. -/
import Derived.Test.YtbnnmjfjibneaaaEng8
set_option linter.unusedSimpArgs false
set_option linter.unusedVariables false
namespace Go.Rt
open Go.RowKit
variable {r : Option Nat} {P : Program} {ops : Array Oper} {K K' : Act → World → Prop} {n : Nat} {ρ : Nat → Value} {ds : List Deferred} {w w0 : World} {L : List (Nat × Obj)}
def drawE (ops : Array Oper) (late : List Nat) (e : Array Bool → Bool) : List (Nat × Nat) → Array Bool → Bool
  | [], l => e l
  | (i, t) :: rest, l =>
    (match t with
     | 0 => (Region.ready .any ops l).contains i && Region.free .any ops l i && !late.contains i
     | 1 => (Region.ready .any ops l).contains i && Region.free .any ops l i && !late.contains i &&
        (let c := closeB ops i ops.size l; ((Region.ready .any ops c).all fun j => Nat.beq j i) && !badB late c && !c.getD i false && (List.range ops.size).all fun j => !l.getD j false || c.getD j false)
     | 2 => Region.ready .any ops l == [i] && !late.contains i
     | _ => Region.ready .any ops l == [i] && late.contains i) && drawE ops late e rest (l.setIfInBounds i true)
theorem wAH_of_DWE {C : World → Prop} {late : List Nat} {e : Array Bool → Bool} {m : Nat} (hns : Region.noSelect ops = true) (hnd : noDefer ops = true)
    (hend : ∀ (l : Array Bool) (a : Act) (w : World), l.size = ops.size → e l = true → (badB late l = false → C w) → K' a w → wAH r P ops K (fun l w => badB late l = false → C w) m l a w) : ∀ (ord : List (Nat × Nat)) (l : Array Bool) (a : Act) (w : World), l.size = ops.size → drawE ops late e ord l = true →
    (badB late l = false → C w) → DW r P ops K' C ord a w → wAH r P ops K (fun l w => badB late l = false → C w) (ord.length + m) l a w
  | [], l, a, w, hsz, hB, hC, h => by
    rw [show ([] : List (Nat × Nat)).length + m = m by simp]
    exact hend l a w hsz hB hC h
  | (i, t) :: rest, l, a, w, hsz, hB, hC, h => by
    simp only [drawE, Bool.and_eq_true] at hB
    obtain ⟨hB1, hB2⟩ := hB
    have hsz' : (l.setIfInBounds i true).size = ops.size := by simpa using hsz
    have ih := wAH_of_DWE (C := C) (late := late) (e := e) (m := m) hns hnd hend rest (l.setIfInBounds i true)
    rw [show ((i, t) :: rest).length + m = (rest.length + m) + 1 by simp; omega]
    match t, hB1, h with
    | 0, hB1, h =>
      simp only [Bool.and_eq_true, Bool.not_eq_true'] at hB1
      obtain ⟨o, v, ho, hy, hd⟩ := h
      refine wAH_first (C := fun _ => True) ho (Region.noSelect_spec hns) hnd (rest.length + m) l a w (Region.free_spec ho hB1.1.2) ?_ (by simpa using hB1.1.1) hy trivial hC ⟨?_, ih _ w hsz' hB2 ?_ hd⟩
      · exact fun l' w' _ hS => ⟨trivial, fun hb => hS (badB_set' hB1.2 hb)⟩
      · exact fun hb => hC (badB_set hB1.2 hb)
      · exact fun hb => hC (badB_set hB1.2 hb)
    | 1, hB1, h =>
      simp only [Bool.and_eq_true, Bool.not_eq_true'] at hB1
      obtain ⟨⟨⟨h1, h2⟩, h3⟩, ⟨⟨⟨h4, h5⟩, h6⟩, h7⟩⟩ := hB1
      obtain ⟨hCw, o, v, ho, hy, hd⟩ := h
      refine wAH_first (C := C) ho (Region.noSelect_spec hns) hnd (rest.length + m) l a w (Region.free_spec ho h2) ?_ (by simpa using h1) hy hCw hC ⟨fun _ => hCw, ih _ w hsz' hB2 (fun _ => hCw) hd⟩
      intro l' w' hre hS
      have hsub := reach_sub (c := closeB ops i ops.size l) hre (fun j hj => ?_) (fun j hj => ?_) (by rw [closeB_size, hsz])
      · have hb : badB late l' = false := by
          unfold badB at h5 ⊢
          rw [List.any_eq_false] at *
          intro s hs hs'
          exact h5 s hs (hsub s hs')
        have := hS (badB_set' h3 hb)
        exact ⟨this, fun _ => this⟩
      · rw [List.all_eq_true] at h7
        have hlt : j < ops.size := by
          rw [← hsz]
          rcases Nat.lt_or_ge j l.size with h' | h'
          · exact h'
          · simp [Array.getElem?_eq_none h'] at hj
        have := h7 j (List.mem_range.2 hlt)
        simp only [hj, Bool.not_true, Bool.false_or] at this
        exact this
      · rw [List.all_eq_true] at h4
        exact Nat.eq_of_beq_eq_true (h4 j hj)
    | 2, hB1, h =>
      simp only [Bool.and_eq_true, Bool.not_eq_true', beq_iff_eq] at hB1
      obtain ⟨o, ho, hw⟩ := h
      refine ⟨fun h0 => (by rw [hB1.1] at h0; cases h0), fun j hj => ?_⟩
      rw [hB1.1] at hj
      obtain rfl : j = i := by simpa using hj
      refine wpOpIn_mono (fun a' w' h' => ⟨fun _ => h'.1, ih a' w' hsz' hB2 (fun _ => h'.1) h'.2⟩) (wl_one (K := K) ho hw)
    | t + 3, hB1, h =>
      simp only [Bool.and_eq_true, beq_iff_eq] at hB1
      obtain ⟨o, ho, hw⟩ := h
      refine ⟨fun h0 => (by rw [hB1.1] at h0; cases h0), fun j hj => ?_⟩
      rw [hB1.1] at hj
      obtain rfl : j = i := by simpa using hj
      have hbad : badB late (l.setIfInBounds j true) = true := by
        unfold badB
        rw [List.any_eq_true]
        refine ⟨j, List.contains_iff_mem.1 hB1.2, ?_⟩
        have hlt : j < l.size := by rw [hsz]; exact (Array.getElem?_eq_some_iff.1 ho).1
        simp [hlt]
      refine wpOpIn_mono (fun a' w' h' => ⟨fun hb => (by rw [hbad] at hb; cases hb), ih a' w' hsz' hB2 (fun hb => (by rw [hbad] at hb; cases hb)) h'⟩) (wl_one (K := K) ho hw)
/-- Orders: some operations in order, then the end, or one of two that can come. -/
inductive OT where
  | done (pre : List (Nat × Nat))
  | two (pre : List (Nat × Nat)) (i j : Nat) (a b : OT)
def OT.len : OT → Nat
  | .done pre => pre.length
  | .two pre _ _ a _ => pre.length + (a.len + 1)
def drawT (ops : Array Oper) (late : List Nat) : OT → Array Bool → Bool
  | .done pre, l => drawE ops late (fun l => (Region.ready .any ops l).isEmpty) pre l
  | .two pre i j a b, l => drawE ops late (fun l => Region.ready .any ops l == [i, j] && !late.contains i && !late.contains j && Nat.beq a.len b.len && drawT ops late a (l.setIfInBounds i true) && drawT ops late b (l.setIfInBounds j true)) pre l
def DT (r : Option Nat) (P : Program) (ops : Array Oper) (K : Act → World → Prop) (C : World → Prop) : OT → Act → World → Prop
  | .done pre => DW r P ops K C pre
  | .two pre i j x y => DW r P ops (fun a w => (∃ o, ops[i]? = some o ∧ WL r P ops (Qn fun a' w' => C w' ∧ DT r P ops K C x a' w') [o] a w) ∧ (∃ o, ops[j]? = some o ∧ WL r P ops (Qn fun a' w' => C w' ∧ DT r P ops K C y a' w') [o] a w)) C pre
theorem wAH_of_DT {C : World → Prop} {late : List Nat} (hns : Region.noSelect ops = true) (hnd : noDefer ops = true) : ∀ (T : OT) (l : Array Bool) (a : Act) (w : World), l.size = ops.size → drawT ops late T l = true →
    (badB late l = false → C w) → DT r P ops K C T a w → wAH r P ops K (fun l w => badB late l = false → C w) T.len l a w
  | .done pre, l, a, w, hsz, hB, hC, h => by
    refine wAH_of_DWE (m := 0) (e := fun l => (Region.ready .any ops l).isEmpty) hns hnd ?_ pre l a w hsz hB hC h
    intro l' a' w' _ he _ hk
    exact ⟨by simpa using he, hk⟩
  | .two pre i j x y, l, a, w, hsz, hB, hC, h => by
    refine wAH_of_DWE (m := x.len + 1) hns hnd ?_ pre l a w hsz hB hC h
    intro l' a' w' hsz' he hC' hk
    simp only [Bool.and_eq_true, Bool.not_eq_true', beq_iff_eq] at he
    obtain ⟨⟨⟨⟨⟨h1, h2⟩, h3⟩, h4⟩, h5⟩, h6⟩ := he
    obtain ⟨⟨o1, ho1, hw1⟩, ⟨o2, ho2, hw2⟩⟩ := hk
    have hlen : y.len = x.len := (Nat.eq_of_beq_eq_true h4).symm
    refine ⟨fun h0 => (by rw [h1] at h0; cases h0), fun q hq => ?_⟩
    rw [h1] at hq
    rcases List.mem_cons.1 hq with rfl | hq
    · refine wpOpIn_mono (fun a'' w'' h' => ⟨fun _ => h'.1, wAH_of_DT hns hnd x _ a'' w'' (by simpa using hsz') h5 (fun _ => h'.1) h'.2⟩) (wl_one (K := K) ho1 hw1)
    · rw [List.mem_singleton] at hq
      subst hq
      refine wpOpIn_mono (fun a'' w'' h' => ⟨fun _ => h'.1, by rw [← hlen]; exact wAH_of_DT hns hnd y _ a'' w'' (by simpa using hsz') h6 (fun _ => h'.1) h'.2⟩) (wl_one (K := K) ho2 hw2)
def drawTOK (ops : Array Oper) (late : List Nat) (T : OT) : Bool := Region.noSelect ops && noDefer ops && Nat.beq T.len ops.size && drawT ops late T (Array.replicate ops.size false)
/-- A region that draws its order: all orders of those told are walked. -/
theorem w_drawT {id : Nat} {l : List Oper} {Q : Exit → Act → World → Prop} {C : World → Prop} (late : List Nat) (T : OT) (hm : P.follows .mixedOrders = true) (hB : drawTOK l.toArray late T = true) (hC : C w)
    (hdrew : ∀ w, C w → C { w with drawn := w.drawn + 1 }) (h : ∀ w', C w' → DT r P l.toArray (fun a w => Q .normal a w) C T (A n ρ ds) w') : WC r P (.region id l.toArray true) Q (A n ρ ds) w := by
  unfold drawTOK at hB
  simp only [Bool.and_eq_true] at hB
  obtain ⟨⟨⟨h1, h2⟩, h3⟩, h4⟩ := hB
  have hst' := hdrew _ hC
  have hsz : T.len = l.toArray.size := Nat.eq_of_beq_eq_true h3
  have := wAH_of_DT h1 h2 T (Array.replicate l.toArray.size false) (A n ρ ds) _ (by simp) h4 (fun _ => hst') (h _ hst')
  have hany := wAny_of_wAH _ _ _ _ this
  rw [hsz] at hany
  refine wpIn_mono (wpIn_region_any hm hany) ?_
  intro e a w hq
  cases e <;> first | exact hq | exact hq.elim
theorem dt_done {C : World → Prop} {pre : List (Nat × Nat)} {a : Act} (h : DW r P ops K C pre a w) : DT r P ops K C (.done pre) a w := h
theorem dt_two {C : World → Prop} {pre : List (Nat × Nat)} {i j : Nat} {x y : OT} {a : Act} (h : DW r P ops (fun a w => (∃ o, ops[i]? = some o ∧ WL r P ops (Qn fun a' w' => C w' ∧ DT r P ops K C x a' w') [o] a w) ∧ (∃ o, ops[j]? = some o ∧ WL r P ops (Qn fun a' w' => C w' ∧ DT r P ops K C y a' w') [o] a w)) C pre a w) : DT r P ops K C (.two pre i j x y) a w := h
theorem d_two {C : World → Prop} {i j : Nat} {x y : OT} {a : Act} {o1 o2 : Oper} (h1 : ops[i]? = some o1) (h2 : ops[j]? = some o2) (hx : WL r P ops (Qn fun a' w' => C w' ∧ DT r P ops K C x a' w') [o1] a w) (hy : WL r P ops (Qn fun a' w' => C w' ∧ DT r P ops K C y a' w') [o2] a w) :
    DW r P ops (fun a w => (∃ o, ops[i]? = some o ∧ WL r P ops (Qn fun a' w' => C w' ∧ DT r P ops K C x a' w') [o] a w) ∧ (∃ o, ops[j]? = some o ∧ WL r P ops (Qn fun a' w' => C w' ∧ DT r P ops K C y a' w') [o] a w)) C [] a w := d_nil ⟨⟨o1, h1, hx⟩, ⟨o2, h2, hy⟩⟩
end Go.Rt
