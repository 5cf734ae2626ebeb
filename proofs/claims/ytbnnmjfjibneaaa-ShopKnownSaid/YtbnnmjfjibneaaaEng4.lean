/- The walking engine, part 4: a region that draws its order. One order is walked; what reads is taken first, what writes comes when nothing else can. No conditions. -/
import Derived.Test.YtbnnmjfjibneaaaEng3
set_option linter.unusedSimpArgs false
set_option linter.unusedVariables false
namespace Go.Rt
open Go.RowKit

/-- Of a region's end alone. -/
def Qn (K : Act → World → Prop) : Exit → Act → World → Prop
  | .normal, a, w => K a w
  | _, _, _ => False
variable {r : Option Nat} {P : Program} {ops : Array Oper} {n : Nat} {ρ : Nat → Value} {ds : List Deferred} {w w0 : World} {L : List (Nat × Obj)} {K : Act → World → Prop} {S : Array Bool → World → Prop}

/-- In every world that meets C the operation yields v, or it is passed over. -/
def YI (P : Program) (ops : Array Oper) (C : World → Prop) (o : Oper) (v : Value) (a : Act) : Prop :=
  (Region.wanted o (yielded ops a.tmps) = true ∧ isDefer o.op = false ∧ ∀ w, C w → (execOp a.eval o).run P w = .ok (.value v) w) ∨
  (Region.wanted o (yielded ops a.tmps) = false ∧ v = undef)
def wOp (r : Option Nat) (P : Program) (ops : Array Oper) (Q : Exit → Act → World → Prop) (i : Nat) (K : Act → World → Prop) (a : Act) (w : World) : Prop := wpOpIn (FW r) 0 P ops Q i K a w
theorem YI.wOp {C : World → Prop} {i : Nat} {o : Oper} {v : Value} {a : Act} {Q : Exit → Act → World → Prop} (hi : ops[i]? = some o) (hy : YI P ops C o v a) (hC : C w) (h : K (a.put o.dst v) w) : wOp r P ops Q i K a w := by
  unfold Rt.wOp Go.wpOpIn
  simp only [hi]
  rcases hy with ⟨hw, hd, hv⟩ | ⟨hw, rfl⟩
  · simp only [hw, if_true, Oper.wpIn, semAt_of hd, hv w hC, Oper.uponIn]; exact ⟨fun _ _ => trivial, h⟩
  · simp only [hw, Bool.false_eq_true, if_false]; exact ⟨fun _ _ => trivial, h⟩
theorem YI.of_same {C : World → Prop} {o : Oper} {v : Value} {a a' : Act} (hy : YI P ops C o v a) (he : execOp a'.eval o = execOp a.eval o)
    (hw : Region.wanted o (yielded ops a'.tmps) = Region.wanted o (yielded ops a.tmps)) : YI P ops C o v a' := by
  unfold YI at *
  rw [he, hw]
  exact hy
theorem wOp_put {C : World → Prop} {j : Nat} {oi oj : Oper} {v : Value} {Q : Exit → Act → World → Prop} (hj : ops[j]? = some oj) (hap : oi.apart ops oj = true) (hdj : isDefer oj.op = false)
    (hsi : ∀ cs b, oi.op ≠ .select cs b) (hsj : ∀ cs b, oj.op ≠ .select cs b)
    (hQ : ∀ c a w, Q (.panic c) (a.put oi.dst v) w → Q (.panic c) a w) {a : Act}
    (hy : YI P ops C oi v a) (h : wOp r P ops Q j K (a.put oi.dst v) w) :
    wOp r P ops Q j (fun a' w' => YI P ops C oi v a' ∧ K (a'.put oi.dst v) w') a w := by
  obtain ⟨h1, h2, h3⟩ := Oper.apart_spec hap
  have keep : ∀ (a : Act), YI P ops C oi v a → ∀ u, YI P ops C oi v (a.put oj.dst u) := fun a hy u =>
    hy.of_same (execOp_put oi hsi a oj.dst u h3) (wanted_put oi a oj.dst u h3)
  have keepD : ∀ d, YI P ops C oi v { a with defers := d :: a.defers } := fun d => hy.of_same rfl rfl
  unfold wOp wpOpIn at *
  simp only [hj] at *
  rw [wanted_put oj a oi.dst v h1] at h
  split
  · rename_i hw
    simp only [hw, if_true] at h
    unfold Oper.wpIn at *
    refine ⟨fun _ _ => trivial, ?_⟩
    have h := h.2
    rw [semAt_of hdj, execOp_put oj hsj a oi.dst v h1] at h
    rw [semAt_of hdj]
    generalize (execOp a.eval oj).run P w = res at *
    cases res with
    | ok x w' =>
      cases x <;> simp only [Oper.uponIn] at h ⊢
      case value u => exact ⟨keep a hy u, by rw [← Act.put_comm a v u h2]; exact h⟩
      case skip => exact ⟨keep a hy _, by rw [← Act.put_comm a v undef h2]; exact h⟩
      case defer d =>
        refine ⟨keep _ (keepD d) _, ?_⟩
        rw [← Act.put_comm _ v undef h2, ← Act.put_defers]
        exact h
      case enter f args =>
        refine ⟨h.1, CallsIn.mono h.2 fun e w'' he => ?_⟩
        cases e with
        | returned u => exact ⟨keep a hy u, by rw [← Act.put_comm a v u h2]; exact he⟩
        | panicked c => exact hQ _ _ _ he
        | outgrown => exact he
      case row row args => exact ⟨h.1, RowsIn.mono h.2 fun u w'' he => ⟨keep a hy u, by rw [← Act.put_comm a v u h2]; exact he⟩⟩
      case round l f tmps assign body =>
        refine ⟨h.1, RoundIn.mono h.2 fun e w'' he => ?_⟩
        cases e with
        | returned u => exact ⟨keep a hy u, by rw [← Act.put_comm a v u h2]; exact he⟩
        | panicked c => exact hQ _ _ _ he
        | outgrown => exact he
    | halt x w' =>
      cases x <;> simp only [Oper.uponIn] at h ⊢
      case panic u => exact hQ _ _ _ h
  · rename_i hw
    simp only [hw] at h
    exact ⟨fun _ _ => trivial, keep a hy _, by rw [← Act.put_comm a v undef h2]; exact h.2⟩
/-- Whatever order is picked, and S of what has come up holds behind each operation. -/
def wAH (r : Option Nat) (P : Program) (ops : Array Oper) (K : Act → World → Prop) (S : Array Bool → World → Prop) : Nat → Array Bool → Act → World → Prop
  | 0, listed, a, w => Region.ready .any ops listed = [] ∧ K a w
  | fuel + 1, listed, a, w =>
    (Region.ready .any ops listed = [] → K a w) ∧
    ∀ i ∈ Region.ready .any ops listed, wOp r P ops (Qn K) i (fun a' w' => S (listed.setIfInBounds i true) w' ∧ wAH r P ops K S fuel (listed.setIfInBounds i true) a' w') a w
theorem wAny_of_wAH : ∀ (fuel : Nat) (listed : Array Bool) (a : Act) (w : World), wAH r P ops K S fuel listed a w → wpAnyIn (FW r) 0 P .any ops (Qn K) fuel listed a w
  | 0, _, _, _, h => h
  | fuel + 1, _, _, _, h => ⟨h.1, fun i hi => wpOpIn_mono (fun a' w' h' => wAny_of_wAH fuel _ a' w' h'.2) (h.2 i hi)⟩
/-- Sets that can come of one without i. -/
inductive Reach (ops : Array Oper) (i : Nat) (l : Array Bool) : Array Bool → Prop
  | refl : Reach ops i l l
  | step {l' : Array Bool} {j : Nat} : Reach ops i l l' → j ∈ Region.ready .any ops l' → j ≠ i → Reach ops i l (l'.setIfInBounds j true)
theorem Reach.from_step {i j : Nat} {l l' : Array Bool} (hj : j ∈ Region.ready .any ops l) (hne : j ≠ i) (h : Reach ops i (l.setIfInBounds j true) l') : Reach ops i l l' := by
  induction h with
  | refl => exact .step .refl hj hne
  | step _ h1 h2 ih => exact .step ih h1 h2
def noDefer (ops : Array Oper) : Bool := ops.all fun o => !isDefer o.op
theorem noDefer_spec (h : noDefer ops = true) (j : Nat) (o : Oper) (ho : ops[j]? = some o) : isDefer o.op = false := by
  have := Array.all_eq_true_iff_forall_mem.1 h o (Array.mem_of_getElem? ho)
  simpa using this
theorem wAH_first {C : World → Prop} {i : Nat} {oi : Oper} {v : Value} (hi : ops[i]? = some oi) (hsel : ∀ (j : Nat) (o : Oper) cs b, ops[j]? = some o → o.op ≠ .select cs b) (hnd : noDefer ops = true) :
    ∀ (fuel : Nat) (listed : Array Bool) (a : Act) (w : World),
      (∀ j oj, ops[j]? = some oj → j ≠ i → listed.getD j true = false → (∀ e ∈ oj.after, Region.binds .any e = true → e.on ≠ i) → oi.apart ops oj = true) →
      (∀ l' w', Reach ops i listed l' → S (l'.setIfInBounds i true) w' → C w' ∧ S l' w') →
      i ∈ Region.ready .any ops listed → YI P ops C oi v a → C w → S listed w →
      (S (listed.setIfInBounds i true) w ∧ wAH r P ops K S fuel (listed.setIfInBounds i true) (a.put oi.dst v) w) → wAH r P ops K S (fuel + 1) listed a w := by
  intro fuel
  induction fuel with
  | zero =>
    intro listed a w _ hS hr hy hC hSl H
    refine ⟨fun h => (by rw [h] at hr; cases hr), fun j hj => ?_⟩
    by_cases hji : j = i
    · subst hji; exact hy.wOp hi hC H
    · have := ready_mono hj hji
      rw [H.2.1] at this
      cases this
  | succ fuel ih =>
    intro listed a w hfree hS hr hy hC hSl H
    refine ⟨fun h => (by rw [h] at hr; cases hr), fun j hj => ?_⟩
    by_cases hji : j = i
    · subst hji; exact hy.wOp hi hC H
    · have h1 := H.2.2 j (ready_mono hj hji)
      obtain ⟨hjun, oj, hoj, hall⟩ := mem_ready.1 hj
      have hnot : ∀ e ∈ oj.after, Region.binds .any e = true → e.on ≠ i := fun e he hb heq => by
        have h1 := hall e he hb
        have h0 := (mem_ready.1 hr).1
        rw [heq] at h1
        rcases Nat.lt_or_ge i listed.size with h' | h'
        · simp [h'] at h0 h1; rw [h0] at h1; cases h1
        · simp [Array.getElem?_eq_none h'] at h1
      have h2 := wOp_put hoj (hfree j oj hoj hji hjun hnot) (noDefer_spec hnd j oj hoj) (fun cs b => hsel i oi cs b hi) (fun cs b => hsel j oj cs b hoj) (fun _ _ _ h => h.elim) hy h1
      have hfree' : ∀ k ok, ops[k]? = some ok → k ≠ i → (listed.setIfInBounds j true).getD k true = false →
          (∀ e ∈ ok.after, Region.binds .any e = true → e.on ≠ i) → oi.apart ops ok = true := fun k ok hk hki hun hno => by
        refine hfree k ok hk hki ?_ hno
        by_cases hjk : j = k
        · subst hjk; exact hjun
        · rw [getD_set_ne true hjk] at hun; exact hun
      refine wpOpIn_mono (fun a' w' h3 => ?_) h2
      obtain ⟨h3a, h3b, h3c⟩ := h3
      rw [Array.setIfInBounds_comm _ _ (Ne.symm hji)] at h3b h3c
      obtain ⟨hC', hS'⟩ := hS _ w' (.step .refl hj hji) h3b
      exact ⟨hS', ih (listed.setIfInBounds j true) a' w' hfree' (fun l' w'' hre => hS l' w'' (Reach.from_step hj hji hre)) (ready_mono hr (Ne.symm hji)) h3a hC' hS' ⟨h3b, h3c⟩⟩

/-! ### One order, checked by a Bool -/
/-- All that can come up without i. -/
def closeB (ops : Array Oper) (i : Nat) : Nat → Array Bool → Array Bool
  | 0, l => l
  | k + 1, l => closeB ops i k ((Region.ready .any ops l).foldl (fun l j => bif Nat.beq j i then l else l.setIfInBounds j true) l)
def badB (late : List Nat) (l : Array Bool) : Bool := late.any fun s => l.getD s false
/-- tags: 0: yields in every world; 1: yields in every world that is known so; 2: it is the one that can come, and it leaves what is known; 3: the same, and nothing of memory is read behind it. -/
def drawB (ops : Array Oper) (late : List Nat) : List (Nat × Nat) → Array Bool → Bool
  | [], l => (Region.ready .any ops l).isEmpty
  | (i, t) :: rest, l =>
    (match t with
     | 0 => (Region.ready .any ops l).contains i && Region.free .any ops l i && !late.contains i
     | 1 => (Region.ready .any ops l).contains i && Region.free .any ops l i && !late.contains i &&
        (let c := closeB ops i ops.size l; ((Region.ready .any ops c).all fun j => Nat.beq j i) && !badB late c && !c.getD i false && (List.range ops.size).all fun j => !l.getD j false || c.getD j false)
     | 2 => Region.ready .any ops l == [i] && !late.contains i
     | _ => Region.ready .any ops l == [i] && late.contains i) && drawB ops late rest (l.setIfInBounds i true)
def drawOK (ops : Array Oper) (late : List Nat) (ord : List (Nat × Nat)) : Bool :=
  Region.noSelect ops && noDefer ops && Nat.beq ord.length ops.size && drawB ops late ord (Array.replicate ops.size false)
/-- What is to be shown along the one order. -/
def DW (r : Option Nat) (P : Program) (ops : Array Oper) (K : Act → World → Prop) (C : World → Prop) : List (Nat × Nat) → Act → World → Prop
  | [], a, w => K a w
  | (i, 0) :: rest, a, w => ∃ o v, ops[i]? = some o ∧ YI P ops (fun _ => True) o v a ∧ DW r P ops K C rest (a.put o.dst v) w
  | (i, 1) :: rest, a, w => C w ∧ ∃ o v, ops[i]? = some o ∧ YI P ops C o v a ∧ DW r P ops K C rest (a.put o.dst v) w
  | (i, 2) :: rest, a, w => ∃ o, ops[i]? = some o ∧ WL r P ops (Qn fun a' w' => C w' ∧ DW r P ops K C rest a' w') [o] a w
  | (i, _) :: rest, a, w => ∃ o, ops[i]? = some o ∧ WL r P ops (Qn fun a' w' => DW r P ops K C rest a' w') [o] a w
theorem getD_set_or {l : Array Bool} {j k : Nat} (hk : (l.setIfInBounds j true).getD k false = true) : k = j ∨ l.getD k false = true := by
  by_cases h : j = k
  · exact .inl h.symm
  · rw [getD_set_ne false h] at hk; exact .inr hk
theorem reach_sub {i : Nat} {l l' c : Array Bool} (h : Reach ops i l l') (hsub : ∀ j, l.getD j false = true → c.getD j false = true) (hcl : ∀ j ∈ Region.ready .any ops c, j = i) (hsz : c.size = ops.size) :
    ∀ j, l'.getD j false = true → c.getD j false = true := by
  induction h with
  | refl => exact hsub
  | @step l' j hre hj hne ih =>
    intro k hk
    rcases getD_set_or hk with rfl | hk
    · obtain ⟨_, o, ho, hall⟩ := mem_ready.1 hj
      by_cases hc : c.getD k false = true
      · exact hc
      · exfalso
        refine hne (hcl k (mem_ready.2 ⟨?_, o, ho, fun e he hb => ih _ (hall e he hb)⟩))
        have hlt : k < c.size := by rw [hsz]; exact (Array.getElem?_eq_some_iff.1 ho).1
        simp [hlt] at hc ⊢
        exact hc
    · exact ih k hk
theorem closeB_size (i : Nat) : ∀ (k : Nat) (l : Array Bool), (closeB ops i k l).size = l.size
  | 0, l => rfl
  | k + 1, l => by
    unfold closeB
    rw [closeB_size i k]
    have : ∀ (xs : List Nat) (l : Array Bool), (xs.foldl (fun l j => bif Nat.beq j i then l else l.setIfInBounds j true) l).size = l.size := by
      intro xs
      induction xs with
      | nil => intro l; rfl
      | cons x xs ih =>
        intro l
        rw [List.foldl_cons, ih]
        cases Nat.beq x i <;> simp
    exact this _ l
theorem badB_set {late : List Nat} {l : Array Bool} {i : Nat} (hl : late.contains i = false) (h : badB late (l.setIfInBounds i true) = false) : badB late l = false := by
  unfold badB at *
  rw [List.any_eq_false] at *
  intro s hs
  have h1 := h s hs
  by_cases e : i = s
  · subst e; rw [List.contains_iff_mem.2 hs] at hl; cases hl
  · rw [getD_set_ne false e] at h1; exact h1
theorem badB_set' {late : List Nat} {l : Array Bool} {i : Nat} (hl : late.contains i = false) (h : badB late l = false) : badB late (l.setIfInBounds i true) = false := by
  unfold badB at *
  rw [List.any_eq_false] at *
  intro s hs
  have h1 := h s hs
  by_cases e : i = s
  · subst e; rw [List.contains_iff_mem.2 hs] at hl; cases hl
  · rw [getD_set_ne false e]; exact h1
theorem wl_one {i : Nat} {o : Oper} {K' : Act → World → Prop} {a : Act} (ho : ops[i]? = some o) (h : WL r P ops (Qn K') [o] a w) : wOp r P ops (Qn K) i K' a w := by
  unfold wOp wpOpIn
  simp only [ho]
  unfold WL at h
  simp only [wpListIn] at h
  split
  · rename_i hw
    rw [if_pos hw] at h
    have : ∀ {o : Oper} {a : Act} {w : World}, o.wpIn (FW r) 0 P a w (fun a w => Qn K' .normal a w) (Qn K') → o.wpIn (FW r) 0 P a w K' (Qn K) := by
      intro o a w h
      unfold Oper.wpIn at *
      refine ⟨h.1, ?_⟩
      have h := h.2
      generalize (Oper.semAt _ _ _).run P w = res at *
      cases res with
      | ok x w' =>
        cases x <;> simp only [Oper.uponIn] at h ⊢
        case enter f args => exact ⟨h.1, CallsIn.mono h.2 fun e w'' he => by cases e <;> first | exact he | exact he.elim | (obtain ⟨_, _, he⟩ := he; exact he.elim)⟩
        case round l f tmps assign body => exact ⟨h.1, RoundIn.mono h.2 fun e w'' he => by cases e <;> first | exact he | exact he.elim | (obtain ⟨_, _, he⟩ := he; exact he.elim)⟩
        all_goals exact h
      | halt x w' => cases x <;> simp only [Oper.uponIn] at h ⊢; exact h
    exact this h
  · rename_i hw
    rw [if_neg hw] at h
    exact ⟨fun _ _ => trivial, h.2⟩
theorem wAH_of_DW {C : World → Prop} {late : List Nat} (hns : Region.noSelect ops = true) (hnd : noDefer ops = true) : ∀ (ord : List (Nat × Nat)) (l : Array Bool) (a : Act) (w : World), l.size = ops.size → drawB ops late ord l = true →
    (badB late l = false → C w) → DW r P ops K C ord a w → wAH r P ops K (fun l w => badB late l = false → C w) ord.length l a w
  | [], l, a, w, _, hB, _, h => ⟨by simpa [drawB] using hB, h⟩
  | (i, t) :: rest, l, a, w, hsz, hB, hC, h => by
    simp only [drawB, Bool.and_eq_true] at hB
    obtain ⟨hB1, hB2⟩ := hB
    have hsz' : (l.setIfInBounds i true).size = ops.size := by simpa using hsz
    have ih := wAH_of_DW (C := C) (late := late) hns hnd rest (l.setIfInBounds i true)
    match t, hB1, h with
    | 0, hB1, h =>
      simp only [Bool.and_eq_true, Bool.not_eq_true'] at hB1
      obtain ⟨o, v, ho, hy, hd⟩ := h
      refine wAH_first (C := fun _ => True) ho (Region.noSelect_spec hns) hnd rest.length l a w (Region.free_spec ho hB1.1.2) ?_ (by simpa using hB1.1.1) hy trivial hC ⟨?_, ih _ w hsz' hB2 ?_ hd⟩
      · exact fun l' w' _ hS => ⟨trivial, fun hb => hS (badB_set' hB1.2 hb)⟩
      · exact fun hb => hC (badB_set hB1.2 hb)
      · exact fun hb => hC (badB_set hB1.2 hb)
    | 1, hB1, h =>
      simp only [Bool.and_eq_true, Bool.not_eq_true'] at hB1
      obtain ⟨⟨⟨h1, h2⟩, h3⟩, ⟨⟨⟨h4, h5⟩, h6⟩, h7⟩⟩ := hB1
      obtain ⟨hCw, o, v, ho, hy, hd⟩ := h
      refine wAH_first (C := C) ho (Region.noSelect_spec hns) hnd rest.length l a w (Region.free_spec ho h2) ?_ (by simpa using h1) hy hCw hC ⟨fun _ => hCw, ih _ w hsz' hB2 (fun _ => hCw) hd⟩
      intro l' w' hre hS
      have hsub := reach_sub (c := closeB ops i ops.size l) hre (fun j hj => ?_) (fun j hj => ?_) (by rw [closeB_size, hsz])
      · have hb : badB late l' = false := by
          unfold badB at h5 ⊢
          rw [List.any_eq_false] at *
          intro s hs hs'
          exact h5 s hs (hsub s hs')
        have := hS (badB_set' h3 hb)
        exact ⟨this, fun _ => this⟩
      · rw [List.all_eq_true] at h7
        have hlt : j < ops.size := by
          rw [← hsz]
          rcases Nat.lt_or_ge j l.size with h' | h'
          · exact h'
          · simp [Array.getElem?_eq_none h'] at hj
        have := h7 j (List.mem_range.2 hlt)
        simp only [hj, Bool.not_true, Bool.false_or] at this
        exact this
      · rw [List.all_eq_true] at h4
        exact Nat.eq_of_beq_eq_true (h4 j hj)
    | 2, hB1, h =>
      simp only [Bool.and_eq_true, Bool.not_eq_true', beq_iff_eq] at hB1
      obtain ⟨o, ho, hw⟩ := h
      refine ⟨fun h0 => (by rw [hB1.1] at h0; cases h0), fun j hj => ?_⟩
      rw [hB1.1] at hj
      obtain rfl : j = i := by simpa using hj
      refine wpOpIn_mono (fun a' w' h' => ⟨fun _ => h'.1, ih a' w' hsz' hB2 (fun _ => h'.1) h'.2⟩) (wl_one (K := K) ho hw)
    | t + 3, hB1, h =>
      simp only [Bool.and_eq_true, beq_iff_eq] at hB1
      obtain ⟨o, ho, hw⟩ := h
      refine ⟨fun h0 => (by rw [hB1.1] at h0; cases h0), fun j hj => ?_⟩
      rw [hB1.1] at hj
      obtain rfl : j = i := by simpa using hj
      have hbad : badB late (l.setIfInBounds j true) = true := by
        unfold badB
        rw [List.any_eq_true]
        refine ⟨j, List.contains_iff_mem.1 hB1.2, ?_⟩
        have hlt : j < l.size := by rw [hsz]; exact (Array.getElem?_eq_some_iff.1 ho).1
        simp [hlt]
      refine wpOpIn_mono (fun a' w' h' => ⟨fun hb => (by rw [hbad] at hb; cases hb), ih a' w' hsz' hB2 (fun hb => (by rw [hbad] at hb; cases hb)) h'⟩) (wl_one (K := K) ho hw)
/-- A region that draws its order: one order is walked. -/
theorem w_draw {id : Nat} {l : List Oper} {Q : Exit → Act → World → Prop} (late : List Nat) (ord : List (Nat × Nat)) (hm : P.follows .mixedOrders = true) (hB : drawOK l.toArray late ord = true) (hst : St w0 w L)
    (h : ∀ w', St w0 w' L → DW r P l.toArray (fun a w => Q .normal a w) (fun w => St w0 w L) ord (A n ρ ds) w') : WC r P (.region id l.toArray true) Q (A n ρ ds) w := by
  unfold drawOK at hB
  simp only [Bool.and_eq_true] at hB
  obtain ⟨⟨⟨h1, h2⟩, h3⟩, h4⟩ := hB
  have hst' := hst.drew
  have hsz : ord.length = l.toArray.size := Nat.eq_of_beq_eq_true h3
  have := wAH_of_DW h1 h2 ord (Array.replicate l.toArray.size false) (A n ρ ds) _ (by simp) h4 (fun _ => hst') (h _ hst')
  have hany := wAny_of_wAH _ _ _ _ this
  rw [hsz] at hany
  refine wpIn_mono (wpIn_region_any hm hany) ?_
  intro e a w hq
  cases e <;> first | exact hq | exact hq.elim
theorem d_nil {C : World → Prop} {a : Act} (h : K a w) : DW r P ops K C [] a w := h
/-- Taken first, in whatever world. -/
theorem d_any {C : World → Prop} {i d : Nat} {op : Op} {t : TypeId} {p : String} {e : Array Edge} {g : Option (Nat × Bool)} {v : Value} {rest : List (Nat × Nat)} (ho : ops[i]? = some ⟨some d, op, t, p, e, g⟩) (hw : Want ops (A n ρ ds) ⟨some d, op, t, p, e, g⟩)
    (hd : isDefer op = false) (hy : ∀ w, Yd P (A n ρ ds) ⟨some d, op, t, p, e, g⟩ w v) (h : DW r P ops K C rest (A n (upd ρ d v) ds) w) : DW r P ops K C ((i, 0) :: rest) (A n ρ ds) w :=
  ⟨_, v, ho, .inl ⟨hw, hd, fun w _ => hy w⟩, by rw [A_put]; exact h⟩
theorem d_take {i d : Nat} {op : Op} {t : TypeId} {p : String} {e : Array Edge} {g : Option (Nat × Bool)} {v : Value} {rest : List (Nat × Nat)} (ho : ops[i]? = some ⟨some d, op, t, p, e, g⟩) (hw : Want ops (A n ρ ds) ⟨some d, op, t, p, e, g⟩)
    (hd : isDefer op = false) (hst : St w0 w L) (hy : ∀ w, St w0 w L → Yd P (A n ρ ds) ⟨some d, op, t, p, e, g⟩ w v) (h : DW r P ops K (fun w => St w0 w L) rest (A n (upd ρ d v) ds) w) :
    DW r P ops K (fun w => St w0 w L) ((i, 1) :: rest) (A n ρ ds) w :=
  ⟨hst, _, v, ho, .inl ⟨hw, hd, hy⟩, by rw [A_put]; exact h⟩
/-- Passed over. -/
theorem d_skip {C : World → Prop} {i d j s : Nat} {b : Bool} {op : Op} {t : TypeId} {p : String} {e : Array Edge} {rest : List (Nat × Nat)} (ho : ops[i]? = some ⟨some d, op, t, p, e, some (j, b)⟩) (hj : (ops[j]?).bind (·.dst) = some s) (hs : Nat.blt s n = true) (hv : ρ s = .bool (!b))
    (h : DW r P ops K C rest (A n (upd ρ d undef) ds) w) : DW r P ops K C ((i, 0) :: rest) (A n ρ ds) w := by
  refine ⟨_, undef, ho, .inr ⟨?_, rfl⟩, by rw [A_put]; exact h⟩
  simp only [Region.wanted, yielded_A hj hs hv]; cases b <;> rfl
theorem d_skip1 {i d j s : Nat} {b : Bool} {op : Op} {t : TypeId} {p : String} {e : Array Edge} {rest : List (Nat × Nat)} (ho : ops[i]? = some ⟨some d, op, t, p, e, some (j, b)⟩) (hj : (ops[j]?).bind (·.dst) = some s) (hs : Nat.blt s n = true) (hv : ρ s = .bool (!b)) (hst : St w0 w L)
    (h : DW r P ops K (fun w => St w0 w L) rest (A n (upd ρ d undef) ds) w) : DW r P ops K (fun w => St w0 w L) ((i, 1) :: rest) (A n ρ ds) w := by
  refine ⟨hst, _, undef, ho, .inr ⟨?_, rfl⟩, by rw [A_put]; exact h⟩
  simp only [Region.wanted, yielded_A hj hs hv]; cases b <;> rfl
theorem wanted_undef {d j s : Nat} {b : Bool} {op : Op} {t : TypeId} {p : String} {e : Array Edge} (hj : (ops[j]?).bind (·.dst) = some s) (hs : Nat.blt s n = true) (hv : ρ s = undef) :
    Region.wanted ⟨some d, op, t, p, e, some (j, b)⟩ (yielded ops (A n ρ ds).tmps) = false := by
  have hy : yielded ops (A n ρ ds).tmps j = none := by
    have h' : s < n := Nat.le_of_ble_eq_true hs
    unfold yielded
    rw [hj]
    simp only [Option.bind_some]
    rw [show (A n ρ ds).tmps = fa n ρ from rfl, fa_get, if_pos h', hv]
    rfl
  simp only [Region.wanted, hy]; cases b <;> rfl
theorem d_skip' {C : World → Prop} {i d j s : Nat} {b : Bool} {op : Op} {t : TypeId} {p : String} {e : Array Edge} {rest : List (Nat × Nat)} (ho : ops[i]? = some ⟨some d, op, t, p, e, some (j, b)⟩) (hj : (ops[j]?).bind (·.dst) = some s) (hs : Nat.blt s n = true) (hv : ρ s = undef)
    (h : DW r P ops K C rest (A n (upd ρ d undef) ds) w) : DW r P ops K C ((i, 0) :: rest) (A n ρ ds) w := ⟨_, undef, ho, .inr ⟨wanted_undef hj hs hv, rfl⟩, by rw [A_put]; exact h⟩
theorem d_skip1' {i d j s : Nat} {b : Bool} {op : Op} {t : TypeId} {p : String} {e : Array Edge} {rest : List (Nat × Nat)} (ho : ops[i]? = some ⟨some d, op, t, p, e, some (j, b)⟩) (hj : (ops[j]?).bind (·.dst) = some s) (hs : Nat.blt s n = true) (hv : ρ s = undef) (hst : St w0 w L)
    (h : DW r P ops K (fun w => St w0 w L) rest (A n (upd ρ d undef) ds) w) : DW r P ops K (fun w => St w0 w L) ((i, 1) :: rest) (A n ρ ds) w := ⟨hst, _, undef, ho, .inr ⟨wanted_undef hj hs hv, rfl⟩, by rw [A_put]; exact h⟩
theorem d_eff {C : World → Prop} {i : Nat} {o : Oper} {a : Act} {rest : List (Nat × Nat)} (ho : ops[i]? = some o) (h : WL r P ops (Qn fun a' w' => C w' ∧ DW r P ops K C rest a' w') [o] a w) : DW r P ops K C ((i, 2) :: rest) a w := ⟨o, ho, h⟩
theorem d_late {C : World → Prop} {i : Nat} {o : Oper} {a : Act} {rest : List (Nat × Nat)} (ho : ops[i]? = some o) (h : WL r P ops (Qn fun a' w' => DW r P ops K C rest a' w') [o] a w) : DW r P ops K C ((i, 3) :: rest) a w := ⟨o, ho, h⟩
theorem d_split {C : World → Prop} {d : Nat} {t : Bool} {l : List (Nat × Nat)} {ρ : Nat → Value} (ht : t = true → DW r P ops K C l (A n (upd ρ d (.bool true)) ds) w) (hf : t = false → DW r P ops K C l (A n (upd ρ d (.bool false)) ds) w) :
    DW r P ops K C l (A n (upd ρ d (.bool t)) ds) w := by
  cases t
  · exact hf rfl
  · exact ht rfl
theorem qn {a : Act} (h : K a w) : Qn K .normal a w := h
end Go.Rt
