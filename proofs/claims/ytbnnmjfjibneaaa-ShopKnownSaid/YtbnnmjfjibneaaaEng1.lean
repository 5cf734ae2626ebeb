/- The walking engine, part 1: frames as functions, regions, worlds as lists of known blocks. Plain theorems over the kit's fenced calculus at the wide fence. No conditions. -/
import Derived.WalkKit
import Derived.OrdersIn
import Derived.RangeFuncRecord
import Derived.RangeFuncCalls
import Derived.RangeFuncIn
import Derived.WalkSpells
import Derived.WalkLawsBesides
set_option linter.unusedSimpArgs false
set_option linter.unusedVariables false
namespace Go.Rt
open Go.RowKit

/-- The wide fence, in a round or not. -/
abbrev FW (r : Option Nat) : Fence := { fn := fun _ => True, depth := none, alive := false, round := r }

/-! ### Frames -/
def upd (ρ : Nat → Value) (d : Nat) (v : Value) : Nat → Value := fun j => bif Nat.beq j d then v else ρ j
def updO (ρ : Nat → Value) : Option Nat → Value → Nat → Value
  | some d, v => upd ρ d v
  | none, _ => ρ
def fa (n : Nat) (ρ : Nat → Value) : Array Value := Array.ofFn (n := n) (fun i => ρ i)
def A (n : Nat) (ρ : Nat → Value) (ds : List Deferred) : Act := ⟨fa n ρ, ds⟩
def ev (ρ : Nat → Value) : Operand → Value
  | .tmp t => ρ t
  | .const v => v
  | .global g => .pointer (some ⟨g, 0, none⟩)
  | .func f => .func (.func f) #[] #[]
def okO (n : Nat) : Operand → Bool
  | .tmp t => Nat.blt t n
  | _ => true
theorem fa_get (n : Nat) (ρ : Nat → Value) (t : Nat) : (fa n ρ)[t]? = if t < n then some (ρ t) else none := by
  simp [fa, Array.getElem?_ofFn]
theorem fa_getD {n : Nat} {ρ : Nat → Value} {t : Nat} (h : t < n) : (fa n ρ).getD t undef = ρ t := by
  simp [fa, Array.getD, h]
theorem ev_eq {n : Nat} {ρ : Nat → Value} {ds : List Deferred} {x : Operand} (h : okO n x = true) : (A n ρ ds).eval x = ev ρ x := by
  cases x with
  | tmp t =>
    have h' : t < n := Nat.le_of_ble_eq_true h
    exact fa_getD h'
  | _ => rfl
theorem upd_same (ρ : Nat → Value) (d : Nat) (v : Value) : upd ρ d v d = v := by simp [upd]
theorem upd_ne {ρ : Nat → Value} {d j : Nat} {v : Value} (h : j ≠ d) : upd ρ d v j = ρ j := by
  have : Nat.beq j d = false := by
    cases hb : Nat.beq j d
    · rfl
    · exact absurd (Nat.eq_of_beq_eq_true hb) h
  simp [upd, this]
theorem fa_put (n : Nat) (ρ : Nat → Value) (d : Nat) (v : Value) : (fa n ρ).setIfInBounds d v = fa n (upd ρ d v) := by
  apply Array.ext_getElem?
  intro i
  rw [Array.getElem?_setIfInBounds, fa_get, fa_get]
  by_cases h : d = i
  · subst h
    simp only [if_true, upd_same]
    simp [fa]
  · rw [if_neg h, upd_ne (fun e => h e.symm)]
theorem A_put (n : Nat) (ρ : Nat → Value) (ds : List Deferred) (d : Option Nat) (v : Value) : (A n ρ ds).put d v = A n (updO ρ d v) ds := by
  cases d with
  | none => rfl
  | some d => show (⟨(fa n ρ).setIfInBounds d v, ds⟩ : Act) = _; rw [fa_put]; rfl
/-- What a call's frame holds at first. -/
def args0 (l : List Value) : Nat → Value := fun i => l.getD i undef
theorem A_args (n : Nat) (l : List Value) (h : l.length ≤ n) : l.toArray ++ Array.replicate (n - l.toArray.size) undef = fa n (args0 l) := by
  apply Array.ext_getElem?
  intro i
  rw [fa_get, Array.getElem?_append]
  simp only [List.size_toArray, List.getElem?_toArray, Array.getElem?_replicate, args0, List.getD]
  by_cases h1 : i < l.length
  · rw [if_pos h1, if_pos (by omega)]; simp [h1]
  · rw [if_neg h1]
    by_cases h2 : i < n
    · rw [if_pos (by omega), if_pos h2]; simp [List.getElem?_eq_none (by omega : l.length ≤ i)]
    · rw [if_neg (by omega), if_neg h2]

/-! ### Regions -/
def WL (r : Option Nat) (P : Program) (ops : Array Oper) (Q : Exit → Act → World → Prop) (l : List Oper) (a : Act) (w : World) : Prop := wpListIn (FW r) 0 P ops Q l a w
def WC (r : Option Nat) (P : Program) (c : Code) (Q : Exit → Act → World → Prop) (a : Act) (w : World) : Prop := c.wpIn (FW r) 0 P Q a w
variable {r : Option Nat} {P : Program} {ops : Array Oper} {Q : Exit → Act → World → Prop} {rest : List Oper} {n : Nat} {ρ : Nat → Value} {ds : List Deferred} {w : World}

theorem w_region {id : Nat} {l : List Oper} {a : Act} (h : WL r P l.toArray Q l a w) : WC r P (.region id l.toArray false) Q a w := wpIn_region_lit h
theorem w_nil {a : Act} (h : Q .normal a w) : WL r P ops Q [] a w := h
theorem w_seq {x y : Code} {a : Act} (h : ∀ K : Act → World → Prop, (∀ a w, WC r P y Q a w → K a w) → WC r P x (Exit.then K Q) a w) : WC r P (.seq x y) Q a w := wpIn_seq_k h
theorem w_seq' {x y : Code} {a : Act} (h : WC r P x (Exit.then (WC r P y Q) Q) a w) : WC r P (.seq x y) Q a w := wpIn_seq h
theorem w_skip {a : Act} (h : Q .normal a w) : WC r P .skip Q a w := wpIn_skip h
theorem w_label {l : Nat} {a : Act} (h : Q .normal a w) : WC r P (.label l) Q a w := wpIn_label h
theorem w_ret {a : Act} (h : Q .ret a w) : WC r P .ret Q a w := wpIn_ret h
theorem w_exit {id : Nat} {a : Act} (h : Q (.exit id) a w) : WC r P (.exit id) Q a w := wpIn_exit h
theorem w_block {id : Nat} {c : Code} {a : Act} (h : WC r P c (Exit.inBlock id Q) a w) : WC r P (.block id c) Q a w := wpIn_block h
theorem w_cond {c : Operand} {x y : Code} {t : Bool} (ho : okO n c = true) (hc : ev ρ c = .bool t) (ht : t = true → WC r P x Q (A n ρ ds) w) (hf : t = false → WC r P y Q (A n ρ ds) w) :
    WC r P (.cond c x y) Q (A n ρ ds) w := wpIn_cond_split (by rw [ev_eq ho]; exact hc) ht hf
theorem w_condT {c : Operand} {x y : Code} (ho : okO n c = true) (hc : ev ρ c = .bool true) (h : WC r P x Q (A n ρ ds) w) :
    WC r P (.cond c x y) Q (A n ρ ds) w := wpIn_cond_true (by rw [ev_eq ho]; exact hc) h
theorem w_condF {c : Operand} {x y : Code} (ho : okO n c = true) (hc : ev ρ c = .bool false) (h : WC r P y Q (A n ρ ds) w) :
    WC r P (.cond c x y) Q (A n ρ ds) w := wpIn_cond_false (by rw [ev_eq ho]; exact hc) h
theorem w_mono {c : Code} {Q' : Exit → Act → World → Prop} {a : Act} (h : WC r P c Q a w) (hq : ∀ e a w, Q e a w → Q' e a w) : WC r P c Q' a w := wpIn_mono h hq

/-! ### Where the ways out go -/
theorem q_then {K : Act → World → Prop} {a : Act} (h : K a w) : Exit.then K Q .normal a w := h
theorem q_then_exit {K : Act → World → Prop} {a : Act} {id : Nat} (h : Q (.exit id) a w) : Exit.then K Q (.exit id) a w := h
theorem q_then_ret {K : Act → World → Prop} {a : Act} (h : Q .ret a w) : Exit.then K Q .ret a w := h
theorem q_blk_normal {a : Act} {id : Nat} (h : Q .normal a w) : Exit.inBlock id Q .normal a w := h
theorem q_blk_ret {a : Act} {id : Nat} (h : Q .ret a w) : Exit.inBlock id Q .ret a w := h
theorem q_blk_this {a : Act} {id : Nat} (h : Q .normal a w) : Exit.inBlock id Q (.exit id) a w := by simpa [Exit.inBlock] using h
theorem q_blk_other {a : Act} {id id' : Nat} (hne : Nat.beq id' id = false) (h : Q (.exit id') a w) : Exit.inBlock id Q (.exit id') a w := by
  have : id' ≠ id := fun e => by subst e; simp at hne
  simpa [Exit.inBlock, this] using h

/-! ### Operations -/
/-- The operation, in this frame and world, yields v and leaves the world alone. -/
def Yd (P : Program) (a : Act) (o : Oper) (w : World) (v : Value) : Prop := (execOp a.eval o).run P w = .ok (.value v) w
def Want (ops : Array Oper) (a : Act) (o : Oper) : Prop := Region.wanted o (yielded ops a.tmps) = true
theorem want_none {a : Act} {d : Option Tmp} {op : Op} {t : TypeId} {p : String} {e : Array Edge} : Want ops a ⟨d, op, t, p, e, none⟩ := rfl
theorem yielded_A {s j : Nat} {b : Bool} (hj : (ops[j]?).bind (·.dst) = some s) (hs : Nat.blt s n = true) (hv : ρ s = .bool b) : yielded ops (A n ρ ds).tmps j = some b := by
  have h' : s < n := Nat.le_of_ble_eq_true hs
  unfold yielded
  rw [hj]
  simp only [Option.bind_some]
  rw [show (A n ρ ds).tmps = fa n ρ from rfl, fa_get, if_pos h', hv]
theorem want_yes {d : Option Tmp} {op : Op} {t : TypeId} {p : String} {e : Array Edge} {j s : Nat} {b : Bool} (hj : (ops[j]?).bind (·.dst) = some s) (hs : Nat.blt s n = true) (hv : ρ s = .bool b) :
    Want ops (A n ρ ds) ⟨d, op, t, p, e, some (j, b)⟩ := by
  simp [Want, Region.wanted, yielded_A hj hs hv]
theorem w_skipop {d : Nat} {op : Op} {t : TypeId} {p : String} {e : Array Edge} {j s : Nat} {b : Bool} (hj : (ops[j]?).bind (·.dst) = some s) (hs : Nat.blt s n = true) (hv : ρ s = .bool (!b))
    (hk : WL r P ops Q rest (A n (upd ρ d undef) ds) w) : WL r P ops Q (⟨some d, op, t, p, e, some (j, b)⟩ :: rest) (A n ρ ds) w := by
  have : Region.wanted ⟨some d, op, t, p, e, some (j, b)⟩ (yielded ops (A n ρ ds).tmps) = false := by
    simp only [Region.wanted, yielded_A hj hs hv]; cases b <;> rfl
  unfold WL wpListIn
  simp only [this, Bool.false_eq_true, if_false]
  refine ⟨fun _ _ => trivial, ?_⟩
  rw [A_put]
  exact hk
/-- The same where what is asked was itself passed over. -/
theorem w_skipop' {d : Nat} {op : Op} {t : TypeId} {p : String} {e : Array Edge} {j s : Nat} {b : Bool} (hj : (ops[j]?).bind (·.dst) = some s) (hs : Nat.blt s n = true) (hv : ρ s = undef)
    (hk : WL r P ops Q rest (A n (upd ρ d undef) ds) w) : WL r P ops Q (⟨some d, op, t, p, e, some (j, b)⟩ :: rest) (A n ρ ds) w := by
  have hy : yielded ops (A n ρ ds).tmps j = none := by
    have h' : s < n := Nat.le_of_ble_eq_true hs
    unfold yielded
    rw [hj]
    simp only [Option.bind_some]
    rw [show (A n ρ ds).tmps = fa n ρ from rfl, fa_get, if_pos h', hv]
    rfl
  have : Region.wanted ⟨some d, op, t, p, e, some (j, b)⟩ (yielded ops (A n ρ ds).tmps) = false := by
    simp only [Region.wanted, hy]; cases b <;> rfl
  unfold WL wpListIn
  simp only [this, Bool.false_eq_true, if_false]
  refine ⟨fun _ _ => trivial, ?_⟩
  rw [A_put]
  exact hk
def isDefer : Op → Bool
  | .defer _ => true
  | _ => false
theorem semAt_of {ro : Option Nat} {ρ' : Operand → Value} {o : Oper} (h : isDefer o.op = false) : Oper.semAt ro ρ' o = execOp ρ' o :=
  Oper.semAt_eq ro ρ' o fun c hc => by rw [hc] at h; exact absurd h (by simp [isDefer])
theorem wl_want {o : Oper} {a : Act} (hw : Want ops a o) (h : o.wpIn (FW r) 0 P a w (wpListIn (FW r) 0 P ops Q rest) Q) : WL r P ops Q (o :: rest) a w := by
  unfold WL wpListIn
  rw [if_pos (show Region.wanted o (yielded ops a.tmps) = true from hw)]
  exact h
/-- One operation that yields a value. -/
theorem w_pure {d : Nat} {op : Op} {t : TypeId} {p : String} {e : Array Edge} {g : Option (Nat × Bool)} {v : Value} (hw : Want ops (A n ρ ds) ⟨some d, op, t, p, e, g⟩) (hy : Yd P (A n ρ ds) ⟨some d, op, t, p, e, g⟩ w v) (hd : isDefer op = false)
    (hk : WL r P ops Q rest (A n (upd ρ d v) ds) w) : WL r P ops Q (⟨some d, op, t, p, e, g⟩ :: rest) (A n ρ ds) w := by
  refine wl_want hw ⟨fun _ _ => trivial, ?_⟩
  rw [semAt_of hd, show (execOp (A n ρ ds).eval ⟨some d, op, t, p, e, g⟩).run P w = .ok (.value v) w from hy]
  show wpListIn _ _ _ _ _ _ ((A n ρ ds).put (some d) v) w
  rw [A_put]
  exact hk
/-- One operation that yields a value and leaves another world. -/
theorem w_val {d : Option Nat} {op : Op} {t : TypeId} {p : String} {e : Array Edge} {g : Option (Nat × Bool)} {v : Value} {w' : World} (hw : Want ops (A n ρ ds) ⟨d, op, t, p, e, g⟩) (hy : (execOp (A n ρ ds).eval ⟨d, op, t, p, e, g⟩).run P w = .ok (.value v) w') (hd : isDefer op = false)
    (hk : WL r P ops Q rest (A n (updO ρ d v) ds) w') : WL r P ops Q (⟨d, op, t, p, e, g⟩ :: rest) (A n ρ ds) w := by
  refine wl_want hw ⟨fun _ _ => trivial, ?_⟩
  rw [semAt_of hd, hy]
  show wpListIn _ _ _ _ _ _ ((A n ρ ds).put d v) w'
  rw [A_put]
  exact hk
theorem w_unit {o : Oper} {w' : World} (hw : Want ops (A n ρ ds) o) (hy : (execOp (A n ρ ds).eval o).run P w = .ok .skip w') (hd : isDefer o.op = false)
    (hk : WL r P ops Q rest (A n (updO ρ o.dst undef) ds) w') : WL r P ops Q (o :: rest) (A n ρ ds) w := by
  refine wl_want hw ⟨fun _ _ => trivial, ?_⟩
  rw [semAt_of hd, hy]
  show wpListIn _ _ _ _ _ _ ((A n ρ ds).put o.dst undef) w'
  rw [A_put]
  exact hk
/-- Part on a bool that a slot holds. -/
theorem w_split {d : Nat} {t : Bool} {l : List Oper} {ρ : Nat → Value} (ht : t = true → WL r P ops Q l (A n (upd ρ d (.bool true)) ds) w) (hf : t = false → WL r P ops Q l (A n (upd ρ d (.bool false)) ds) w) :
    WL r P ops Q l (A n (upd ρ d (.bool t)) ds) w := by
  cases t
  · exact hf rfl
  · exact ht rfl

/-! ### Calls -/
/-- A Go function's contract: called so in this world it returns a value; R of the value and the world. -/
def Con (P : Program) (k : FuncId) (args : List Value) (w : World) (R : Value → World → Prop) : Prop :=
  CallsIn (FW none) 0 P k args.toArray w fun e w' => ∃ v, e = .returned v ∧ R v w'
theorem Con.mono {k : FuncId} {args : List Value} {R R' : Value → World → Prop} (h : Con P k args w R) (hr : ∀ v w', R v w' → R' v w') : Con P k args w R' :=
  CallsIn.mono h fun _ w' ⟨v, he, hv⟩ => ⟨v, he, hr v w' hv⟩
theorem con_calls {k : FuncId} {args : List Value} {R : Value → World → Prop} (h : Con P k args w R) : Calls P k args.toArray w fun e w' => ∃ v, e = .returned v ∧ R v w' :=
  (callsIn_wide (n := 0)).1 h
/-- That function k is entered by a call. -/
def CF (P : Program) (k : FuncId) : Prop := ∀ args w, (callFunc k args).run P w = .ok (.enter k args) w
theorem w_callO {d : Option Tmp} {t : TypeId} {p : String} {e : Array Edge} {g : Option (Nat × Bool)} {f : Operand} {args : Array Operand} {ats : Array TypeId} {k : FuncId} {first captured : Array Value} {vs : List Value}
    {R : Value → World → Prop}
    (hw : Want ops (A n ρ ds) ⟨d, .call ⟨.value f, args, ats⟩, t, p, e, g⟩) (hC : CF P k) (hof : okO n f = true) (hf : ev ρ f = .func (.func k) first captured) (hoa : args.toList.all (okO n) = true)
    (hvs : first.toList ++ (args.toList.map (ev ρ) ++ captured.toList) = vs)
    (hc : Con P k vs w R) (hk : ∀ v w', R v w' → WL r P ops Q rest (A n (updO ρ d v) ds) w') :
    WL r P ops Q (⟨d, .call ⟨.value f, args, ats⟩, t, p, e, g⟩ :: rest) (A n ρ ds) w := by
  have hmap : args.map (A n ρ ds).eval = (args.toList.map (ev ρ)).toArray := by
    apply Array.ext'
    simp only [Array.toList_map]
    refine List.map_congr_left fun x hx => ev_eq ?_
    exact List.all_eq_true.1 hoa x hx
  have hrun : (execOp (A n ρ ds).eval ⟨d, .call ⟨.value f, args, ats⟩, t, p, e, g⟩).run P w = .ok (.enter k vs.toArray) w := by
    have hE : first ++ args.map (A n ρ ds).eval ++ captured = vs.toArray := by
      rw [hmap]; apply Array.ext'; simp [← hvs]
    simp only [execOp, resolve, ev_eq hof, hf, Deferred.ofValue, Sem.run_bind, Sem.run_pure, Result.andThen, invoke]
    rw [hE]
    exact hC _ _
  refine wl_want hw ⟨fun _ _ => trivial, ?_⟩
  rw [semAt_of rfl, hrun]
  refine ⟨fun h => by simp at h, ?_⟩
  refine CallsIn.mono (R := fun e w' => ∃ v, e = .returned v ∧ R v w') ?_ ?_
  · have h1 := hc
    unfold Con at h1
    cases r with
    | none => exact h1
    | some l => exact CallsIn.inRound l h1
  · rintro e w' ⟨v, rfl, hv⟩
    show wpListIn _ _ _ _ _ _ ((A n ρ ds).put d v) w'
    rw [A_put]
    exact hk v w' hv

theorem w_call {d : Nat} {t : TypeId} {p : String} {e : Array Edge} {g : Option (Nat × Bool)} {f : Operand} {args : Array Operand} {ats : Array TypeId} {k : FuncId} {first captured : Array Value} {vs : List Value}
    {R : Value → World → Prop}
    (hw : Want ops (A n ρ ds) ⟨some d, .call ⟨.value f, args, ats⟩, t, p, e, g⟩) (hC : CF P k) (hof : okO n f = true) (hf : ev ρ f = .func (.func k) first captured) (hoa : args.toList.all (okO n) = true)
    (hvs : first.toList ++ (args.toList.map (ev ρ) ++ captured.toList) = vs)
    (hc : Con P k vs w R) (hk : ∀ v w', R v w' → WL r P ops Q rest (A n (upd ρ d v) ds) w') :
    WL r P ops Q (⟨some d, .call ⟨.value f, args, ats⟩, t, p, e, g⟩ :: rest) (A n ρ ds) w := w_callO hw hC hof hf hoa hvs hc hk

/-! ### Entering and leaving a function -/
/-- What the results of a frame are. -/
def RV (P : Program) (ρ : Nat → Value) (n : Nat) (w : World) : ResultVar → Value → Prop
  | .tmp t, v => Nat.blt t n = true ∧ ρ t = v
  | .cell a t, v => Nat.blt a n = true ∧ ∃ ad, ρ a = .pointer (some ad) ∧ (loadVar t ad).run P w = .ok v w
def RVs (P : Program) (ρ : Nat → Value) (n : Nat) (w : World) : List ResultVar → List Value → Prop
  | [], [] => True
  | x :: l, v :: vs => RV P ρ n w x v ∧ RVs P ρ n w l vs
  | _, _ => False
theorem results_run : ∀ (l : List ResultVar) (vs : List Value), RVs P ρ n w l vs →
    (l.mapM (m := Sem) fun | .tmp t => pure ((fa n ρ).getD t undef) | .cell a t => do loadVar t (← asAddr ((fa n ρ).getD a undef))).run P w = .ok vs w
  | [], [], _ => by simp
  | x :: l, v :: vs, h => by
    obtain ⟨hx, hl⟩ := h
    have ih := results_run l vs hl
    rw [List.mapM_cons]
    cases x with
    | tmp t =>
      obtain ⟨h1, rfl⟩ := hx
      simp only [fa_getD (Nat.le_of_ble_eq_true h1), Sem.run_bind, Sem.run_pure, Result.andThen, ih]
    | cell a t =>
      obtain ⟨h1, ad, h2, h3⟩ := hx
      have e : (asAddr (Value.pointer (some ad)) : Sem Addr) = pure ad := rfl
      simp only [fa_getD (Nat.le_of_ble_eq_true h1), h2, e, Sem.run_bind, Sem.run_pure, Result.andThen, h3, ih]
  | [], _ :: _, h => h.elim
  | _ :: _, [], h => h.elim
/-- What a function hands back: one value, or a tuple. -/
def retV : List Value → Value
  | [v] => v
  | vs => .tuple vs.toArray
theorem results_A {fn : Func} {l : List ResultVar} {vs : List Value} (hl : fn.results = l.toArray) (h : RVs P ρ n w l vs) : (results fn (fa n ρ)).run P w = .ok (retV vs) w := by
  have h1 := results_run l vs h
  have key : (l.toArray.mapM (m := Sem) fun | .tmp t => pure ((fa n ρ).getD t undef) | .cell a t => do loadVar t (← asAddr ((fa n ρ).getD a undef))).run P w = .ok vs.toArray w := by
    rw [List.mapM_toArray]
    show (Sem.bind _ _).run P w = _
    show ((l.mapM (m := Sem) fun | .tmp t => pure ((fa n ρ).getD t undef) | .cell a t => do loadVar t (← asAddr ((fa n ρ).getD a undef))) >>= fun x => pure x.toArray).run P w = _
    rw [Sem.run_bind, h1]
    rfl
  unfold results
  rw [hl, Sem.run_bind]
  refine Eq.trans (congrArg (fun x => Result.andThen x _) key) ?_
  simp only [Result.andThen]
  match vs with
  | [] => rfl
  | [v] => rfl
  | v :: u :: t => simp [retV]
theorem con_of_wc {k : FuncId} {fn : Func} {c : Code} {args : List Value} {R : Value → World → Prop} (hf : P.funcs[k]? = some fn) (hb : fn.body = some c) (hn : fn.ntmps = n) (hle : args.length ≤ n)
    (h : WC none P c (bodyPost P fn fun e w' => ∃ v, e = .returned v ∧ R v w') (A n (args0 args) []) w) : Con P k args w R := by
  refine callsIn_of_wp (F := FW none) hf hb trivial ?_ rfl
  rw [hn, A_args n args hle]
  exact h
theorem q_ret {fn : Func} {l : List ResultVar} {vs : List Value} {R : Value → World → Prop} (hl : fn.results = l.toArray) (hr : RVs P ρ n w l vs) (h : R (retV vs) w) :
    bodyPost P fn (fun e w' => ∃ v, e = .returned v ∧ R v w') .ret (A n ρ []) w := ⟨rfl, _, results_A hl hr, _, rfl, h⟩
theorem q_end {fn : Func} {l : List ResultVar} {vs : List Value} {R : Value → World → Prop} (hl : fn.results = l.toArray) (hr : RVs P ρ n w l vs) (h : R (retV vs) w) :
    bodyPost P fn (fun e w' => ∃ v, e = .returned v ∧ R v w') .normal (A n ρ []) w := ⟨rfl, _, results_A hl hr, _, rfl, h⟩
end Go.Rt
