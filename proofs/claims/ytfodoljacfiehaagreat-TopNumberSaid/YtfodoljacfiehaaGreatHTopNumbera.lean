/- Own texts of this claim, joined. No conditions. -/
import Derived.WalkKit
import Derived.OrdersIn
import Derived.RangeFuncRecord
import Derived.RangeFuncCalls
import Derived.RangeFuncIn
import Derived.WalkSpells
import Derived.WalkLawsBesides
import Derived.Deep.LoopGhost
import Derived.ChangeKeysEq
import Derived.Laws.Cover3
import Derived.ProofKit
import Derived.Deep.Slices
import GoSem.Core.Value
/- The walking engine, part 1: frames as functions, regions, worlds as lists of known blocks. Plain theorems over the kit's fenced calculus at the wide fence. No conditions. -/
set_option linter.unusedSimpArgs false
set_option linter.unusedVariables false
namespace Go.Rt
open Go.RowKit

abbrev FW (r : Option Nat) : Fence := { fn := fun _ => True, depth := none, alive := false, round := r }

def upd (ρ : Nat → Value) (d : Nat) (v : Value) : Nat → Value := fun j => bif Nat.beq j d then v else ρ j
def updO (ρ : Nat → Value) : Option Nat → Value → Nat → Value
  | some d, v => upd ρ d v
  | none, _ => ρ
def fa (n : Nat) (ρ : Nat → Value) : Array Value := Array.ofFn (n := n) (fun i => ρ i)
def A (n : Nat) (ρ : Nat → Value) (ds : List Deferred) : Act := ⟨fa n ρ, ds⟩
def ev (ρ : Nat → Value) : Operand → Value
  | .tmp t => ρ t
  | .const v => v
  | .global g => .pointer (some ⟨g, 0, none⟩)
  | .func f => .func (.func f) #[] #[]
def okO (n : Nat) : Operand → Bool
  | .tmp t => Nat.blt t n
  | _ => true
theorem fa_get (n : Nat) (ρ : Nat → Value) (t : Nat) : (fa n ρ)[t]? = if t < n then some (ρ t) else none := by
  simp [fa, Array.getElem?_ofFn]
theorem fa_getD {n : Nat} {ρ : Nat → Value} {t : Nat} (h : t < n) : (fa n ρ).getD t undef = ρ t := by
  simp [fa, Array.getD, h]
theorem zB6 {n : Nat} {ρ : Nat → Value} {ds : List Deferred} {x : Operand} (h : okO n x = true) : (A n ρ ds).eval x = ev ρ x := by
  cases x with
  | tmp t =>
    have h' : t < n := Nat.le_of_ble_eq_true h
    exact fa_getD h'
  | _ => rfl
theorem upd_same (ρ : Nat → Value) (d : Nat) (v : Value) : upd ρ d v d = v := by simp [upd]
theorem upd_ne {ρ : Nat → Value} {d j : Nat} {v : Value} (h : j ≠ d) : upd ρ d v j = ρ j := by
  have : Nat.beq j d = false := by
    cases hb : Nat.beq j d
    · rfl
    · exact absurd (Nat.eq_of_beq_eq_true hb) h
  simp [upd, this]
theorem fa_put (n : Nat) (ρ : Nat → Value) (d : Nat) (v : Value) : (fa n ρ).setIfInBounds d v = fa n (upd ρ d v) := by
  apply Array.ext_getElem?
  intro i
  rw [Array.getElem?_setIfInBounds, fa_get, fa_get]
  by_cases h : d = i
  · subst h
    simp only [if_true, upd_same]
    simp [fa]
  · rw [if_neg h, upd_ne (fun e => h e.symm)]
theorem zHw (n : Nat) (ρ : Nat → Value) (ds : List Deferred) (d : Option Nat) (v : Value) : (A n ρ ds).put d v = A n (updO ρ d v) ds := by
  cases d with
  | none => rfl
  | some d => show (⟨(fa n ρ).setIfInBounds d v, ds⟩ : Act) = _; rw [fa_put]; rfl
def args0 (l : List Value) : Nat → Value := fun i => l.getD i undef
theorem A_args (n : Nat) (l : List Value) (h : l.length ≤ n) : l.toArray ++ Array.replicate (n - l.toArray.size) undef = fa n (args0 l) := by
  apply Array.ext_getElem?
  intro i
  rw [fa_get, Array.getElem?_append]
  simp only [List.size_toArray, List.getElem?_toArray, Array.getElem?_replicate, args0, List.getD]
  by_cases h1 : i < l.length
  · rw [if_pos h1, if_pos (by omega)]; simp [h1]
  · rw [if_neg h1]
    by_cases h2 : i < n
    · rw [if_pos (by omega), if_pos h2]; simp [List.getElem?_eq_none (by omega : l.length ≤ i)]
    · rw [if_neg (by omega), if_neg h2]

def WL (r : Option Nat) (P : Program) (ops : Array Oper) (Q : Exit → Act → World → Prop) (l : List Oper) (a : Act) (w : World) : Prop := wpListIn (FW r) 0 P ops Q l a w
def WC (r : Option Nat) (P : Program) (c : Code) (Q : Exit → Act → World → Prop) (a : Act) (w : World) : Prop := c.wpIn (FW r) 0 P Q a w
variable {r : Option Nat} {P : Program} {ops : Array Oper} {Q : Exit → Act → World → Prop} {rest : List Oper} {n : Nat} {ρ : Nat → Value} {ds : List Deferred} {w : World}

theorem zAa {id : Nat} {l : List Oper} {a : Act} (h : WL r P l.toArray Q l a w) : WC r P (.region id l.toArray false) Q a w := wpIn_region_lit h
theorem zAe {a : Act} (h : Q .normal a w) : WL r P ops Q [] a w := h
theorem zAf {x y : Code} {a : Act} (h : ∀ K : Act → World → Prop, (∀ a w, WC r P y Q a w → K a w) → WC r P x (Exit.then K Q) a w) : WC r P (.seq x y) Q a w := wpIn_seq_k h
theorem zAr {a : Act} (h : Q .normal a w) : WC r P .skip Q a w := wpIn_skip h
theorem w_label {l : Nat} {a : Act} (h : Q .normal a w) : WC r P (.label l) Q a w := wpIn_label h
theorem zA0 {a : Act} (h : Q .ret a w) : WC r P .ret Q a w := wpIn_ret h
theorem zBr {id : Nat} {a : Act} (h : Q (.exit id) a w) : WC r P (.exit id) Q a w := wpIn_exit h
theorem zAw {id : Nat} {c : Code} {a : Act} (h : WC r P c (Exit.inBlock id Q) a w) : WC r P (.block id c) Q a w := wpIn_block h
theorem zAv {c : Operand} {x y : Code} {t : Bool} (ho : okO n c = true) (hc : ev ρ c = .bool t) (ht : t = true → WC r P x Q (A n ρ ds) w) (hf : t = false → WC r P y Q (A n ρ ds) w) :
    WC r P (.cond c x y) Q (A n ρ ds) w := wpIn_cond_split (by rw [zB6 ho]; exact hc) ht hf
theorem zBz {c : Operand} {x y : Code} (ho : okO n c = true) (hc : ev ρ c = .bool true) (h : WC r P x Q (A n ρ ds) w) :
    WC r P (.cond c x y) Q (A n ρ ds) w := wpIn_cond_true (by rw [zB6 ho]; exact hc) h
theorem zBj {c : Operand} {x y : Code} (ho : okO n c = true) (hc : ev ρ c = .bool false) (h : WC r P y Q (A n ρ ds) w) :
    WC r P (.cond c x y) Q (A n ρ ds) w := wpIn_cond_false (by rw [zB6 ho]; exact hc) h
theorem w_mono {c : Code} {Q' : Exit → Act → World → Prop} {a : Act} (h : WC r P c Q a w) (hq : ∀ e a w, Q e a w → Q' e a w) : WC r P c Q' a w := wpIn_mono h hq

theorem zAb {K : Act → World → Prop} {a : Act} (h : K a w) : Exit.then K Q .normal a w := h
theorem zAj {K : Act → World → Prop} {a : Act} {id : Nat} (h : Q (.exit id) a w) : Exit.then K Q (.exit id) a w := h
theorem zAh {K : Act → World → Prop} {a : Act} (h : Q .ret a w) : Exit.then K Q .ret a w := h
theorem zAk {a : Act} {id : Nat} (h : Q .normal a w) : Exit.inBlock id Q .normal a w := h
theorem zAz {a : Act} {id : Nat} (h : Q .ret a w) : Exit.inBlock id Q .ret a w := h
theorem zAy {a : Act} {id : Nat} (h : Q .normal a w) : Exit.inBlock id Q (.exit id) a w := by simpa [Exit.inBlock] using h
theorem q_blk_other {a : Act} {id id' : Nat} (hne : Nat.beq id' id = false) (h : Q (.exit id') a w) : Exit.inBlock id Q (.exit id') a w := by
  have : id' ≠ id := fun e => by subst e; simp at hne
  simpa [Exit.inBlock, this] using h

def Yd (P : Program) (a : Act) (o : Oper) (w : World) (v : Value) : Prop := (execOp a.eval o).run P w = .ok (.value v) w
def Want (ops : Array Oper) (a : Act) (o : Oper) : Prop := Region.wanted o (yielded ops a.tmps) = true
theorem zAc {a : Act} {d : Option Tmp} {op : Op} {t : TypeId} {p : String} {e : Array Edge} : Want ops a ⟨d, op, t, p, e, none⟩ := rfl
theorem zF8 {s j : Nat} {b : Bool} (hj : (ops[j]?).bind (·.dst) = some s) (hs : Nat.blt s n = true) (hv : ρ s = .bool b) : yielded ops (A n ρ ds).tmps j = some b := by
  have h' : s < n := Nat.le_of_ble_eq_true hs
  unfold yielded
  rw [hj]
  simp only [Option.bind_some]
  rw [show (A n ρ ds).tmps = fa n ρ from rfl, fa_get, if_pos h', hv]
theorem zAm {d : Option Tmp} {op : Op} {t : TypeId} {p : String} {e : Array Edge} {j s : Nat} {b : Bool} (hj : (ops[j]?).bind (·.dst) = some s) (hs : Nat.blt s n = true) (hv : ρ s = .bool b) :
    Want ops (A n ρ ds) ⟨d, op, t, p, e, some (j, b)⟩ := by
  simp [Want, Region.wanted, zF8 hj hs hv]
theorem zAg {d : Nat} {op : Op} {t : TypeId} {p : String} {e : Array Edge} {j s : Nat} {b : Bool} (hj : (ops[j]?).bind (·.dst) = some s) (hs : Nat.blt s n = true) (hv : ρ s = .bool (!b))
    (hk : WL r P ops Q rest (A n (upd ρ d undef) ds) w) : WL r P ops Q (⟨some d, op, t, p, e, some (j, b)⟩ :: rest) (A n ρ ds) w := by
  have : Region.wanted ⟨some d, op, t, p, e, some (j, b)⟩ (yielded ops (A n ρ ds).tmps) = false := by
    simp only [Region.wanted, zF8 hj hs hv]; cases b <;> rfl
  unfold WL wpListIn
  simp only [this, Bool.false_eq_true, if_false]
  refine ⟨fun _ _ => trivial, ?_⟩
  rw [zHw]
  exact hk
theorem zBa {d : Nat} {op : Op} {t : TypeId} {p : String} {e : Array Edge} {j s : Nat} {b : Bool} (hj : (ops[j]?).bind (·.dst) = some s) (hs : Nat.blt s n = true) (hv : ρ s = undef)
    (hk : WL r P ops Q rest (A n (upd ρ d undef) ds) w) : WL r P ops Q (⟨some d, op, t, p, e, some (j, b)⟩ :: rest) (A n ρ ds) w := by
  have hy : yielded ops (A n ρ ds).tmps j = none := by
    have h' : s < n := Nat.le_of_ble_eq_true hs
    unfold yielded
    rw [hj]
    simp only [Option.bind_some]
    rw [show (A n ρ ds).tmps = fa n ρ from rfl, fa_get, if_pos h', hv]
    rfl
  have : Region.wanted ⟨some d, op, t, p, e, some (j, b)⟩ (yielded ops (A n ρ ds).tmps) = false := by
    simp only [Region.wanted, hy]; cases b <;> rfl
  unfold WL wpListIn
  simp only [this, Bool.false_eq_true, if_false]
  refine ⟨fun _ _ => trivial, ?_⟩
  rw [zHw]
  exact hk
def isDefer : Op → Bool
  | .defer _ => true
  | _ => false
theorem zEt {ro : Option Nat} {ρ' : Operand → Value} {o : Oper} (h : isDefer o.op = false) : Oper.semAt ro ρ' o = execOp ρ' o :=
  Oper.semAt_eq ro ρ' o fun c hc => by rw [hc] at h; exact absurd h (by simp [isDefer])
theorem wl_want {o : Oper} {a : Act} (hw : Want ops a o) (h : o.wpIn (FW r) 0 P a w (wpListIn (FW r) 0 P ops Q rest) Q) : WL r P ops Q (o :: rest) a w := by
  unfold WL wpListIn
  rw [if_pos (show Region.wanted o (yielded ops a.tmps) = true from hw)]
  exact h
theorem w_pure {d : Nat} {op : Op} {t : TypeId} {p : String} {e : Array Edge} {g : Option (Nat × Bool)} {v : Value} (hw : Want ops (A n ρ ds) ⟨some d, op, t, p, e, g⟩) (hy : Yd P (A n ρ ds) ⟨some d, op, t, p, e, g⟩ w v) (hd : isDefer op = false)
    (hk : WL r P ops Q rest (A n (upd ρ d v) ds) w) : WL r P ops Q (⟨some d, op, t, p, e, g⟩ :: rest) (A n ρ ds) w := by
  refine wl_want hw ⟨fun _ _ => trivial, ?_⟩
  rw [zEt hd, show (execOp (A n ρ ds).eval ⟨some d, op, t, p, e, g⟩).run P w = .ok (.value v) w from hy]
  show wpListIn _ _ _ _ _ _ ((A n ρ ds).put (some d) v) w
  rw [zHw]
  exact hk
theorem w_val {d : Option Nat} {op : Op} {t : TypeId} {p : String} {e : Array Edge} {g : Option (Nat × Bool)} {v : Value} {w' : World} (hw : Want ops (A n ρ ds) ⟨d, op, t, p, e, g⟩) (hy : (execOp (A n ρ ds).eval ⟨d, op, t, p, e, g⟩).run P w = .ok (.value v) w') (hd : isDefer op = false)
    (hk : WL r P ops Q rest (A n (updO ρ d v) ds) w') : WL r P ops Q (⟨d, op, t, p, e, g⟩ :: rest) (A n ρ ds) w := by
  refine wl_want hw ⟨fun _ _ => trivial, ?_⟩
  rw [zEt hd, hy]
  show wpListIn _ _ _ _ _ _ ((A n ρ ds).put d v) w'
  rw [zHw]
  exact hk
theorem w_unit {o : Oper} {w' : World} (hw : Want ops (A n ρ ds) o) (hy : (execOp (A n ρ ds).eval o).run P w = .ok .skip w') (hd : isDefer o.op = false)
    (hk : WL r P ops Q rest (A n (updO ρ o.dst undef) ds) w') : WL r P ops Q (o :: rest) (A n ρ ds) w := by
  refine wl_want hw ⟨fun _ _ => trivial, ?_⟩
  rw [zEt hd, hy]
  show wpListIn _ _ _ _ _ _ ((A n ρ ds).put o.dst undef) w'
  rw [zHw]
  exact hk
theorem w_p {d : Nat} {op : Op} {t : TypeId} {p : String} {e : Array Edge} {v : Value} (hy : Yd P (A n ρ ds) ⟨some d, op, t, p, e, none⟩ w v) (hd : isDefer op = false)
    (hk : WL r P ops Q rest (A n (upd ρ d v) ds) w) : WL r P ops Q (⟨some d, op, t, p, e, none⟩ :: rest) (A n ρ ds) w := w_pure zAc hy hd hk
theorem w_y {d : Nat} {op : Op} {t : TypeId} {p : String} {e : Array Edge} {v : Value} {j s : Nat} {b : Bool} (hj : (ops[j]?).bind (·.dst) = some s) (hs : Nat.blt s n = true) (hv : ρ s = .bool b) (hy : Yd P (A n ρ ds) ⟨some d, op, t, p, e, some (j, b)⟩ w v) (hd : isDefer op = false)
    (hk : WL r P ops Q rest (A n (upd ρ d v) ds) w) : WL r P ops Q (⟨some d, op, t, p, e, some (j, b)⟩ :: rest) (A n ρ ds) w := w_pure (zAm hj hs hv) hy hd hk
theorem zA {b : Bool} : ((!b) = true) = (b = false) := Bool.not_eq_true' b
theorem zB {b : Bool} : ((!b) = false) = (b = true) := Bool.not_eq_false' b
theorem zC {p : Prop} [Decidable p] : (decide p = true) = p := decide_eq_true_eq
theorem zD {p : Prop} [Decidable p] : decide p = false ↔ ¬p := decide_eq_false_iff_not
theorem zE {a b : Int} : ¬a < b ↔ b ≤ a := Int.not_lt
theorem zF {a b : Int} : ¬a ≤ b ↔ b < a := Int.not_le
theorem zS : (∀ b : Bool, ((!b) = true) = (b = false)) ∧ (∀ b : Bool, ((!b) = false) = (b = true)) ∧ (∀ (p : Prop) [Decidable p], (decide p = true) = p) ∧ (∀ (p : Prop) [Decidable p], decide p = false ↔ ¬p) ∧ (∀ a b : Int, ¬a < b ↔ b ≤ a) ∧ (∀ a b : Int, ¬a ≤ b ↔ b < a) := ⟨fun _ => zA, fun _ => zB, fun _ _ => zC, fun _ _ => zD, fun _ _ => zE, fun _ _ => zF⟩
theorem zNl {n m : Nat} (h : Nat.ble n m = true) : n ≤ m := Nat.le_of_ble_eq_true h
theorem zL : (∀ (α β : Type) (f : α → β) (l : List α), (l.map f).length = l.length) ∧ (∀ (α : Type) (l : List α) (i : Nat) (a : α), (l.set i a).length = l.length) ∧ (∀ (α : Type) (l m : List α), (l ++ m).length = l.length + m.length) ∧ (∀ (α : Type) (i : Nat) (l : List α), (l.take i).length = min i l.length) ∧ (∀ (α : Type) (i : Nat) (l : List α), (l.drop i).length = l.length - i) ∧ (∀ (α : Type) (n : Nat) (a : α), (List.replicate n a).length = n) ∧ (∀ (α : Type) (a : α) (l : List α), (a :: l).length = l.length + 1) ∧ (∀ α : Type, ([] : List α).length = 0) := ⟨fun _ _ _ _ => List.length_map _, fun _ _ _ _ => List.length_set, fun _ _ _ => List.length_append, fun _ _ _ => List.length_take, fun _ _ _ => List.length_drop, fun _ _ _ => List.length_replicate, fun _ _ _ => rfl, fun _ => rfl⟩
theorem zBk {d : Nat} {t : Bool} {l : List Oper} {ρ : Nat → Value} (ht : t = true → WL r P ops Q l (A n (upd ρ d (.bool true)) ds) w) (hf : t = false → WL r P ops Q l (A n (upd ρ d (.bool false)) ds) w) :
    WL r P ops Q l (A n (upd ρ d (.bool t)) ds) w := by
  cases t
  · exact hf rfl
  · exact ht rfl

def Con (P : Program) (k : FuncId) (args : List Value) (w : World) (R : Value → World → Prop) : Prop :=
  CallsIn (FW none) 0 P k args.toArray w fun e w' => ∃ v, e = .returned v ∧ R v w'
theorem Con.mono {k : FuncId} {args : List Value} {R R' : Value → World → Prop} (h : Con P k args w R) (hr : ∀ v w', R v w' → R' v w') : Con P k args w R' :=
  CallsIn.mono h fun _ w' ⟨v, he, hv⟩ => ⟨v, he, hr v w' hv⟩
theorem con_calls {k : FuncId} {args : List Value} {R : Value → World → Prop} (h : Con P k args w R) : Calls P k args.toArray w fun e w' => ∃ v, e = .returned v ∧ R v w' :=
  (callsIn_wide (n := 0)).1 h
def CF (P : Program) (k : FuncId) : Prop := ∀ args w, (callFunc k args).run P w = .ok (.enter k args) w
theorem w_callO {d : Option Tmp} {t : TypeId} {p : String} {e : Array Edge} {g : Option (Nat × Bool)} {f : Operand} {args : Array Operand} {ats : Array TypeId} {k : FuncId} {first captured : Array Value} {vs : List Value}
    {R : Value → World → Prop}
    (hw : Want ops (A n ρ ds) ⟨d, .call ⟨.value f, args, ats⟩, t, p, e, g⟩) (hC : CF P k) (hof : okO n f = true) (hf : ev ρ f = .func (.func k) first captured) (hoa : args.toList.all (okO n) = true)
    (hvs : first.toList ++ (args.toList.map (ev ρ) ++ captured.toList) = vs)
    (hc : Con P k vs w R) (hk : ∀ v w', R v w' → WL r P ops Q rest (A n (updO ρ d v) ds) w') :
    WL r P ops Q (⟨d, .call ⟨.value f, args, ats⟩, t, p, e, g⟩ :: rest) (A n ρ ds) w := by
  have hmap : args.map (A n ρ ds).eval = (args.toList.map (ev ρ)).toArray := by
    apply Array.ext'
    simp only [Array.toList_map]
    refine List.map_congr_left fun x hx => zB6 ?_
    exact List.all_eq_true.1 hoa x hx
  have hrun : (execOp (A n ρ ds).eval ⟨d, .call ⟨.value f, args, ats⟩, t, p, e, g⟩).run P w = .ok (.enter k vs.toArray) w := by
    have hE : first ++ args.map (A n ρ ds).eval ++ captured = vs.toArray := by
      rw [hmap]; apply Array.ext'; simp [← hvs]
    simp only [execOp, resolve, zB6 hof, hf, Deferred.ofValue, Sem.run_bind, Sem.run_pure, Result.andThen, invoke]
    rw [hE]
    exact hC _ _
  refine wl_want hw ⟨fun _ _ => trivial, ?_⟩
  rw [zEt rfl, hrun]
  refine ⟨fun h => by simp at h, ?_⟩
  refine CallsIn.mono (R := fun e w' => ∃ v, e = .returned v ∧ R v w') ?_ ?_
  · have h1 := hc
    unfold Con at h1
    cases r with
    | none => exact h1
    | some l => exact CallsIn.inRound l h1
  · rintro e w' ⟨v, rfl, hv⟩
    show wpListIn _ _ _ _ _ _ ((A n ρ ds).put d v) w'
    rw [zHw]
    exact hk v w' hv

theorem zA4 {d : Nat} {t : TypeId} {p : String} {e : Array Edge} {g : Option (Nat × Bool)} {f : Operand} {args : Array Operand} {ats : Array TypeId} {k : FuncId} {first captured : Array Value} {vs : List Value}
    {R : Value → World → Prop}
    (hw : Want ops (A n ρ ds) ⟨some d, .call ⟨.value f, args, ats⟩, t, p, e, g⟩) (hC : CF P k) (hof : okO n f = true) (hf : ev ρ f = .func (.func k) first captured) (hoa : args.toList.all (okO n) = true)
    (hvs : first.toList ++ (args.toList.map (ev ρ) ++ captured.toList) = vs)
    (hc : Con P k vs w R) (hk : ∀ v w', R v w' → WL r P ops Q rest (A n (upd ρ d v) ds) w') :
    WL r P ops Q (⟨some d, .call ⟨.value f, args, ats⟩, t, p, e, g⟩ :: rest) (A n ρ ds) w := w_callO hw hC hof hf hoa hvs hc hk

theorem zCi {d : Nat} {t : TypeId} {p : String} {e : Array Edge} {g : Option (Nat × Bool)} {f : Operand} {args : Array Operand} {ats : Array TypeId} {k : FuncId} {first captured : Array Value} {vs : List Value} {V : Value} {S : World → Prop} (hw : Want ops (A n ρ ds) ⟨some d, .call ⟨.value f, args, ats⟩, t, p, e, g⟩) (hC : CF P k) (hof : okO n f = true) (hf : ev ρ f = .func (.func k) first captured) (hoa : args.toList.all (okO n) = true)
    (hvs : first.toList ++ (args.toList.map (ev ρ) ++ captured.toList) = vs) (hc : Con P k vs w fun v w' => v = V ∧ S w') (hk : ∀ w', S w' → WL r P ops Q rest (A n (upd ρ d V) ds) w') : WL r P ops Q (⟨some d, .call ⟨.value f, args, ats⟩, t, p, e, g⟩ :: rest) (A n ρ ds) w := zA4 hw hC hof hf hoa hvs hc (by rintro _ w' ⟨rfl, h⟩; exact hk w' h)
def RV (P : Program) (ρ : Nat → Value) (n : Nat) (w : World) : ResultVar → Value → Prop
  | .tmp t, v => Nat.blt t n = true ∧ ρ t = v
  | .cell a t, v => Nat.blt a n = true ∧ ∃ ad, ρ a = .pointer (some ad) ∧ (loadVar t ad).run P w = .ok v w
def RVs (P : Program) (ρ : Nat → Value) (n : Nat) (w : World) : List ResultVar → List Value → Prop
  | [], [] => True
  | x :: l, v :: vs => RV P ρ n w x v ∧ RVs P ρ n w l vs
  | _, _ => False
theorem results_run : ∀ (l : List ResultVar) (vs : List Value), RVs P ρ n w l vs →
    (l.mapM (m := Sem) fun | .tmp t => pure ((fa n ρ).getD t undef) | .cell a t => do loadVar t (← asAddr ((fa n ρ).getD a undef))).run P w = .ok vs w
  | [], [], _ => by simp
  | x :: l, v :: vs, h => by
    obtain ⟨hx, hl⟩ := h
    have ih := results_run l vs hl
    rw [List.mapM_cons]
    cases x with
    | tmp t =>
      obtain ⟨h1, rfl⟩ := hx
      simp only [fa_getD (Nat.le_of_ble_eq_true h1), Sem.run_bind, Sem.run_pure, Result.andThen, ih]
    | cell a t =>
      obtain ⟨h1, ad, h2, h3⟩ := hx
      have e : (asAddr (Value.pointer (some ad)) : Sem Addr) = pure ad := rfl
      simp only [fa_getD (Nat.le_of_ble_eq_true h1), h2, e, Sem.run_bind, Sem.run_pure, Result.andThen, h3, ih]
  | [], _ :: _, h => h.elim
  | _ :: _, [], h => h.elim
def retV : List Value → Value
  | [v] => v
  | vs => .tuple vs.toArray
theorem zFk {fn : Func} {l : List ResultVar} {vs : List Value} (hl : fn.results = l.toArray) (h : RVs P ρ n w l vs) : (results fn (fa n ρ)).run P w = .ok (retV vs) w := by
  have h1 := results_run l vs h
  have key : (l.toArray.mapM (m := Sem) fun | .tmp t => pure ((fa n ρ).getD t undef) | .cell a t => do loadVar t (← asAddr ((fa n ρ).getD a undef))).run P w = .ok vs.toArray w := by
    rw [List.mapM_toArray]
    show (Sem.bind _ _).run P w = _
    show ((l.mapM (m := Sem) fun | .tmp t => pure ((fa n ρ).getD t undef) | .cell a t => do loadVar t (← asAddr ((fa n ρ).getD a undef))) >>= fun x => pure x.toArray).run P w = _
    rw [Sem.run_bind, h1]
    rfl
  unfold results
  rw [hl, Sem.run_bind]
  refine Eq.trans (congrArg (fun x => Result.andThen x _) key) ?_
  simp only [Result.andThen]
  match vs with
  | [] => rfl
  | [v] => rfl
  | v :: u :: t => simp [retV]
theorem zAo {k : FuncId} {fn : Func} {c : Code} {args : List Value} {R : Value → World → Prop} (hf : P.funcs[k]? = some fn) (hb : fn.body = some c) (hn : fn.ntmps = n) (hle : args.length ≤ n)
    (h : WC none P c (bodyPost P fn fun e w' => ∃ v, e = .returned v ∧ R v w') (A n (args0 args) []) w) : Con P k args w R := by
  refine callsIn_of_wp (F := FW none) hf hb trivial ?_ rfl
  rw [hn, A_args n args hle]
  exact h
theorem zA1 {fn : Func} {l : List ResultVar} {vs : List Value} {R : Value → World → Prop} (hl : fn.results = l.toArray) (hr : RVs P ρ n w l vs) (h : R (retV vs) w) :
    bodyPost P fn (fun e w' => ∃ v, e = .returned v ∧ R v w') .ret (A n ρ []) w := ⟨rfl, _, zFk hl hr, _, rfl, h⟩
theorem q_end {fn : Func} {l : List ResultVar} {vs : List Value} {R : Value → World → Prop} (hl : fn.results = l.toArray) (hr : RVs P ρ n w l vs) (h : R (retV vs) w) :
    bodyPost P fn (fun e w' => ∃ v, e = .returned v ∧ R v w') .normal (A n ρ []) w := ⟨rfl, _, zFk hl hr, _, rfl, h⟩
end Go.Rt
/- The walking engine, part 2: what is known of a world (a list of blocks laid since a base world), and what each operation yields. No conditions. -/
namespace Go.Rt
open Go.RowKit

def blk (t : TypeId) (cs : List Value) : Obj := .cells cs.toArray t (0,0)
structure St (w0 w : World) (L : List (Nat × Obj)) : Prop where
  below : Below w0.heap.size w0 w
  has : ∀ x ∈ L, w0.heap.size ≤ x.1 ∧ w.heap[x.1]? = some x.2
  nd : (L.map Prod.fst).Nodup
variable {w0 w : World} {L : List (Nat × Obj)}
theorem St.nil (w : World) : St w w [] := ⟨Below.refl _ _, (fun _ h => by cases h), List.nodup_nil⟩
theorem St.tail {x : Nat × Obj} (h : St w0 w (x :: L)) : St w0 w L :=
  ⟨h.below, fun y hy => h.has y (.tail _ hy), by have := h.nd; simp only [List.map_cons, List.nodup_cons] at this; exact this.2⟩
theorem St.drop {L' : List (Nat × Obj)} (h : St w0 w (L' ++ L)) : St w0 w L := by
  induction L' with
  | nil => exact h
  | cons x L' ih => exact ih h.tail
theorem St.perm {L' : List (Nat × Obj)} (h : St w0 w L) (hp : L.Perm L') : St w0 w L' :=
  ⟨h.below, fun x hx => h.has x (hp.mem_iff.2 hx), (hp.map Prod.fst).nodup_iff.1 h.nd⟩
theorem St.get {i b : Nat} {o : Obj} (h : St w0 w L) (hi : L[i]? = some (b, o)) : w.heap[b]? = some o := (h.has (b, o) (List.mem_of_getElem? hi)).2
theorem St.base {i b : Nat} {o : Obj} (h : St w0 w L) (hi : L[i]? = some (b, o)) : w0.heap.size ≤ b := (h.has (b, o) (List.mem_of_getElem? hi)).1
theorem St.lt {x : Nat × Obj} (h : St w0 w L) (hx : x ∈ L) : x.1 < w.heap.size := by
  have := (h.has x hx).2
  exact (Array.getElem?_eq_some_iff.1 this).1
theorem St.le (h : St w0 w L) : w0.heap.size ≤ w.heap.size := h.below.size
theorem St.drew (h : St w0 w L) : St w0 { w with drawn := w.drawn + 1 } L := ⟨h.below.drew, h.has, h.nd⟩
theorem St.alloc (h : St w0 w L) (o : Obj) : St w0 (w.alloc o) ((w.heap.size, o) :: L) := by
  refine ⟨h.below.alloc h.le o, ?_, ?_⟩
  · intro x hx
    cases hx with
    | head => exact ⟨h.le, World.alloc_heap_new w o⟩
    | tail _ hx => exact ⟨(h.has x hx).1, by rw [Below.heap_alloc w o _ (h.lt hx)]; exact (h.has x hx).2⟩
  · simp only [List.map_cons, List.nodup_cons]
    refine ⟨?_, h.nd⟩
    intro hm
    obtain ⟨x, hx, he⟩ := List.mem_map.1 hm
    have := h.lt hx
    omega
theorem nodup_set {i b : Nat} {o o' : Obj} (hi : L[i]? = some (b, o)) (h : (L.map Prod.fst).Nodup) : ((L.set i (b, o')).map Prod.fst).Nodup := by
  have : (L.set i (b, o')).map Prod.fst = L.map Prod.fst := by
    rw [List.map_set]
    apply List.ext_getElem?
    intro j
    rw [List.getElem?_set]
    split
    · rename_i e; subst e
      simp only [List.length_map, List.getElem?_map, hi, Option.map_some]
      rw [if_pos (List.getElem?_eq_some_iff.1 hi).1]
    · rfl
  rw [this]; exact h
theorem mem_set {i b : Nat} {o o' : Obj} {x : Nat × Obj} (hi : L[i]? = some (b, o)) (hnd : (L.map Prod.fst).Nodup) (hx : x ∈ L.set i (b, o')) : x = (b, o') ∨ (x ∈ L ∧ x.1 ≠ b) := by
  obtain ⟨j, hj⟩ := List.mem_iff_getElem?.1 hx
  rw [List.getElem?_set] at hj
  by_cases e : i = j
  · rw [if_pos e] at hj
    split at hj
    · cases hj; exact .inl rfl
    · cases hj
  · rw [if_neg e] at hj
    refine .inr ⟨List.mem_of_getElem? hj, fun hb => e ?_⟩
    have h1 : (L.map Prod.fst)[i]? = some b := by simp [hi]
    have h2 : (L.map Prod.fst)[j]? = some b := by simp [hj, hb]
    have hi' := List.getElem?_eq_some_iff.1 h1
    have hj' := List.getElem?_eq_some_iff.1 h2
    exact (List.getElem_inj hnd).1 (hi'.2.trans hj'.2.symm)
theorem St.become {w' : World} {i b : Nat} {o o' : Obj} (h : St w0 w L) (hi : L[i]? = some (b, o)) (hs : w'.heap.size = w.heap.size) (hb : w'.heap[b]? = some o')
    (ho : ∀ k, k ≠ b → w'.heap[k]? = w.heap[k]?) (e1 : w'.os = w.os) (e2 : w'.tape = w.tape) (e3 : w'.output = w.output) : St w0 w' (L.set i (b, o')) := by
  have hbase := h.base hi
  refine ⟨h.below.trans ⟨e1, e2, e3, by omega, fun k hk => ho k (by omega)⟩, ?_, nodup_set hi h.nd⟩
  intro x hx
  rcases mem_set hi h.nd hx with rfl | ⟨hm, hne⟩
  · exact ⟨hbase, hb⟩
  · exact ⟨(h.has x hm).1, by rw [ho _ hne]; exact (h.has x hm).2⟩
theorem St.putObj {i b : Nat} {o : Obj} (h : St w0 w L) (hi : L[i]? = some (b, o)) (o' : Obj) : St w0 (w.putObj b o') (L.set i (b, o')) := by
  have hlt : b < w.heap.size := h.lt (List.mem_of_getElem? hi)
  exact h.become hi World.putObj_size (World.putObj_heap_same hlt) (fun k hk => World.putObj_heap_other hk) rfl rfl rfl
theorem St.setCell {i b : Nat} {t : TypeId} {cs : List Value} (h : St w0 w L) (hi : L[i]? = some (b, blk t cs)) (off : Nat) (v : Value) :
    St w0 (w.setCell ⟨b, off, none⟩ v) (L.set i (b, blk t (cs.set off v))) := by
  have hg := h.get hi
  refine h.become hi (by simp [World.setCell]) ?_ (fun k hk => Below.heap_setCell w _ v k hk) rfl rfl rfl
  simp only [World.setCell, Array.getElem?_modify, if_true, hg, Option.map_some]
  simp [blk]
theorem cell_of {b off : Nat} {t : TypeId} {cs : List Value} {fz : Nat × Nat} (h : w.heap[b]? = some (.cells cs.toArray t fz)) : w.cell? ⟨b, off, none⟩ = cs[off]? := by
  simp [World.cell?, h]
theorem St.cell {i b off : Nat} {t : TypeId} {cs : List Value} {v : Value} (h : St w0 w L) (hi : L[i]? = some (b, blk t cs)) (hv : cs[off]? = some v) : w.cell? ⟨b, off, none⟩ = some v := by
  rw [cell_of (h.get hi), hv]
theorem St.free {i b off : Nat} {t : TypeId} {cs : List Value} (h : St w0 w L) (hi : L[i]? = some (b, blk t cs)) : w.frozen? ⟨b, off, none⟩ = false := by
  simp [World.frozen?, h.get hi, blk]

def At (w0 : World) (L : List (Nat × Obj)) (a : Addr) (v : Value) : Prop := ∀ w, St w0 w L → w.cell? a = some v
def Ats (w0 : World) (L : List (Nat × Obj)) (b off : Nat) (vs : List Value) : Prop := ∀ j v, vs[j]? = some v → At w0 L ⟨b, off + j, none⟩ v
theorem zBm {i b off : Nat} {t : TypeId} {cs vs : List Value} (hi : L[i]? = some (b, blk t cs)) (hv : (cs.drop off).take vs.length = vs) : Ats w0 L b off vs := by
  intro j v hj w hw
  rw [cell_of (hw.get hi)]
  rw [← hv, List.getElem?_take] at hj
  split at hj
  · rwa [List.getElem?_drop] at hj
  · cases hj
theorem aow (i : Nat) (vs : List Value) {b off : Nat} {t : TypeId} {cs : List Value} (hi : L[i]? = some (b, blk t cs) := by exact rfl) (hv : (cs.drop off).take vs.length = vs := by exact rfl) : Ats w0 L b off vs := zBm hi hv
theorem Ats.mono {L' : List (Nat × Obj)} {b off : Nat} {vs : List Value} (h : Ats w0 L b off vs) (hs : ∀ w, St w0 w L' → St w0 w L) : Ats w0 L' b off vs :=
  fun j v hj w hw => h j v hj w (hs w hw)
theorem ats_base {b off : Nat} {vs : List Value} (h : ∀ j v, vs[j]? = some v → w0.cell? ⟨b, off + j, none⟩ = some v) : Ats w0 [] b off vs := by
  intro j v hj w hw
  have h0 := h j v hj
  have hb : b < w0.heap.size := by
    simp only [World.cell?] at h0
    rcases Nat.lt_or_ge b w0.heap.size with h1 | h1
    · exact h1
    · rw [Array.getElem?_eq_none h1] at h0; cases h0
  rw [hw.below.cell (p := ⟨b, off + j, none⟩) hb]
  exact h0
theorem Ats.part {b off : Nat} {vs : List Value} (h : Ats w0 L b off vs) (k m : Nat) : Ats w0 L b (off + k) ((vs.drop k).take m) := by
  intro j v hj
  rw [List.getElem?_take] at hj
  split at hj
  · rw [List.getElem?_drop] at hj
    have := h (k + j) v hj
    rwa [← Nat.add_assoc] at this
  · cases hj
theorem run_load_at {P : Program} {b off : Nat} {v : Value} (hst : St w0 w L) (h : At w0 L ⟨b, off, none⟩ v) : (load ⟨b, off, none⟩).run P w = .ok v w := by
  have := h w hst
  simp [load, Sem.run, this]
theorem zFi {P : Program} {t : TypeId} {b off : Nat} {v : Value} (ha : ∀ w, (isAgg t).run P w = .ok false w) (hst : St w0 w L) (h : Ats w0 L b off [v]) :
    (loadVar t ⟨b, off, none⟩).run P w = .ok v w := by
  unfold loadVar
  rw [Sem.run_bind, ha]
  exact run_load_at hst (h 0 v rfl)
theorem zBv {P : Program} {t : TypeId} {b off : Nat} {vs : List Value} (ha : ∀ w, (isAgg t).run P w = .ok true w) (hs : ∀ w, (sizeOf t).run P w = .ok vs.length w)
    (hst : St w0 w L) (h : Ats w0 L b off vs) : (loadVar t ⟨b, off, none⟩).run P w = .ok (.agg vs.toArray) w := by
  unfold loadVar
  have := run_loadCells_list (P := P) (w := w) ⟨b, off, none⟩ vs (fun j v hj => by rw [Addr.add_lit]; exact h j v hj w hst)
  rw [Sem.run_bind, ha]
  simp only [Result.andThen, if_true]
  rw [Sem.run_bind, hs]
  simp only [Result.andThen]
  rw [Sem.run_bind, this]
  rfl

theorem bytes_beq (a b : ByteArray) : (a.toList == b.toList) = decide (a = b) := by
  rw [Bool.eq_iff_iff, beq_iff_eq, decide_eq_true_eq]
  constructor
  · intro h
    rw [ByteArray.toList_eq, ByteArray.toList_eq] at h
    obtain ⟨⟨x⟩⟩ := a
    obtain ⟨⟨y⟩⟩ := b
    simp at h
    rw [h]
  · rintro rfl; rfl
section yields
variable {P : Program} {n : Nat} {ρ : Nat → Value} {ds : List Deferred} {d : Option Tmp} {ty : TypeId} {p : String} {e : Array Edge} {g : Option (Nat × Bool)}
theorem zBo {x : Operand} {v : Value} (ho : okO n x = true) (hv : ev ρ x = v) : Yd P (A n ρ ds) ⟨d, .move x, ty, p, e, g⟩ w v := by
  simp [Yd, execOp, zB6 ho, hv]
theorem zA6 {x : Operand} {a : Array Value} {d : Option Tmp} {ty : TypeId} {p : String} {e : Array Edge} {g : Option (Nat × Bool)} (ho : okO n x = true) (hv : ev ρ x = .tuple a) : Yd P (A n ρ ds) ⟨d, .move x, ty, p, e, g⟩ w (.tuple a) := zBo ho hv
theorem zAn {x : Operand} {a : Bool} {d : Option Tmp} {ty : TypeId} {p : String} {e : Array Edge} {g : Option (Nat × Bool)} (ho : okO n x = true) (hv : ev ρ x = .bool a) : Yd P (A n ρ ds) ⟨d, .move x, ty, p, e, g⟩ w (.bool a) := zBo ho hv
theorem zAx {x : Operand} {a : Option Addr} {b c : Nat} {d : Option Tmp} {ty : TypeId} {p : String} {e : Array Edge} {g : Option (Nat × Bool)} (ho : okO n x = true) (hv : ev ρ x = .slice a b c) : Yd P (A n ρ ds) ⟨d, .move x, ty, p, e, g⟩ w (.slice a b c) := zBo ho hv
theorem zBi {x : Operand} {a : Option Addr} {d : Option Tmp} {ty : TypeId} {p : String} {e : Array Edge} {g : Option (Nat × Bool)} (ho : okO n x = true) (hv : ev ρ x = .pointer a) : Yd P (A n ρ ds) ⟨d, .move x, ty, p, e, g⟩ w (.pointer a) := zBo ho hv
theorem zB9 {x : Operand} {v : Value} (ho : okO n x = true) (hv : ev ρ x = v) : Yd P (A n ρ ds) ⟨d, .assign x, ty, p, e, g⟩ w v := by
  simp [Yd, execOp, zB6 ho, hv]
theorem y_assignT {x : Operand} {a : Array Value} {d : Option Tmp} {ty : TypeId} {p : String} {e : Array Edge} {g : Option (Nat × Bool)} (ho : okO n x = true) (hv : ev ρ x = .tuple a) : Yd P (A n ρ ds) ⟨d, .assign x, ty, p, e, g⟩ w (.tuple a) := zB9 ho hv
theorem zAl {x : Operand} {a : Bool} {d : Option Tmp} {ty : TypeId} {p : String} {e : Array Edge} {g : Option (Nat × Bool)} (ho : okO n x = true) (hv : ev ρ x = .bool a) : Yd P (A n ρ ds) ⟨d, .assign x, ty, p, e, g⟩ w (.bool a) := zB9 ho hv
theorem zBh {x : Operand} {a : Option Addr} {b c : Nat} {d : Option Tmp} {ty : TypeId} {p : String} {e : Array Edge} {g : Option (Nat × Bool)} (ho : okO n x = true) (hv : ev ρ x = .slice a b c) : Yd P (A n ρ ds) ⟨d, .assign x, ty, p, e, g⟩ w (.slice a b c) := zB9 ho hv
theorem zBu {x : Operand} {a : Option Addr} {d : Option Tmp} {ty : TypeId} {p : String} {e : Array Edge} {g : Option (Nat × Bool)} (ho : okO n x = true) (hv : ev ρ x = .pointer a) : Yd P (A n ρ ds) ⟨d, .assign x, ty, p, e, g⟩ w (.pointer a) := zB9 ho hv
theorem zAt {c x y : Operand} {v : Value} (ho : okO n c = true) (ho1 : okO n x = true) (hc : ev ρ c = .bool true) (hv : ev ρ x = v) : Yd P (A n ρ ds) ⟨d, .pick c x y, ty, p, e, g⟩ w v := by
  simp [Yd, execOp, zB6 ho, zB6 ho1, hv, hc, asBool, Sem.run_bind, Result.andThen]
theorem zBb {c x y : Operand} {v : Value} (ho : okO n c = true) (ho1 : okO n y = true) (hc : ev ρ c = .bool false) (hv : ev ρ y = v) : Yd P (A n ρ ds) ⟨d, .pick c x y, ty, p, e, g⟩ w v := by
  simp [Yd, execOp, zB6 ho, zB6 ho1, hv, hc, asBool, Sem.run_bind, Result.andThen]
theorem zFz {op : BinOp} {t t2 : TypeId} {x y : Operand} {k : IntKind} {a b : Int} {v : Value} (ho : okO n x = true) (ho1 : okO n y = true) (hx : ev ρ x = .int k a) (hy : ev ρ y = .int k b)
    (h : ∀ w, (binOp op t (.int k a) (.int k b)).run P w = .ok v w) : Yd P (A n ρ ds) ⟨d, .binOp op t x y t2, ty, p, e, g⟩ w v := by
  simp [Yd, execOp, zB6 ho, zB6 ho1, hx, hy, eqGuard_at_int, Sem.run_bind, h, Result.andThen]
theorem zCb {t t2 : TypeId} {x y : Operand} {k : IntKind} {a b : Int} (ho : okO n x = true) (ho1 : okO n y = true) (hx : ev ρ x = .int k a) (hy : ev ρ y = .int k b) :
    Yd P (A n ρ ds) ⟨d, .binOp .lss t x y t2, ty, p, e, g⟩ w (.bool (decide (a < b))) := zFz ho ho1 hx hy fun w => by simp [binOp_lss]
theorem y_leq {t t2 : TypeId} {x y : Operand} {k : IntKind} {a b : Int} (ho : okO n x = true) (ho1 : okO n y = true) (hx : ev ρ x = .int k a) (hy : ev ρ y = .int k b) :
    Yd P (A n ρ ds) ⟨d, .binOp .leq t x y t2, ty, p, e, g⟩ w (.bool (decide (a ≤ b))) := zFz ho ho1 hx hy fun w => by simp [binOp_leq]
theorem zD5 {t t2 : TypeId} {x y : Operand} {k : IntKind} {a b : Int} (ho : okO n x = true) (ho1 : okO n y = true) (hx : ev ρ x = .int k a) (hy : ev ρ y = .int k b) :
    Yd P (A n ρ ds) ⟨d, .binOp .gtr t x y t2, ty, p, e, g⟩ w (.bool (decide (b < a))) := zFz ho ho1 hx hy fun w => by simp [binOp_gtr]
theorem zHv {t t2 : TypeId} {x y : Operand} {k : IntKind} {a b : Int} (ho : okO n x = true) (ho1 : okO n y = true) (hx : ev ρ x = .int k a) (hy : ev ρ y = .int k b) :
    Yd P (A n ρ ds) ⟨d, .binOp .geq t x y t2, ty, p, e, g⟩ w (.bool (decide (b ≤ a))) := zFz ho ho1 hx hy fun w => by simp [binOp_geq]
theorem zCk {t t2 : TypeId} {x y : Operand} {k : IntKind} {a b : Int} (ho : okO n x = true) (ho1 : okO n y = true) (hx : ev ρ x = .int k a) (hy : ev ρ y = .int k b) :
    Yd P (A n ρ ds) ⟨d, .binOp .eql t x y t2, ty, p, e, g⟩ w (.bool (decide (a = b))) := zFz ho ho1 hx hy fun w => by rw [binOp_eql]; rfl
theorem zCj {t t2 : TypeId} {x y : Operand} {k : IntKind} {a b : Int} (ho : okO n x = true) (ho1 : okO n y = true) (hx : ev ρ x = .int k a) (hy : ev ρ y = .int k b) :
    Yd P (A n ρ ds) ⟨d, .binOp .neq t x y t2, ty, p, e, g⟩ w (.bool (!decide (a = b))) := zFz ho ho1 hx hy fun w => by rw [binOp_neq]; rfl
theorem zE6 {z : Int} (h1 : -9223372036854775808 ≤ z) (h2 : z ≤ 9223372036854775807) : IntKind.i64.wrap z = z := IntWalk.i64_in z ⟨h1, h2⟩
theorem zBe {t t2 : TypeId} {x y : Operand} {a b : Int} (ho : okO n x = true) (ho1 : okO n y = true) (hx : ev ρ x = .int .i64 a) (hy : ev ρ y = .int .i64 b) (h1 : -9223372036854775808 ≤ a + b) (h2 : a + b ≤ 9223372036854775807) :
    Yd P (A n ρ ds) ⟨d, .binOp .add t x y t2, ty, p, e, g⟩ w (.int .i64 (a + b)) := zFz ho ho1 hx hy fun w => by simp [binOp_add, Op.intArith, zE6 h1 h2]
theorem zDk {t t2 : TypeId} {x y : Operand} {a b : Int} (ho : okO n x = true) (ho1 : okO n y = true) (hx : ev ρ x = .int .i64 a) (hy : ev ρ y = .int .i64 b) (h1 : -9223372036854775808 ≤ a - b) (h2 : a - b ≤ 9223372036854775807) :
    Yd P (A n ρ ds) ⟨d, .binOp .sub t x y t2, ty, p, e, g⟩ w (.int .i64 (a - b)) := zFz ho ho1 hx hy fun w => by simp [binOp_sub, Op.intArith, zE6 h1 h2]
theorem y_mul {t t2 : TypeId} {x y : Operand} {a b : Int} (ho : okO n x = true) (ho1 : okO n y = true) (hx : ev ρ x = .int .i64 a) (hy : ev ρ y = .int .i64 b) (h1 : -9223372036854775808 ≤ a * b) (h2 : a * b ≤ 9223372036854775807) :
    Yd P (A n ρ ds) ⟨d, .binOp .mul t x y t2, ty, p, e, g⟩ w (.int .i64 (a * b)) := zFz ho ho1 hx hy fun w => by simp [binOp_mul, Op.intArith, zE6 h1 h2]
theorem zC0 {t : TypeId} {x : Operand} {b : Bool} (ho : okO n x = true) (hx : ev ρ x = .bool b) : Yd P (A n ρ ds) ⟨d, .unOp .not t x, ty, p, e, g⟩ w (.bool (!b)) := by
  simp [Yd, execOp, zB6 ho, hx, Op.unary, Sem.run_bind, Result.andThen]
theorem fieldAt_fact {s i k : Nat} {fs : Array Field} {f : Field} (hU : P.underlying s = some (.struct fs)) (hf : fs[i]? = some f) (hs : ∀ w, (sizeOf f.type).run P w = .ok (k + 1) w) :
    ∀ b off w, (Instr.fieldAt s (.pointer (some ⟨b, off, none⟩)) i).run P w = .ok (.pointer (some ⟨b, off + f.offset, none⟩)) w := by
  intro b off w
  simp [Instr.fieldAt, Instr.sureAddr, fieldPlace, Sem.run_bind, run_underlying hU, hf, hs, Result.andThen, Addr.add_lit]
theorem zAd {s i o b off k : Nat} {fs : Array Field} {f : Field} {x : Operand} (hU : P.underlying s = some (.struct fs)) (hf : fs[i]? = some f) (hs : ∀ w, (sizeOf f.type).run P w = .ok (k + 1) w) (hfo : f.offset = o) (ho : okO n x = true) (hx : ev ρ x = .pointer (some ⟨b, off, none⟩)) :
    Yd P (A n ρ ds) ⟨d, .fieldAddr s x i, ty, p, e, g⟩ w (.pointer (some ⟨b, off + o, none⟩)) := by
  subst hfo
  have h := fieldAt_fact hU hf hs b off w
  simp [Yd, execOp, zB6 ho, hx, Sem.run_bind, h, Result.andThen]
theorem zBl {x : Operand} {a : Addr} (ho : okO n x = true) (hx : ev ρ x = .pointer (some a)) : Yd P (A n ρ ds) ⟨d, .nilCheck x, ty, p, e, g⟩ w (.pointer (some a)) := by
  simp [Yd, execOp, zB6 ho, hx]
theorem zAi {t : TypeId} {x : Operand} {b off : Nat} {v : Value} (ha : ∀ w, (isAgg t).run P w = .ok false w) (hst : St w0 w L) (ho : okO n x = true) (hx : ev ρ x = .pointer (some ⟨b, off, none⟩)) (h : Ats w0 L b off [v]) :
    Yd P (A n ρ ds) ⟨d, .load t x, ty, p, e, g⟩ w v := by
  have := zFi ha hst h
  simp [Yd, execOp, zB6 ho, hx, Sem.run_bind, Instr.loadAt, Instr.sureAddr, this, Result.andThen]
theorem zAs {t : TypeId} {x : Operand} {b off : Nat} {vs : List Value} (ha : ∀ w, (isAgg t).run P w = .ok true w) (hs : ∀ w, (sizeOf t).run P w = .ok vs.length w) (hst : St w0 w L) (ho : okO n x = true) (hx : ev ρ x = .pointer (some ⟨b, off, none⟩)) (h : Ats w0 L b off vs) :
    Yd P (A n ρ ds) ⟨d, .load t x, ty, p, e, g⟩ w (.agg vs.toArray) := by
  have := zBv ha hs hst h
  simp [Yd, execOp, zB6 ho, hx, Sem.run_bind, Instr.loadAt, Instr.sureAddr, this, Result.andThen]
theorem zBp {x : Operand} {i : Nat} {vs : Array Value} {v : Value} (ho : okO n x = true) (hx : ev ρ x = .tuple vs) (hv : vs[i]? = some v) : Yd P (A n ρ ds) ⟨d, .extract x i, ty, p, e, g⟩ w v := by
  simp [Yd, execOp, zB6 ho, hx, Sem.run_bind, Instr.extract, hv, Result.andThen]
theorem zAq {x : Operand} {a : IntKind} {b : Int} {d : Option Tmp} {ty : TypeId} {p : String} {e : Array Edge} {g : Option (Nat × Bool)} {i : Nat} {vs : Array Value} (ho : okO n x = true) (hx : ev ρ x = .tuple vs) (hv : vs[i]? = some (.int a b)) : Yd P (A n ρ ds) ⟨d, .extract x i, ty, p, e, g⟩ w (.int a b) := zBp ho hx hv
theorem zCm {x : Operand} {a : Option Addr} {b c : Nat} {d : Option Tmp} {ty : TypeId} {p : String} {e : Array Edge} {g : Option (Nat × Bool)} {i : Nat} {vs : Array Value} (ho : okO n x = true) (hx : ev ρ x = .tuple vs) (hv : vs[i]? = some (.slice a b c)) : Yd P (A n ρ ds) ⟨d, .extract x i, ty, p, e, g⟩ w (.slice a b c) := zBp ho hx hv
theorem zBy {x : Operand} {a : Option Addr} {d : Option Tmp} {ty : TypeId} {p : String} {e : Array Edge} {g : Option (Nat × Bool)} {i : Nat} {vs : Array Value} (ho : okO n x = true) (hx : ev ρ x = .tuple vs) (hv : vs[i]? = some (.pointer a)) : Yd P (A n ρ ds) ⟨d, .extract x i, ty, p, e, g⟩ w (.pointer a) := zBp ho hx hv
theorem zBf {x : Operand} {a : Bool} {d : Option Tmp} {ty : TypeId} {p : String} {e : Array Edge} {g : Option (Nat × Bool)} {i : Nat} {vs : Array Value} (ho : okO n x = true) (hx : ev ρ x = .tuple vs) (hv : vs[i]? = some (.bool a)) : Yd P (A n ρ ds) ⟨d, .extract x i, ty, p, e, g⟩ w (.bool a) := zBp ho hx hv
theorem zBd {t el : TypeId} {x : Operand} {a : Option Addr} {l c : Nat} (hU : P.underlying t = some (.slice el)) (ho : okO n x = true) (hx : ev ρ x = .slice a l c) :
    Yd P (A n ρ ds) ⟨d, .call ⟨.builtin .len, #[x], #[t]⟩, ty, p, e, g⟩ w (.int .i64 l) := by
  simp [Yd, execOp, resolve, zB6 ho, hx, Sem.run_bind, invoke, builtin, Builtin.len_, run_underlying hU, Result.andThen, goInt]
theorem y_lenStr {t : TypeId} {x : Operand} {s : ByteArray} (hU : P.underlying t = some .string) (ho : okO n x = true) (hx : ev ρ x = .string s) :
    Yd P (A n ρ ds) ⟨d, .call ⟨.builtin .len, #[x], #[t]⟩, ty, p, e, g⟩ w (.int .i64 s.size) := by
  simp [Yd, execOp, resolve, zB6 ho, hx, Sem.run_bind, invoke, builtin, Builtin.len_, run_underlying hU, Result.andThen, goInt]
theorem zA7 {t el sz : Nat} {x y : Operand} {b off l c i : Nat} {k : IntKind} {z : Int} (hU : P.underlying t = some (.slice el)) (hsz : ∀ w, (sizeOf el).run P w = .ok sz w) (ho : okO n x = true) (ho1 : okO n y = true)
    (hx : ev ρ x = .slice (some ⟨b, off, none⟩) l c) (hy : ev ρ y = .int k z) (hz : z = (i : Int)) (hi : i < l) :
    Yd P (A n ρ ds) ⟨d, .indexAddr t x y, ty, p, e, g⟩ w (.pointer (some ⟨b, off + i * sz, none⟩)) := by
  subst hz
  have h2 : (0 : Int) ≤ (i : Int) ∧ (i : Int) < (l : Int) := ⟨by omega, by omega⟩
  simp [Yd, execOp, zB6 ho, zB6 ho1, hx, hy, Sem.run_bind, Instr.indexAt, asIntOf, run_underlying hU, hsz, Result.andThen, Addr.add_lit, hi]
theorem zBn {t el sz len : Nat} {x y : Operand} {b off i : Nat} {k : IntKind} {z : Int} (hU : P.underlying t = some (.array len el)) (hsz : ∀ w, (sizeOf el).run P w = .ok sz w) (ho : okO n x = true) (ho1 : okO n y = true)
    (hx : ev ρ x = .pointer (some ⟨b, off, none⟩)) (hy : ev ρ y = .int k z) (hz : z = (i : Int)) (hi : i < len) :
    Yd P (A n ρ ds) ⟨d, .indexAddr t x y, ty, p, e, g⟩ w (.pointer (some ⟨b, off + i * sz, none⟩)) := by
  subst hz
  simp [Yd, execOp, zB6 ho, zB6 ho1, hx, hy, Sem.run_bind, Instr.indexAt, asIntOf, Instr.sureAddr, run_underlying hU, hsz, Result.andThen, Addr.add_lit, hi]
theorem y_strEq {t t2 : TypeId} {x y : Operand} {a b : ByteArray} (ho : okO n x = true) (ho1 : okO n y = true) (hx : ev ρ x = .string a) (hy : ev ρ y = .string b) :
    Yd P (A n ρ ds) ⟨d, .binOp .eql t x y t2, ty, p, e, g⟩ w (.bool (decide (a = b))) := by
  have : (a.toList == b.toList) = decide (a = b) := bytes_beq a b
  simp [Yd, execOp, zB6 ho, zB6 ho1, hx, hy, eqGuard_at_string, Sem.run_bind, binOp, Op.stringOp, Result.andThen, this]
theorem y_strNe {t t2 : TypeId} {x y : Operand} {a b : ByteArray} (ho : okO n x = true) (ho1 : okO n y = true) (hx : ev ρ x = .string a) (hy : ev ρ y = .string b) :
    Yd P (A n ρ ds) ⟨d, .binOp .neq t x y t2, ty, p, e, g⟩ w (.bool (!decide (a = b))) := by
  have : (a.toList == b.toList) = decide (a = b) := bytes_beq a b
  simp [Yd, execOp, zB6 ho, zB6 ho1, hx, hy, eqGuard_at_string, Sem.run_bind, binOp, Op.stringOp, Result.andThen, this, bne]
theorem zCl {f : FuncId} {fi ca : Array Operand} {fv cv : List Value} (ho : fi.toList.all (okO n) = true) (ho1 : ca.toList.all (okO n) = true) (hf : fi.toList.map (ev ρ) = fv) (hc : ca.toList.map (ev ρ) = cv) :
    Yd P (A n ρ ds) ⟨d, .makeFunc (.func f) fi ca, ty, p, e, g⟩ w (.func (.func f) fv.toArray cv.toArray) := by
  have m : ∀ (xs : Array Operand), xs.toList.all (okO n) = true → xs.map (A n ρ ds).eval = (xs.toList.map (ev ρ)).toArray := by
    intro xs hxs
    apply Array.ext'
    simp only [Array.toList_map]
    exact List.map_congr_left fun x hx => zB6 (List.all_eq_true.1 hxs x hx)
  simp [Yd, execOp, m fi ho, m ca ho1, hf, hc, Instr.makeFunc, Sem.run_bind, Result.andThen]
end yields

section writes
variable {r : Option Nat} {P : Program} {ops : Array Oper} {Q : Exit → Act → World → Prop} {rest : List Oper} {n : Nat} {ρ : Nat → Value} {ds : List Deferred} {d : Option Tmp} {ty : TypeId} {p : String} {e : Array Edge} {g : Option (Nat × Bool)}
theorem zAu {x : Operand} {k : IntKind} {z : Int} {d : Option Tmp} {ty : TypeId} {p : String} {e : Array Edge} {g : Option (Nat × Bool)} (ho : okO n x = true) (hv : ev ρ x = .int k z) : Yd P (A n ρ ds) ⟨d, .move x, ty, p, e, g⟩ w (.int k z) := zBo ho hv
theorem zC3 {x : Operand} {k : IntKind} {z : Int} {d : Option Tmp} {ty : TypeId} {p : String} {e : Array Edge} {g : Option (Nat × Bool)} (ho : okO n x = true) (hv : ev ρ x = .int k z) : Yd P (A n ρ ds) ⟨d, .assign x, ty, p, e, g⟩ w (.int k z) := zB9 ho hv
theorem zA2 {d : Nat} {x : Operand} {t : TypeId} {p : String} {e : Array Edge} {k : IntKind} {z : Int} (ho : okO n x = true) (hv : ev ρ x = .int k z) (hk : WL r P ops Q rest (A n (upd ρ d (.int k z)) ds) w) : WL r P ops Q (⟨some d, .move x, t, p, e, none⟩ :: rest) (A n ρ ds) w := w_p (zAu ho hv) rfl hk
theorem zBg {d : Nat} {x : Operand} {t : TypeId} {p : String} {e : Array Edge} {k : IntKind} {z : Int} (ho : okO n x = true) (hv : ev ρ x = .int k z) (hk : WL r P ops Q rest (A n (upd ρ d (.int k z)) ds) w) : WL r P ops Q (⟨some d, .assign x, t, p, e, none⟩ :: rest) (A n ρ ds) w := w_p (zC3 ho hv) rfl hk
theorem zA9 {d : Nat} {x : Operand} {t : TypeId} {p : String} {e : Array Edge} {v : Value} (ho : okO n x = true) (hv : ev ρ x = v) (hk : WL r P ops Q rest (A n (upd ρ d v) ds) w) : WL r P ops Q (⟨some d, .assign x, t, p, e, none⟩ :: rest) (A n ρ ds) w := w_p (zB9 ho hv) rfl hk
theorem zA5 {d : Nat} {t : TypeId} {z : Value} {cs : List Value} (hw : Want ops (A n ρ ds) ⟨some d, .alloc t, ty, p, e, g⟩) (hz : ∀ w, (zeroValue t).run P w = .ok z w) (hc : z.cells = cs.toArray) (hst : St w0 w L)
    (hk : ∀ b w', St w0 w' ((b, blk t cs) :: L) → WL r P ops Q rest (A n (upd ρ d (.pointer (some ⟨b, 0, none⟩))) ds) w') :
    WL r P ops Q (⟨some d, .alloc t, ty, p, e, g⟩ :: rest) (A n ρ ds) w := by
  refine w_val (v := .pointer (some ⟨w.heap.size, 0, none⟩)) (w' := w.alloc (blk t cs)) hw ?_ rfl (hk _ _ (hst.alloc _))
  simp [execOp, Instr.alloc, Sem.run_bind, hz, newVar, newRow, hc, Result.andThen, blk]
theorem zCd {d : Nat} {t : TypeId} {x : Operand} {v : Value} {cs : List Value} (hw : Want ops (A n ρ ds) ⟨some d, .box t x, ty, p, e, g⟩) (ho : okO n x = true) (hx : ev ρ x = v) (hc : v.cells = cs.toArray) (hst : St w0 w L)
    (hk : ∀ b w', St w0 w' ((b, blk t cs) :: L) → WL r P ops Q rest (A n (upd ρ d (.pointer (some ⟨b, 0, none⟩))) ds) w') :
    WL r P ops Q (⟨some d, .box t x, ty, p, e, g⟩ :: rest) (A n ρ ds) w := by
  refine w_val (v := .pointer (some ⟨w.heap.size, 0, none⟩)) (w' := w.alloc (blk t cs)) hw ?_ rfl (hk _ _ (hst.alloc _))
  simp [execOp, Instr.box, Sem.run_bind, newVar, newRow, zB6 ho, hx, hc, Result.andThen, blk]
def setMany (cs : List Value) (off : Nat) : List Value → List Value
  | [] => cs
  | v :: vs => setMany (cs.set off v) (off + 1) vs
theorem zEd {b off : Nat} {t : TypeId} {i : Nat} : ∀ (vs : List Value) (j : Nat) (cs : List Value) (w : World) (L : List (Nat × Obj)), St w0 w L → L[i]? = some (b, blk t cs) → off + j + vs.length ≤ cs.length → (∀ v ∈ vs, v.oneCell' = true) →
    ∃ w', (storeCells ⟨b, off, none⟩ vs j).run P w = .ok () w' ∧ St w0 w' (L.set i (b, blk t (setMany cs (off + j) vs)))
  | [], j, cs, w, L, hst, hi, _, _ => ⟨w, rfl, by
      have : L.set i (b, blk t cs) = L := by
        apply List.ext_getElem?
        intro k
        rw [List.getElem?_set]
        split
        · rename_i e; subst e; rw [if_pos (List.getElem?_eq_some_iff.1 hi).1]; exact hi.symm
        · rfl
      simp only [setMany, this]; exact hst⟩
  | v :: vs, j, cs, w, L, hst, hi, hle, h1 => by
    simp only [List.length_cons] at hle
    have hlt : off + j < cs.length := by omega
    have hv : cs[off + j]? = some (cs[off + j]'hlt) := List.getElem?_eq_getElem hlt
    have hcell := hst.cell hi hv
    have hfree := hst.free (off := off + j) hi
    have hst1 := hst.setCell hi (off + j) v
    have hi1 : (L.set i (b, blk t (cs.set (off + j) v)))[i]? = some (b, blk t (cs.set (off + j) v)) := by
      rw [List.getElem?_set]; simp [(List.getElem?_eq_some_iff.1 hi).1]
    obtain ⟨w', hr, hst'⟩ := zEd (b := b) (off := off) (t := t) (i := i) vs (j + 1) (cs.set (off + j) v) _ _ hst1 hi1 (by simp; omega) (fun u hu => h1 u (.tail _ hu))
    refine ⟨w', ?_, ?_⟩
    · unfold storeCells
      rw [Sem.run_bind, Addr.add_lit]
      have hs : (store ⟨b, off + j, none⟩ v).run P w = .ok () (w.setCell ⟨b, off + j, none⟩ v) := by
        rw [run_store P w _ _ _ (h1 v (.head _))]
        simp [stored, hcell, hfree]
      rw [hs]
      exact hr
    · rw [List.set_set] at hst'
      exact hst'
theorem zD9 {t : TypeId} {x y : Operand} {b off i : Nat} {tb : TypeId} {cs : List Value} {v : Value} {vs : List Value} (hw : Want ops (A n ρ ds) ⟨none, .store t x y, ty, p, e, g⟩) (hs : ∀ w, (sizeOf t).run P w = .ok vs.length w)
    (ho : okO n x = true) (ho1 : okO n y = true) (hx : ev ρ x = .pointer (some ⟨b, off, none⟩)) (hy : ev ρ y = v) (hc : v.cells = vs.toArray) (h1 : ∀ u ∈ vs, u.oneCell' = true) (hst : St w0 w L) (hi : L[i]? = some (b, blk tb cs))
    (hle : off + vs.length ≤ cs.length)
    (hk : ∀ w', St w0 w' (L.set i (b, blk tb (setMany cs off vs))) → WL r P ops Q rest (A n ρ ds) w') :
    WL r P ops Q (⟨none, .store t x y, ty, p, e, g⟩ :: rest) (A n ρ ds) w := by
  obtain ⟨w', hr, hst'⟩ := zEd (P := P) vs 0 cs w L hst hi (by omega) h1
  refine w_unit hw (w' := w') ?_ rfl (hk w' (by simpa using hst'))
  have hsz : v.cells.size = vs.length := by rw [hc]; simp
  have hne : ¬ (v.cells.size ≠ vs.length) := fun h => h hsz
  simp only [execOp, Instr.storeAt, Instr.sureAddr, zB6 ho, zB6 ho1, hx, hy, Sem.run_bind, Sem.run_pure, Result.andThen, storeVar, hs]
  rw [if_neg hne]
  simp only [Sem.run_pure, Result.andThen, hc, List.toList_toArray, hr]
theorem zBt (i : Nat) (v : Value) (vs : List Value) {t : TypeId} {x y : Operand} {b off : Nat} {tb : TypeId} {cs : List Value} {p : String} {e : Array Edge} {ty : TypeId} (hs : ∀ w, (sizeOf t).run P w = .ok vs.length w) (hst : St w0 w L) (hk : ∀ w', St w0 w' (L.set i (b, blk tb (setMany cs off vs))) → WL r P ops Q rest (A n ρ ds) w')
    (ho : okO n x = true := by exact rfl) (ho1 : okO n y = true := by exact rfl) (hx : ev ρ x = .pointer (some ⟨b, off, none⟩) := by exact rfl) (hy : ev ρ y = v := by exact rfl) (hc : v.cells = vs.toArray := by exact rfl) (hi : L[i]? = some (b, blk tb cs) := by exact rfl) (h1 : ∀ u ∈ vs, u.oneCell' = true := by simp [Value.oneCell'])
    (hle : off + vs.length ≤ cs.length := by exact Nat.le_of_ble_eq_true rfl) : WL r P ops Q (⟨none, .store t x y, ty, p, e, none⟩ :: rest) (A n ρ ds) w := zD9 zAc hs ho ho1 hx hy hc h1 hst hi hle hk
end writes
def jn (ps : List (List (Nat × Obj))) (F : List (Nat × Obj)) : List (Nat × Obj) := ps.foldr (· ++ ·) F
def pkB : List Nat → Bool
  | [] => true
  | i :: o => !o.contains i && pkB o
theorem jn_out (F : List (Nat × Obj)) : ∀ (ps : List (List (Nat × Obj))) (i : Nat), (jn ps F).Perm (ps.getD i [] ++ jn (ps.set i []) F)
  | [], i => List.Perm.refl _
  | p :: ps, 0 => List.Perm.refl _
  | p :: ps, i + 1 => by
    have h := (jn_out F ps i).append_left p
    refine h.trans ?_
    show (p ++ (ps.getD i [] ++ jn (ps.set i []) F)).Perm (ps.getD i [] ++ (p ++ jn (ps.set i []) F))
    rw [← List.append_assoc, ← List.append_assoc]
    exact List.Perm.append_right _ List.perm_append_comm
theorem jn_none (F : List (Nat × Obj)) : ∀ (ps : List (List (Nat × Obj))), ∃ Y, jn ps F = Y ++ F
  | [] => ⟨[], rfl⟩
  | p :: ps => by obtain ⟨Y, h⟩ := jn_none F ps; exact ⟨p ++ Y, by show p ++ jn ps F = _; rw [h, List.append_assoc]⟩
theorem St.pk0 {w0 w : World} {F : List (Nat × Obj)} : ∀ (o : List Nat) (ps : List (List (Nat × Obj))) (P : List (Nat × Obj)), pkB o = true → St w0 w (P ++ jn ps F) → St w0 w (P ++ jn (o.map fun i => ps.getD i []) F)
  | [], ps, P, _, h => by
    obtain ⟨Y, e⟩ := jn_none F ps
    rw [e] at h
    have h2 : St w0 w (Y ++ (P ++ F)) := h.perm (by rw [← List.append_assoc, ← List.append_assoc]; exact List.Perm.append_right _ List.perm_append_comm)
    exact h2.drop
  | i :: o, ps, P, hok, h => by
    have hok2 : o.contains i = false ∧ pkB o = true := by simpa [pkB] using hok
    have h2 : St w0 w ((P ++ ps.getD i []) ++ jn (ps.set i []) F) := by rw [List.append_assoc]; exact h.perm ((jn_out F ps i).append_left P)
    have h3 := St.pk0 o (ps.set i []) (P ++ ps.getD i []) hok2.2 h2
    have e : (o.map fun k => (ps.set i []).getD k []) = o.map fun k => ps.getD k [] := by
      apply List.map_congr_left
      intro k hk
      have hne : i ≠ k := by
        rintro rfl
        have : o.contains i = true := by simpa using hk
        rw [hok2.1] at this; cases this
      simp [List.getD, List.getElem?_set_ne hne]
    rw [e, List.append_assoc] at h3
    exact h3
theorem St.pk {w0 w : World} {F : List (Nat × Obj)} (ps : List (List (Nat × Obj))) (o : List Nat) (h : St w0 w (jn ps F)) (hok : pkB o = true := by rfl) : St w0 w (jn (o.map fun i => ps.getD i []) F) := St.pk0 o ps [] hok h
end Go.Rt
/- The walking engine, part 3: loops, cuts, slices that are read, slices that a call makes and appends to. No conditions. -/
namespace Go.Rt
open Go.RowKit

def mix (D : List Nat) (ρ0 μ : Nat → Value) : Nat → Value := fun i => bif D.elem i then μ i else ρ0 i
def Agree (D : List Nat) (ρ0 ρ : Nat → Value) : Prop := ∀ i, D.elem i = false → ρ i = ρ0 i
def updL (ρ : Nat → Value) : List Nat → List Value → Nat → Value
  | s :: S, v :: vs => upd (updL ρ S vs) s v
  | _, _ => ρ
theorem zHi {D : List Nat} {ρ : Nat → Value} : Agree D ρ ρ := fun _ _ => rfl
theorem zD4 {D : List Nat} {ρ0 μ : Nat → Value} : Agree D ρ0 (mix D ρ0 μ) := fun i h => by simp only [mix, h, cond_false]
theorem zD3 {D : List Nat} {ρ0 ρ : Nat → Value} {d : Nat} {v : Value} (hd : D.elem d = true) (h : Agree D ρ0 ρ) : Agree D ρ0 (upd ρ d v) := fun i hi => by
  have : i ≠ d := fun e => by subst e; rw [hi] at hd; cases hd
  rw [upd_ne this]; exact h i hi
theorem zD0 {D S : List Nat} {ρ0 ρ : Nat → Value} (hS : S.all (D.elem ·) = true) (h : Agree D ρ0 ρ) : ∀ vs, Agree D ρ0 (updL ρ S vs) := by
  induction S with
  | nil => intro vs; exact h
  | cons s S ih =>
    intro vs
    simp only [List.all_cons, Bool.and_eq_true] at hS
    cases vs with
    | nil => exact h
    | cons v vs => exact zD3 hS.1 (ih hS.2 vs)
theorem agree_trans {D : List Nat} {a b c : Nat → Value} (h : Agree D a b) (k : Agree D b c) : Agree D a c := fun i hi => (k i hi).trans (h i hi)
theorem agree_sub {D D' : List Nat} {a b : Nat → Value} (hs : D'.all (D.elem ·) = true) (h : Agree D' a b) : Agree D a b := fun i hi => h i (by
  cases hb : D'.elem i
  · rfl
  · have hm : i ∈ D' := by simpa using hb
    have := List.all_eq_true.1 hs i hm
    rw [hi] at this; cases this)
theorem upd_self (ρ : Nat → Value) (s : Nat) : upd ρ s (ρ s) = ρ := by
  funext i
  by_cases h : i = s
  · subst h; exact upd_same _ _ _
  · exact upd_ne h
theorem updL_self (ρ : Nat → Value) (S : List Nat) : updL ρ S (S.map ρ) = ρ := by
  induction S with
  | nil => rfl
  | cons s S ih => simp only [List.map_cons, updL, ih, upd_self]
theorem mix_self {D : List Nat} {ρ0 ρ : Nat → Value} (h : Agree D ρ0 ρ) : mix D ρ0 ρ = ρ := by
  funext i
  unfold mix
  cases hb : D.elem i
  · exact (h i hb).symm
  · rfl
theorem zFm {D : List Nat} {ρ0 ρ : Nat → Value} (S : List Nat) (h : Agree D ρ0 ρ) : updL (mix D ρ0 ρ) S (S.map ρ) = ρ := by rw [mix_self h, updL_self]

variable {r : Option Nat} {P : Program} {ops : Array Oper} {Q : Exit → Act → World → Prop} {rest : List Oper} {n : Nat} {ρ : Nat → Value} {ds : List Deferred} {w w0 : World} {L : List (Nat × Obj)}

def Nx (n : Nat) (ds : List Deferred) (D S : List Nat) (ρ : Nat → Value) (I : Nat → List Value → World → Prop) (k : Nat) (a : Act) (w : World) : Prop :=
  ∃ ρ' k', a = A n ρ' ds ∧ Agree D ρ ρ' ∧ k' < k ∧ I k' (S.map ρ') w
theorem Nx.intro {D S : List Nat} {I : Nat → List Value → World → Prop} {k : Nat} {ρ' : Nat → Value} (k' : Nat) (hk : k' < k) (ha : Agree D ρ ρ') (hI : I k' (S.map ρ') w) : Nx n ds D S ρ I k (A n ρ' ds) w :=
  ⟨ρ', k', rfl, ha, hk, hI⟩
theorem nxI {D S : List Nat} {I : Nat → List Value → World → Prop} {k : Nat} {ρ' : Nat → Value} (k' : Nat) (hk : k' < k) (hI : I k' (S.map ρ') w) (ha : Agree D ρ ρ' := by repeat (first | exact zD4 | refine zD3 rfl ?_ | refine zD0 rfl ?_ _ | refine agree_mixin rfl ?_)) : Nx n ds D S ρ I k (A n ρ' ds) w := Nx.intro k' hk ha hI
open Classical in
theorem zB2 {c : Code} (D S : List Nat) (I : Nat → List Value → World → Prop) (k0 : Nat) (h0 : I k0 (S.map ρ) w)
    (round : ∀ k vs μ w, I k vs w → ∀ K : Act → World → Prop, (∀ a w, Nx n ds D S ρ I k a w → K a w) → WC r P c (Exit.then K Q) (A n (updL (mix D ρ μ) S vs) ds) w) :
    WC r P (.loop c) Q (A n ρ ds) w := by
  let J : Nat → Act → World → Prop := fun k a w => ∃ vs μ, a = A n (updL (mix D ρ μ) S vs) ds ∧ I k vs w
  refine wpIn_loop (fun a w => ∃ k, J k a w) (fun a w => leastOf fun k => J k a w) ⟨k0, S.map ρ, ρ, by rw [zFm S zHi], h0⟩ ?_
  intro a w hI
  obtain ⟨vs, μ, ha, hi⟩ := (leastOf_spec hI).1
  subst ha
  refine wpIn_mono (round _ vs μ w hi _ fun _ _ h => h) ?_
  intro e a' w' hq
  cases e with
  | normal =>
    obtain ⟨ρ', k', rfl, hag, hlt, hI'⟩ := hq
    have hJ : J k' (A n ρ' ds) w' := ⟨S.map ρ', ρ', by rw [zFm S hag], hI'⟩
    exact show (∃ k, J k (A n ρ' ds) w') ∧ leastOf (fun k => J k (A n ρ' ds) w') < leastOf (fun k => J k _ w) from ⟨⟨k', hJ⟩, Nat.lt_of_le_of_lt ((leastOf_spec ⟨k', hJ⟩).2 k' hJ) hlt⟩
  | exit id => exact hq
  | goto l => exact hq
  | ret => exact hq
  | panic ch => exact hq
  | outgrown => exact hq
def Md (n : Nat) (ds : List Deferred) (D S : List Nat) (ρ : Nat → Value) (M : List Value → World → Prop) (a : Act) (w : World) : Prop :=
  ∃ ρ', a = A n ρ' ds ∧ Agree D ρ ρ' ∧ M (S.map ρ') w
theorem Md.intro {D S : List Nat} {M : List Value → World → Prop} {ρ' : Nat → Value} (ha : Agree D ρ ρ') (hM : M (S.map ρ') w) : Md n ds D S ρ M (A n ρ' ds) w := ⟨ρ', rfl, ha, hM⟩
theorem mdI {D S : List Nat} {M : List Value → World → Prop} {ρ' : Nat → Value} (hM : M (S.map ρ') w) (ha : Agree D ρ ρ' := by repeat (first | exact zHi | exact zD4 | refine zD3 rfl ?_ | refine zD0 rfl ?_ _ | refine agree_mixin rfl ?_)) : Md n ds D S ρ M (A n ρ' ds) w := Md.intro ha hM
theorem w_cut {c : Code} (D S : List Nat) (M : List Value → World → Prop)
    (h : ∀ K : Act → World → Prop, (∀ a w, Md n ds D S ρ M a w → K a w) → WC r P c (Exit.then K Q) (A n ρ ds) w)
    (k : ∀ vs μ w', M vs w' → Q .normal (A n (updL (mix D ρ μ) S vs) ds) w') : WC r P c Q (A n ρ ds) w := by
  refine wpIn_mono (h _ fun _ _ h => h) ?_
  intro e a' w' hq
  cases e with
  | normal =>
    obtain ⟨ρ', rfl, hag, hM⟩ := hq
    have := k (S.map ρ') ρ' w' hM
    rw [zFm S hag] at this
    exact this
  | exit id => exact hq
  | goto l => exact hq
  | ret => exact hq
  | panic ch => exact hq
  | outgrown => exact hq
theorem w_scope {c : Code} {a : Act} (h : WC r P c (Exit.noGoto Q) a w) : WC r P (.scope c) Q a w := by
  intro b k cs hro hb hr
  obtain ⟨e, a', w', hq, harr⟩ := h b (.inScope c :: k) cs hro hb hr
  have s1 : StepsIn (Machine.fenced P (FW r)) P (lone (b.atR a (.code (.scope c) :: k)) cs w) (lone (b.atR a (.code c :: .inScope c :: k)) cs w) :=
    .one (fenced_calm hb hr rfl) (step_lone_go (by simp [stepG, stepG.exec, Frame.atR]))
  cases e with
  | normal =>
    refine ⟨.normal, a', w', hq, s1.trans (StepsIn.trans harr (.one (fenced_calm hb hr rfl) (step_lone_go (by simp [stepG, stepG.exec, Frame.atR]))))⟩
  | exit id =>
    refine ⟨.exit id, a', w', hq, .of_steps s1 ?_⟩
    have hx : exitTo id (.inScope c :: k) = exitTo id k := by simp [exitTo]
    exact ⟨fun k' hk => harr.1 k' (by rw [hx]; exact hk), fun hr' hk => harr.2 hr' (by rw [hx]; exact hk)⟩
  | goto l => exact hq.elim
  | ret => exact ⟨.ret, a', w', hq, .of_steps s1 harr⟩
  | panic ch => exact ⟨.panic ch, a', w', hq, .of_steps s1 harr⟩
  | outgrown => exact ⟨.outgrown, a', w', hq, .of_steps (b := b) (k := k) (cs := cs) (e := .outgrown) s1 harr⟩
theorem q_ng_normal {a : Act} (h : Q .normal a w) : Exit.noGoto Q .normal a w := h
theorem zGl {a : Act} (h : Q .ret a w) : Exit.noGoto Q .ret a w := h
def Sl (w0 : World) (L : List (Nat × Obj)) (a : Option Addr) (sz : Nat) (rows : List (List Value)) : Prop :=
  rows = [] ∨ ∃ b off, a = some ⟨b, off, none⟩ ∧ ∀ i row, rows[i]? = some row → row.length = sz ∧ Ats w0 L b (off + i * sz) row
theorem Sl.at {a : Option Addr} {sz i : Nat} {rows : List (List Value)} {row : List Value} (h : Sl w0 L a sz rows) (hi : rows[i]? = some row) :
    ∃ b off, a = some ⟨b, off, none⟩ ∧ row.length = sz ∧ Ats w0 L b (off + i * sz) row := by
  rcases h with rfl | ⟨b, off, ha, h⟩
  · simp at hi
  · exact ⟨b, off, ha, h i row hi⟩
theorem Sl.mono {L' : List (Nat × Obj)} {a : Option Addr} {sz : Nat} {rows : List (List Value)} (h : Sl w0 L a sz rows) (hs : ∀ w, St w0 w L' → St w0 w L) : Sl w0 L' a sz rows := by
  rcases h with h | ⟨b, off, ha, h⟩
  · exact .inl h
  · exact .inr ⟨b, off, ha, fun i row hi => ⟨(h i row hi).1, (h i row hi).2.mono hs⟩⟩
theorem Sl.cons {x : Nat × Obj} {a : Option Addr} {sz : Nat} {rows : List (List Value)} (h : Sl w0 L a sz rows) : Sl w0 (x :: L) a sz rows := h.mono fun _ hs => hs.tail
theorem Sl.app {L' : List (Nat × Obj)} {a : Option Addr} {sz : Nat} {rows : List (List Value)} (h : Sl w0 L a sz rows) : Sl w0 (L' ++ L) a sz rows := h.mono fun _ hs => hs.drop
theorem Ats.cons {x : Nat × Obj} {b off : Nat} {vs : List Value} (h : Ats w0 L b off vs) : Ats w0 (x :: L) b off vs := h.mono fun _ hs => hs.tail
theorem Ats.app {L' : List (Nat × Obj)} {b off : Nat} {vs : List Value} (h : Ats w0 L b off vs) : Ats w0 (L' ++ L) b off vs := h.mono fun _ hs => hs.drop
theorem Sl.nil (a : Option Addr) (sz : Nat) : Sl w0 L a sz [] := .inl rfl
theorem zBx {i b sz : Nat} {t : TypeId} {cs : List Value} {rows : List (List Value)} (hi : L[i]? = some (b, blk t cs)) (hr : ∀ row ∈ rows, row.length = sz) (hc : cs.take (rows.length * sz) = rows.flatten) :
    Sl w0 L (some ⟨b, 0, none⟩) sz rows := by
  refine .inr ⟨b, 0, rfl, fun j row hj => ?_⟩
  have hlen := hr row (List.mem_of_getElem? hj)
  refine ⟨hlen, ?_⟩
  have key : ∀ (rows : List (List Value)) (j : Nat) (row : List Value), rows[j]? = some row → (∀ row ∈ rows, row.length = sz) → (rows.flatten.drop (j * sz)).take sz = row := by
    intro rows
    induction rows with
    | nil => intro j row h _; simp at h
    | cons x rows ih =>
      intro j row h hr
      have hx := hr x (.head _)
      cases j with
      | zero =>
        simp at h; subst h
        simp [← hx]
      | succ j =>
        simp only [List.getElem?_cons_succ] at h
        have := ih j row h (fun y hy => hr y (.tail _ hy))
        rw [List.flatten_cons, Nat.succ_mul, Nat.add_comm, List.drop_append]
        rw [List.drop_eq_nil_of_le (by omega), List.nil_append, show sz + j * sz - x.length = j * sz from by omega]
        exact this
  refine zBm hi ?_
  rw [hlen, Nat.zero_add]
  have h1 := key rows j row hj hr
  rw [← hc] at h1
  have hjl := (List.getElem?_eq_some_iff.1 hj).1
  have hle : j * sz + sz ≤ rows.length * sz := by
    have := Nat.mul_le_mul_right sz (show j + 1 ≤ rows.length by omega)
    rw [Nat.succ_mul] at this; exact this
  rw [List.drop_take, List.take_take, Nat.min_eq_left (by omega)] at h1
  exact h1

def Own (v : Value) (t : TypeId) (sz n : Nat) (xs : List Value) (B : List (Nat × Obj)) : Prop :=
  xs.length = n * sz ∧ ((v = .slice none 0 0 ∧ n = 0 ∧ B = []) ∨
    ∃ b cap cs, v = .slice (some ⟨b, 0, none⟩) n cap ∧ B = [(b, blk t cs)] ∧ n ≤ cap ∧ cap ≤ maxLen ∧ cs.length = cap * sz ∧ cs.take (n * sz) = xs)
theorem zEv (t : TypeId) (sz : Nat) : Own (.slice none 0 0) t sz 0 [] [] := ⟨by simp, .inl ⟨rfl, rfl, rfl⟩⟩
theorem Own.slice {v : Value} {t : TypeId} {sz n : Nat} {xs : List Value} {B : List (Nat × Obj)} (h : Own v t sz n xs B) : ∃ a cap, v = .slice a n cap := by
  rcases h.2 with ⟨rfl, rfl, _⟩ | ⟨b, cap, cs, rfl, _⟩
  · exact ⟨none, 0, rfl⟩
  · exact ⟨_, _, rfl⟩
theorem Own.sl {v : Value} {t : TypeId} {sz n : Nat} {xs : List Value} {B : List (Nat × Obj)} {rows : List (List Value)} (h : Own v t sz n xs B) (hr : ∀ row ∈ rows, row.length = sz) (hn : rows.length = n) (hx : xs = rows.flatten) (F : List (Nat × Obj)) :
    ∃ a cap, v = .slice a rows.length cap ∧ Sl w0 (B ++ F) a sz rows := by
  subst hn
  rcases h.2 with ⟨rfl, h0, rfl⟩ | ⟨b, cap, cs, rfl, rfl, _,_,_, ht⟩
  · rw [List.length_eq_zero_iff] at h0
    subst h0
    exact ⟨none, 0, rfl, .inl rfl⟩
  · exact ⟨_, _, rfl, zBx (i := 0) rfl hr (by rw [ht, hx])⟩
theorem St.push {w' : World} (h : St w0 w L) (b : Nat) (o : Obj) (hb : w.heap.size ≤ b) (hg : w'.heap[b]? = some o) (hs : w.heap.size ≤ w'.heap.size) (ho : ∀ k, k < w.heap.size → w'.heap[k]? = w.heap[k]?)
    (e1 : w'.os = w.os) (e2 : w'.tape = w.tape) (e3 : w'.output = w.output) : St w0 w' ((b, o) :: L) := by
  have hle := h.le
  refine ⟨h.below.trans ⟨e1, e2, e3, hs, fun k hk => ho k (by omega)⟩, ?_, ?_⟩
  · intro x hx
    cases hx with
    | head => exact ⟨by show w0.heap.size ≤ b; omega, hg⟩
    | tail _ hx => exact ⟨(h.has x hx).1, by rw [ho _ (h.lt hx)]; exact (h.has x hx).2⟩
  · simp only [List.map_cons, List.nodup_cons]
    refine ⟨?_, h.nd⟩
    intro hm
    obtain ⟨x, hx, he⟩ := List.mem_map.1 hm
    have := h.lt hx
    omega
theorem run_append {t ty el : TypeId} {i : TypeInfo} {z : Value} {sz bytes : Nat} (ht : P.underlying t = some (.slice el)) (hi : P.info? el = some i) (hz : i.zero = some z) (hsize : i.size = sz) (hby : i.bytes = bytes) (hzs : z.cells.size = sz) (hsz : 0 < sz)
    {v : Value} {n m c : Nat} {xs : List Value} {B : List (Nat × Obj)} (hst : St w0 w (B ++ L)) (hown : Own v el sz n xs B) {ax : Option Addr} {rows : List (List Value)} (hsl : Sl w0 (B ++ L) ax sz rows) (hm : rows.length = m)
    (hnil : ax = none → c = 0) (h1 : ∀ row ∈ rows, ∀ u ∈ row, u.oneCell' = true) (h63 : n + m ≤ maxLen) (hbytes : (n + m) * bytes ≤ 140737488355328) :
    ∃ v' w' B', (Builtin.append_ #[t, t] ty #[v, .slice ax m c]).run P w = .ok v' w' ∧ Own v' el sz (n + m) (xs ++ rows.flatten) B' ∧ St w0 w' (B' ++ L) := by
  subst hsize hby
  have hsmall : n + m ≤ 9223372036854775807 := by simp only [maxLen] at h63; omega
  have hrl : ∀ row ∈ rows, row.length = i.size := by
    intro row hr
    obtain ⟨j, hj⟩ := List.mem_iff_getElem?.1 hr
    obtain ⟨_, _,_, h, _⟩ := hsl.at hj
    exact h
  have flen : ∀ (rows : List (List Value)), (∀ row ∈ rows, row.length = i.size) → rows.flatten.length = rows.length * i.size := by
    intro rows
    induction rows with
    | nil => intro _; simp
    | cons x rows ih =>
      intro hr
      rw [List.flatten_cons, List.length_append, ih (fun y hy => hr y (.tail _ hy)), hr x (.head _), List.length_cons, Nat.succ_mul, Nat.add_comm]
  have hl : rows.flatten.length = m * i.size := by rw [flen rows hrl, hm]
  have h1' : ∀ u ∈ rows.flatten, u.oneCell' = true := by
    intro u hu
    obtain ⟨row, hr, hu⟩ := List.mem_flatten.1 hu
    exact h1 row hr u hu
  have hlen : (xs ++ rows.flatten).length = (n + m) * i.size := by rw [List.length_append, hown.1, hl, Nat.add_mul]
  cases ax with
  | none =>
    have hr0 : rows = [] := by
      rcases hsl with h | ⟨_, _, h, _⟩
      · exact h
      · cases h
    subst hr0
    simp only [List.length_nil] at hm
    subst hm
    have hc0 := hnil rfl
    subst hc0
    have hown' : w.ownsRow w0.heap.size el i.size v n xs := by
      refine ⟨hown.1, ?_⟩
      rcases hown.2 with ⟨h1, h2, _⟩ | ⟨b, cap, cs, h1, h2, h3, h4, h5, h6⟩
      · exact .inl ⟨h1, h2⟩
      · subst h2
        refine .inr ⟨b, cap, cs.toArray, h1, (hst.has _ (.head _)).1, hst.get (i := 0) rfl, h3, h4, by simpa using h5, by simpa using h6⟩
    have hr := run_append_owned_none (P := P) w w0.heap.size t ty el i i.size ht hi v n xs hown'
    exact ⟨v, w, B, hr, by simpa using hown, hst⟩
  | some ad =>
    have hnews : ∀ j u, rows.flatten[j]? = some u → w.cell? (ad.add j) = some u := by
      rcases hsl with h | ⟨b, off, h, hat⟩
      · subst h; intro j u hu; simp at hu
      · cases h
        intro j u hu
        rw [Addr.add_lit]
        have key : ∀ (rows : List (List Value)) (j : Nat) (u : Value), (∀ row ∈ rows, row.length = i.size) → rows.flatten[j]? = some u → ∃ k row q, rows[k]? = some row ∧ row[q]? = some u ∧ j = k * i.size + q := by
          intro rows
          induction rows with
          | nil => intro j u _ h; simp at h
          | cons x rows ih =>
            intro j u hr h
            have hx := hr x (.head _)
            rw [List.flatten_cons, List.getElem?_append] at h
            split at h
            · exact ⟨0, x, j, rfl, h, by simp⟩
            · rename_i hge
              obtain ⟨k, row, q, a1, a2, a3⟩ := ih _ u (fun y hy => hr y (.tail _ hy)) h
              exact ⟨k + 1, row, q, a1, a2, by rw [Nat.succ_mul]; omega⟩
        obtain ⟨k, row, q, a1, a2, rfl⟩ := key rows j u hrl hu
        have := (hat k row a1).2 q u a2 w hst
        rwa [Nat.add_assoc] at this
    have grown : ∀ (old : Nat), old < n + m →
        Own (.slice (some ⟨w.heap.size, 0, none⟩) (n + m) (grownCap w (n + m) old el)) el i.size (n + m) (xs ++ rows.flatten)
          [(w.heap.size, .cells (xs.toArray ++ rows.flatten.toArray ++ Builtin.zeroCells z.cells (grownCap w (n + m) old el - (n + m))) el (0,0))] ∧
        St w0 (w.drew.alloc (.cells (xs.toArray ++ rows.flatten.toArray ++ Builtin.zeroCells z.cells (grownCap w (n + m) old el - (n + m))) el))
          ([(w.heap.size, .cells (xs.toArray ++ rows.flatten.toArray ++ Builtin.zeroCells z.cells (grownCap w (n + m) old el - (n + m))) el (0,0))] ++ L) := by
      intro old ho
      have hge := grownCap_ge w (n + m) old el
      have hcm : grownCap w (n + m) old el ≤ maxLen := grownCap_le_maxLen w (n + m) old el h63
      refine ⟨⟨hlen, .inr ⟨w.heap.size, _, xs ++ rows.flatten ++ (Builtin.zeroCells z.cells (grownCap w (n + m) old el - (n + m))).toList, rfl, ?_, hge, hcm, ?_, ?_⟩⟩, ?_⟩
      · simp [blk]
      · simp only [List.length_append, Array.length_toList, size_zeroCells, hzs, hown.1, hl, ← Nat.add_mul]
        congr 1
        omega
      · rw [← hlen]
        exact List.take_left
      · have hL : St w0 w L := hst.drop
        exact hL.push w.heap.size _ (Nat.le_refl _) (heap_alloc_new w.drew _) (by simp) (fun k hk => by have := Below.heap_alloc w.drew (.cells (xs.toArray ++ rows.flatten.toArray ++ Builtin.zeroCells z.cells (grownCap w (n + m) old el - (n + m))) el) k hk; exact this) rfl rfl rfl
    rcases hown.2 with ⟨rfl, rfl, rfl⟩ | ⟨g, cap, cs, rfl, rfl, hnc, hcm, hcs, htake⟩
    · have hx : xs = [] := List.eq_nil_of_length_eq_zero (by simpa using hown.1)
      subst hx
      by_cases hm0 : m = 0
      · subst hm0
        rw [List.length_eq_zero_iff] at hm
        subst hm
        refine ⟨.slice none 0 0, w, [], ?_, by simpa using zEv el i.size, hst⟩
        simp [Builtin.append_, run_underlying ht, sizeOf, typeInfo, hi, Builtin.lenOf, Builtin.firstCells, loadCells, loadCellsFrom]
      · have hr := run_append_nil (P := P) w t ty el i z ht hi hz ad m c rows.flatten hl hnews (by omega) (by omega) (by have hb := hbytes; simp only [Nat.zero_add] at hb; omega)
        have hgr := grown 0 (by omega)
        simp only [Nat.zero_add, List.nil_append, Array.empty_append] at hgr ⊢
        exact ⟨_, _,_, hr, hgr.1, hgr.2⟩
    · have hgb : w.heap[g]? = some (.cells cs.toArray el (0,0)) := hst.get (i := 0) rfl
      by_cases hroom : n + m ≤ cap
      · have hfit : n * i.size + rows.flatten.length ≤ cs.toArray.size := by
          rw [hl]; simp only [List.size_toArray]; rw [hcs, ← Nat.add_mul]; exact Nat.mul_le_mul_right _ hroom
        have hr := run_append_room (P := P) w t ty el i ht hi g n cap cs.toArray hgb ad m c rows.flatten hl hnews h1' hroom hfit
        refine ⟨_, _, [(g, blk el (cs.take (n * i.size) ++ rows.flatten ++ cs.drop (n * i.size + rows.flatten.length)))], hr, ⟨hlen, .inr ⟨g, cap, _, rfl, rfl, hroom, hcm, ?_, ?_⟩⟩, ?_⟩
        · simp only [List.length_append, List.length_take, List.length_drop]
          simp only [List.size_toArray] at hfit
          omega
        · rw [htake, ← hlen]
          exact List.take_left
        · have := hst.become (i := 0) (w' := w.setRow g (cs.toArray.toList.take (n * i.size) ++ rows.flatten ++ cs.toArray.toList.drop (n * i.size + rows.flatten.length)).toArray)
            (o' := blk el (cs.take (n * i.size) ++ rows.flatten ++ cs.drop (n * i.size + rows.flatten.length))) rfl (by simp) (by
              rw [setRow_heap w g cs.toArray _ el _ hgb]; simp [blk]) (fun k hk => setRow_other w g k _ hk) rfl rfl rfl
          exact this
      · have holds : ∀ j u, xs[j]? = some u → w.cell? ((⟨g, 0, none⟩ : Addr).add j) = some u := by
          intro j u hu
          rw [Addr.add_lit, Nat.zero_add, cell_of hgb]
          rw [← htake, List.getElem?_take] at hu
          split at hu
          · exact hu
          · cases hu
        have hr := run_append_grow (P := P) w t ty el i z ht hi hz ⟨g, 0, none⟩ n cap xs hown.1 holds ad m c rows.flatten hl hnews (by omega) (by omega) (growslice_fits (by omega) hbytes)
        have hgr := grown cap (by omega)
        exact ⟨_, _,_, hr, hgr.1, hgr.2⟩
end Go.Rt
/- The walking engine, part 4: a region that draws its order. One order is walked; what reads is taken first, what writes comes when nothing else can. No conditions. -/
namespace Go.Rt
open Go.RowKit

def Qn (K : Act → World → Prop) : Exit → Act → World → Prop
  | .normal, a, w => K a w
  | _,_, _ => False
variable {r : Option Nat} {P : Program} {ops : Array Oper} {n : Nat} {ρ : Nat → Value} {ds : List Deferred} {w w0 : World} {L : List (Nat × Obj)} {K : Act → World → Prop} {S : Array Bool → World → Prop}

def YI (P : Program) (ops : Array Oper) (C : World → Prop) (o : Oper) (v : Value) (a : Act) : Prop :=
  (Region.wanted o (yielded ops a.tmps) = true ∧ isDefer o.op = false ∧ ∀ w, C w → (execOp a.eval o).run P w = .ok (.value v) w) ∨
  (Region.wanted o (yielded ops a.tmps) = false ∧ v = undef)
def wOp (r : Option Nat) (P : Program) (ops : Array Oper) (Q : Exit → Act → World → Prop) (i : Nat) (K : Act → World → Prop) (a : Act) (w : World) : Prop := wpOpIn (FW r) 0 P ops Q i K a w
theorem YI.wOp {C : World → Prop} {i : Nat} {o : Oper} {v : Value} {a : Act} {Q : Exit → Act → World → Prop} (hi : ops[i]? = some o) (hy : YI P ops C o v a) (hC : C w) (h : K (a.put o.dst v) w) : wOp r P ops Q i K a w := by
  unfold Rt.wOp Go.wpOpIn
  simp only [hi]
  rcases hy with ⟨hw, hd, hv⟩ | ⟨hw, rfl⟩
  · simp only [hw, if_true, Oper.wpIn, zEt hd, hv w hC, Oper.uponIn]; exact ⟨fun _ _ => trivial, h⟩
  · simp only [hw, Bool.false_eq_true, if_false]; exact ⟨fun _ _ => trivial, h⟩
theorem YI.of_same {C : World → Prop} {o : Oper} {v : Value} {a a' : Act} (hy : YI P ops C o v a) (he : execOp a'.eval o = execOp a.eval o)
    (hw : Region.wanted o (yielded ops a'.tmps) = Region.wanted o (yielded ops a.tmps)) : YI P ops C o v a' := by
  unfold YI at *
  rw [he, hw]
  exact hy
theorem wOp_put {C : World → Prop} {j : Nat} {oi oj : Oper} {v : Value} {Q : Exit → Act → World → Prop} (hj : ops[j]? = some oj) (hap : oi.apart ops oj = true) (hdj : isDefer oj.op = false)
    (hsi : ∀ cs b, oi.op ≠ .select cs b) (hsj : ∀ cs b, oj.op ≠ .select cs b)
    (hQ : ∀ c a w, Q (.panic c) (a.put oi.dst v) w → Q (.panic c) a w) {a : Act}
    (hy : YI P ops C oi v a) (h : wOp r P ops Q j K (a.put oi.dst v) w) :
    wOp r P ops Q j (fun a' w' => YI P ops C oi v a' ∧ K (a'.put oi.dst v) w') a w := by
  obtain ⟨h1, h2, h3⟩ := Oper.apart_spec hap
  have keep : ∀ (a : Act), YI P ops C oi v a → ∀ u, YI P ops C oi v (a.put oj.dst u) := fun a hy u =>
    hy.of_same (execOp_put oi hsi a oj.dst u h3) (wanted_put oi a oj.dst u h3)
  have keepD : ∀ d, YI P ops C oi v { a with defers := d :: a.defers } := fun d => hy.of_same rfl rfl
  unfold wOp wpOpIn at *
  simp only [hj] at *
  rw [wanted_put oj a oi.dst v h1] at h
  split
  · rename_i hw
    simp only [hw, if_true] at h
    unfold Oper.wpIn at *
    refine ⟨fun _ _ => trivial, ?_⟩
    have h := h.2
    rw [zEt hdj, execOp_put oj hsj a oi.dst v h1] at h
    rw [zEt hdj]
    generalize (execOp a.eval oj).run P w = res at *
    cases res with
    | ok x w' =>
      cases x <;> simp only [Oper.uponIn] at h ⊢
      case value u => exact ⟨keep a hy u, by rw [← Act.put_comm a v u h2]; exact h⟩
      case skip => exact ⟨keep a hy _, by rw [← Act.put_comm a v undef h2]; exact h⟩
      case defer d =>
        refine ⟨keep _ (keepD d) _, ?_⟩
        rw [← Act.put_comm _ v undef h2, ← Act.put_defers]
        exact h
      case enter f args =>
        refine ⟨h.1, CallsIn.mono h.2 fun e w'' he => ?_⟩
        cases e with
        | returned u => exact ⟨keep a hy u, by rw [← Act.put_comm a v u h2]; exact he⟩
        | panicked c => exact hQ _ _ _ he
        | outgrown => exact he
      case row row args => exact ⟨h.1, RowsIn.mono h.2 fun u w'' he => ⟨keep a hy u, by rw [← Act.put_comm a v u h2]; exact he⟩⟩
      case round l f tmps assign body =>
        refine ⟨h.1, RoundIn.mono h.2 fun e w'' he => ?_⟩
        cases e with
        | returned u => exact ⟨keep a hy u, by rw [← Act.put_comm a v u h2]; exact he⟩
        | panicked c => exact hQ _ _ _ he
        | outgrown => exact he
    | halt x w' =>
      cases x <;> simp only [Oper.uponIn] at h ⊢
      case panic u => exact hQ _ _ _ h
  · rename_i hw
    simp only [hw] at h
    exact ⟨fun _ _ => trivial, keep a hy _, by rw [← Act.put_comm a v undef h2]; exact h.2⟩
def wAH (r : Option Nat) (P : Program) (ops : Array Oper) (K : Act → World → Prop) (S : Array Bool → World → Prop) : Nat → Array Bool → Act → World → Prop
  | 0, listed, a, w => Region.ready .any ops listed = [] ∧ K a w
  | fuel + 1, listed, a, w =>
    (Region.ready .any ops listed = [] → K a w) ∧
    ∀ i ∈ Region.ready .any ops listed, wOp r P ops (Qn K) i (fun a' w' => S (listed.setIfInBounds i true) w' ∧ wAH r P ops K S fuel (listed.setIfInBounds i true) a' w') a w
theorem zEb : ∀ (fuel : Nat) (listed : Array Bool) (a : Act) (w : World), wAH r P ops K S fuel listed a w → wpAnyIn (FW r) 0 P .any ops (Qn K) fuel listed a w
  | 0, _,_,_, h => h
  | fuel + 1, _,_,_, h => ⟨h.1, fun i hi => wpOpIn_mono (fun a' w' h' => zEb fuel _ a' w' h'.2) (h.2 i hi)⟩
inductive Reach (ops : Array Oper) (i : Nat) (l : Array Bool) : Array Bool → Prop
  | refl : Reach ops i l l
  | step {l' : Array Bool} {j : Nat} : Reach ops i l l' → j ∈ Region.ready .any ops l' → j ≠ i → Reach ops i l (l'.setIfInBounds j true)
theorem Reach.from_step {i j : Nat} {l l' : Array Bool} (hj : j ∈ Region.ready .any ops l) (hne : j ≠ i) (h : Reach ops i (l.setIfInBounds j true) l') : Reach ops i l l' := by
  induction h with
  | refl => exact .step .refl hj hne
  | step _ h1 h2 ih => exact .step ih h1 h2
def noDefer (ops : Array Oper) : Bool := ops.all fun o => !isDefer o.op
theorem noDefer_spec (h : noDefer ops = true) (j : Nat) (o : Oper) (ho : ops[j]? = some o) : isDefer o.op = false := by
  have := Array.all_eq_true_iff_forall_mem.1 h o (Array.mem_of_getElem? ho)
  simpa using this
theorem zGe {C : World → Prop} {i : Nat} {oi : Oper} {v : Value} (hi : ops[i]? = some oi) (hsel : ∀ (j : Nat) (o : Oper) cs b, ops[j]? = some o → o.op ≠ .select cs b) (hnd : noDefer ops = true) :
    ∀ (fuel : Nat) (listed : Array Bool) (a : Act) (w : World),
      (∀ j oj, ops[j]? = some oj → j ≠ i → listed.getD j true = false → (∀ e ∈ oj.after, Region.binds .any e = true → e.on ≠ i) → oi.apart ops oj = true) →
      (∀ l' w', Reach ops i listed l' → S (l'.setIfInBounds i true) w' → C w' ∧ S l' w') →
      i ∈ Region.ready .any ops listed → YI P ops C oi v a → C w → S listed w →
      (S (listed.setIfInBounds i true) w ∧ wAH r P ops K S fuel (listed.setIfInBounds i true) (a.put oi.dst v) w) → wAH r P ops K S (fuel + 1) listed a w := by
  intro fuel
  induction fuel with
  | zero =>
    intro listed a w _ hS hr hy hC hSl H
    refine ⟨fun h => (by rw [h] at hr; cases hr), fun j hj => ?_⟩
    by_cases hji : j = i
    · subst hji; exact hy.wOp hi hC H
    · have := ready_mono hj hji
      rw [H.2.1] at this
      cases this
  | succ fuel ih =>
    intro listed a w hfree hS hr hy hC hSl H
    refine ⟨fun h => (by rw [h] at hr; cases hr), fun j hj => ?_⟩
    by_cases hji : j = i
    · subst hji; exact hy.wOp hi hC H
    · have h1 := H.2.2 j (ready_mono hj hji)
      obtain ⟨hjun, oj, hoj, hall⟩ := mem_ready.1 hj
      have hnot : ∀ e ∈ oj.after, Region.binds .any e = true → e.on ≠ i := fun e he hb heq => by
        have h1 := hall e he hb
        have h0 := (mem_ready.1 hr).1
        rw [heq] at h1
        rcases Nat.lt_or_ge i listed.size with h' | h'
        · simp [h'] at h0 h1; rw [h0] at h1; cases h1
        · simp [Array.getElem?_eq_none h'] at h1
      have h2 := wOp_put hoj (hfree j oj hoj hji hjun hnot) (noDefer_spec hnd j oj hoj) (fun cs b => hsel i oi cs b hi) (fun cs b => hsel j oj cs b hoj) (fun _ _ _ h => h.elim) hy h1
      have hfree' : ∀ k ok, ops[k]? = some ok → k ≠ i → (listed.setIfInBounds j true).getD k true = false →
          (∀ e ∈ ok.after, Region.binds .any e = true → e.on ≠ i) → oi.apart ops ok = true := fun k ok hk hki hun hno => by
        refine hfree k ok hk hki ?_ hno
        by_cases hjk : j = k
        · subst hjk; exact hjun
        · rw [getD_set_ne true hjk] at hun; exact hun
      refine wpOpIn_mono (fun a' w' h3 => ?_) h2
      obtain ⟨h3a, h3b, h3c⟩ := h3
      rw [Array.setIfInBounds_comm _ _ (Ne.symm hji)] at h3b h3c
      obtain ⟨hC', hS'⟩ := hS _ w' (.step .refl hj hji) h3b
      exact ⟨hS', ih (listed.setIfInBounds j true) a' w' hfree' (fun l' w'' hre => hS l' w'' (Reach.from_step hj hji hre)) (ready_mono hr (Ne.symm hji)) h3a hC' hS' ⟨h3b, h3c⟩⟩

def closeB (ops : Array Oper) (i : Nat) : Nat → Array Bool → Array Bool
  | 0, l => l
  | k + 1, l => closeB ops i k ((Region.ready .any ops l).foldl (fun l j => bif Nat.beq j i then l else l.setIfInBounds j true) l)
def badB (late : List Nat) (l : Array Bool) : Bool := late.any fun s => l.getD s false
def drawB (ops : Array Oper) (late : List Nat) : List (Nat × Nat) → Array Bool → Bool
  | [], l => (Region.ready .any ops l).isEmpty
  | (i, t) :: rest, l =>
    (match t with
     | 0 => (Region.ready .any ops l).contains i && Region.free .any ops l i && !late.contains i
     | 1 => (Region.ready .any ops l).contains i && Region.free .any ops l i && !late.contains i &&
        (let c := closeB ops i ops.size l; ((Region.ready .any ops c).all fun j => Nat.beq j i) && !badB late c && !c.getD i false && (List.range ops.size).all fun j => !l.getD j false || c.getD j false)
     | 2 => Region.ready .any ops l == [i] && !late.contains i
     | _ => Region.ready .any ops l == [i] && late.contains i) && drawB ops late rest (l.setIfInBounds i true)
def drawOK (ops : Array Oper) (late : List Nat) (ord : List (Nat × Nat)) : Bool :=
  Region.noSelect ops && noDefer ops && Nat.beq ord.length ops.size && drawB ops late ord (Array.replicate ops.size false)
def DW (r : Option Nat) (P : Program) (ops : Array Oper) (K : Act → World → Prop) (C : World → Prop) : List (Nat × Nat) → Act → World → Prop
  | [], a, w => K a w
  | (i, 0) :: rest, a, w => ∃ o v, ops[i]? = some o ∧ YI P ops (fun _ => True) o v a ∧ DW r P ops K C rest (a.put o.dst v) w
  | (i, 1) :: rest, a, w => C w ∧ ∃ o v, ops[i]? = some o ∧ YI P ops C o v a ∧ DW r P ops K C rest (a.put o.dst v) w
  | (i, 2) :: rest, a, w => ∃ o, ops[i]? = some o ∧ WL r P ops (Qn fun a' w' => C w' ∧ DW r P ops K C rest a' w') [o] a w
  | (i, _) :: rest, a, w => ∃ o, ops[i]? = some o ∧ WL r P ops (Qn fun a' w' => DW r P ops K C rest a' w') [o] a w
theorem getD_set_or {l : Array Bool} {j k : Nat} (hk : (l.setIfInBounds j true).getD k false = true) : k = j ∨ l.getD k false = true := by
  by_cases h : j = k
  · exact .inl h.symm
  · rw [getD_set_ne false h] at hk; exact .inr hk
theorem reach_sub {i : Nat} {l l' c : Array Bool} (h : Reach ops i l l') (hsub : ∀ j, l.getD j false = true → c.getD j false = true) (hcl : ∀ j ∈ Region.ready .any ops c, j = i) (hsz : c.size = ops.size) :
    ∀ j, l'.getD j false = true → c.getD j false = true := by
  induction h with
  | refl => exact hsub
  | @step l' j hre hj hne ih =>
    intro k hk
    rcases getD_set_or hk with rfl | hk
    · obtain ⟨_, o, ho, hall⟩ := mem_ready.1 hj
      by_cases hc : c.getD k false = true
      · exact hc
      · exfalso
        refine hne (hcl k (mem_ready.2 ⟨?_, o, ho, fun e he hb => ih _ (hall e he hb)⟩))
        have hlt : k < c.size := by rw [hsz]; exact (Array.getElem?_eq_some_iff.1 ho).1
        simp [hlt] at hc ⊢
        exact hc
    · exact ih k hk
theorem zF4 (i : Nat) : ∀ (k : Nat) (l : Array Bool), (closeB ops i k l).size = l.size
  | 0, l => rfl
  | k + 1, l => by
    unfold closeB
    rw [zF4 i k]
    have : ∀ (xs : List Nat) (l : Array Bool), (xs.foldl (fun l j => bif Nat.beq j i then l else l.setIfInBounds j true) l).size = l.size := by
      intro xs
      induction xs with
      | nil => intro l; rfl
      | cons x xs ih =>
        intro l
        rw [List.foldl_cons, ih]
        cases Nat.beq x i <;> simp
    exact this _ l
theorem zH2 {late : List Nat} {l : Array Bool} {i : Nat} (hl : late.contains i = false) (h : badB late (l.setIfInBounds i true) = false) : badB late l = false := by
  unfold badB at *
  rw [List.any_eq_false] at *
  intro s hs
  have h1 := h s hs
  by_cases e : i = s
  · subst e; rw [List.contains_iff_mem.2 hs] at hl; cases hl
  · rw [getD_set_ne false e] at h1; exact h1
theorem zG0 {late : List Nat} {l : Array Bool} {i : Nat} (hl : late.contains i = false) (h : badB late l = false) : badB late (l.setIfInBounds i true) = false := by
  unfold badB at *
  rw [List.any_eq_false] at *
  intro s hs
  have h1 := h s hs
  by_cases e : i = s
  · subst e; rw [List.contains_iff_mem.2 hs] at hl; cases hl
  · rw [getD_set_ne false e]; exact h1
theorem wl_one {i : Nat} {o : Oper} {K' : Act → World → Prop} {a : Act} (ho : ops[i]? = some o) (h : WL r P ops (Qn K') [o] a w) : wOp r P ops (Qn K) i K' a w := by
  unfold wOp wpOpIn
  simp only [ho]
  unfold WL at h
  simp only [wpListIn] at h
  split
  · rename_i hw
    rw [if_pos hw] at h
    have : ∀ {o : Oper} {a : Act} {w : World}, o.wpIn (FW r) 0 P a w (fun a w => Qn K' .normal a w) (Qn K') → o.wpIn (FW r) 0 P a w K' (Qn K) := by
      intro o a w h
      unfold Oper.wpIn at *
      refine ⟨h.1, ?_⟩
      have h := h.2
      generalize (Oper.semAt _ _ _).run P w = res at *
      cases res with
      | ok x w' =>
        cases x <;> simp only [Oper.uponIn] at h ⊢
        case enter f args => exact ⟨h.1, CallsIn.mono h.2 fun e w'' he => by cases e <;> first | exact he | exact he.elim | (obtain ⟨_, _, he⟩ := he; exact he.elim)⟩
        case round l f tmps assign body => exact ⟨h.1, RoundIn.mono h.2 fun e w'' he => by cases e <;> first | exact he | exact he.elim | (obtain ⟨_, _, he⟩ := he; exact he.elim)⟩
        all_goals exact h
      | halt x w' => cases x <;> simp only [Oper.uponIn] at h ⊢; exact h
    exact this h
  · rename_i hw
    rw [if_neg hw] at h
    exact ⟨fun _ _ => trivial, h.2⟩
theorem zGc {C : World → Prop} {late : List Nat} (hns : Region.noSelect ops = true) (hnd : noDefer ops = true) : ∀ (ord : List (Nat × Nat)) (l : Array Bool) (a : Act) (w : World), l.size = ops.size → drawB ops late ord l = true →
    (badB late l = false → C w) → DW r P ops K C ord a w → wAH r P ops K (fun l w => badB late l = false → C w) ord.length l a w
  | [], l, a, w, _, hB, _, h => ⟨by simpa [drawB] using hB, h⟩
  | (i, t) :: rest, l, a, w, hsz, hB, hC, h => by
    simp only [drawB, Bool.and_eq_true] at hB
    obtain ⟨hB1, hB2⟩ := hB
    have hsz' : (l.setIfInBounds i true).size = ops.size := by simpa using hsz
    have ih := zGc (C := C) (late := late) hns hnd rest (l.setIfInBounds i true)
    match t, hB1, h with
    | 0, hB1, h =>
      simp only [Bool.and_eq_true, Bool.not_eq_true'] at hB1
      obtain ⟨o, v, ho, hy, hd⟩ := h
      refine zGe (C := fun _ => True) ho (Region.noSelect_spec hns) hnd rest.length l a w (Region.free_spec ho hB1.1.2) ?_ (by simpa using hB1.1.1) hy trivial hC ⟨?_, ih _ w hsz' hB2 ?_ hd⟩
      · exact fun l' w' _ hS => ⟨trivial, fun hb => hS (zG0 hB1.2 hb)⟩
      · exact fun hb => hC (zH2 hB1.2 hb)
      · exact fun hb => hC (zH2 hB1.2 hb)
    | 1, hB1, h =>
      simp only [Bool.and_eq_true, Bool.not_eq_true'] at hB1
      obtain ⟨⟨⟨h1, h2⟩, h3⟩, ⟨⟨⟨h4, h5⟩, h6⟩, h7⟩⟩ := hB1
      obtain ⟨hCw, o, v, ho, hy, hd⟩ := h
      refine zGe (C := C) ho (Region.noSelect_spec hns) hnd rest.length l a w (Region.free_spec ho h2) ?_ (by simpa using h1) hy hCw hC ⟨fun _ => hCw, ih _ w hsz' hB2 (fun _ => hCw) hd⟩
      intro l' w' hre hS
      have hsub := reach_sub (c := closeB ops i ops.size l) hre (fun j hj => ?_) (fun j hj => ?_) (by rw [zF4, hsz])
      · have hb : badB late l' = false := by
          unfold badB at h5 ⊢
          rw [List.any_eq_false] at *
          intro s hs hs'
          exact h5 s hs (hsub s hs')
        have := hS (zG0 h3 hb)
        exact ⟨this, fun _ => this⟩
      · rw [List.all_eq_true] at h7
        have hlt : j < ops.size := by
          rw [← hsz]
          rcases Nat.lt_or_ge j l.size with h' | h'
          · exact h'
          · simp [Array.getElem?_eq_none h'] at hj
        have := h7 j (List.mem_range.2 hlt)
        simp only [hj, Bool.not_true, Bool.false_or] at this
        exact this
      · rw [List.all_eq_true] at h4
        exact Nat.eq_of_beq_eq_true (h4 j hj)
    | 2, hB1, h =>
      simp only [Bool.and_eq_true, Bool.not_eq_true', beq_iff_eq] at hB1
      obtain ⟨o, ho, hw⟩ := h
      refine ⟨fun h0 => (by rw [hB1.1] at h0; cases h0), fun j hj => ?_⟩
      rw [hB1.1] at hj
      obtain rfl : j = i := by simpa using hj
      refine wpOpIn_mono (fun a' w' h' => ⟨fun _ => h'.1, ih a' w' hsz' hB2 (fun _ => h'.1) h'.2⟩) (wl_one (K := K) ho hw)
    | t + 3, hB1, h =>
      simp only [Bool.and_eq_true, beq_iff_eq] at hB1
      obtain ⟨o, ho, hw⟩ := h
      refine ⟨fun h0 => (by rw [hB1.1] at h0; cases h0), fun j hj => ?_⟩
      rw [hB1.1] at hj
      obtain rfl : j = i := by simpa using hj
      have hbad : badB late (l.setIfInBounds j true) = true := by
        unfold badB
        rw [List.any_eq_true]
        refine ⟨j, List.contains_iff_mem.1 hB1.2, ?_⟩
        have hlt : j < l.size := by rw [hsz]; exact (Array.getElem?_eq_some_iff.1 ho).1
        simp [hlt]
      refine wpOpIn_mono (fun a' w' h' => ⟨fun hb => (by rw [hbad] at hb; cases hb), ih a' w' hsz' hB2 (fun hb => (by rw [hbad] at hb; cases hb)) h'⟩) (wl_one (K := K) ho hw)
theorem zCc {id : Nat} {l : List Oper} {Q : Exit → Act → World → Prop} (late : List Nat) (ord : List (Nat × Nat)) (hm : P.follows .mixedOrders = true) (hB : drawOK l.toArray late ord = true) (hst : St w0 w L)
    (h : ∀ w', St w0 w' L → DW r P l.toArray (fun a w => Q .normal a w) (fun w => St w0 w L) ord (A n ρ ds) w') : WC r P (.region id l.toArray true) Q (A n ρ ds) w := by
  unfold drawOK at hB
  simp only [Bool.and_eq_true] at hB
  obtain ⟨⟨⟨h1, h2⟩, h3⟩, h4⟩ := hB
  have hst' := hst.drew
  have hsz : ord.length = l.toArray.size := Nat.eq_of_beq_eq_true h3
  have := zGc h1 h2 ord (Array.replicate l.toArray.size false) (A n ρ ds) _ (by simp) h4 (fun _ => hst') (h _ hst')
  have hany := zEb _ _ _ _ this
  rw [hsz] at hany
  refine wpIn_mono (wpIn_region_any hm hany) ?_
  intro e a w hq
  cases e <;> first | exact hq | exact hq.elim
theorem zB5 {C : World → Prop} {a : Act} (h : K a w) : DW r P ops K C [] a w := h
theorem zCf {C : World → Prop} {i d : Nat} {op : Op} {t : TypeId} {p : String} {e : Array Edge} {g : Option (Nat × Bool)} {v : Value} {rest : List (Nat × Nat)} (ho : ops[i]? = some ⟨some d, op, t, p, e, g⟩) (hw : Want ops (A n ρ ds) ⟨some d, op, t, p, e, g⟩)
    (hd : isDefer op = false) (hy : ∀ w, Yd P (A n ρ ds) ⟨some d, op, t, p, e, g⟩ w v) (h : DW r P ops K C rest (A n (upd ρ d v) ds) w) : DW r P ops K C ((i, 0) :: rest) (A n ρ ds) w :=
  ⟨_, v, ho, .inl ⟨hw, hd, fun w _ => hy w⟩, by rw [zHw]; exact h⟩
theorem d_w {C : World → Prop} {i d : Nat} {op : Op} {t : TypeId} {p : String} {e : Array Edge} {v : Value} {rest : List (Nat × Nat)} (ho : ops[i]? = some ⟨some d, op, t, p, e, none⟩) (hy : ∀ w, Yd P (A n ρ ds) ⟨some d, op, t, p, e, none⟩ w v) (hd : isDefer op = false) (h : DW r P ops K C rest (A n (upd ρ d v) ds) w) : DW r P ops K C ((i, 0) :: rest) (A n ρ ds) w := zCf ho zAc hd hy h
theorem zA3 {i d : Nat} {op : Op} {t : TypeId} {p : String} {e : Array Edge} {g : Option (Nat × Bool)} {v : Value} {rest : List (Nat × Nat)} (ho : ops[i]? = some ⟨some d, op, t, p, e, g⟩) (hw : Want ops (A n ρ ds) ⟨some d, op, t, p, e, g⟩)
    (hd : isDefer op = false) (hst : St w0 w L) (hy : ∀ w, St w0 w L → Yd P (A n ρ ds) ⟨some d, op, t, p, e, g⟩ w v) (h : DW r P ops K (fun w => St w0 w L) rest (A n (upd ρ d v) ds) w) :
    DW r P ops K (fun w => St w0 w L) ((i, 1) :: rest) (A n ρ ds) w :=
  ⟨hst, _, v, ho, .inl ⟨hw, hd, hy⟩, by rw [zHw]; exact h⟩
theorem zCe {C : World → Prop} {i d j s : Nat} {b : Bool} {op : Op} {t : TypeId} {p : String} {e : Array Edge} {rest : List (Nat × Nat)} (ho : ops[i]? = some ⟨some d, op, t, p, e, some (j, b)⟩) (hj : (ops[j]?).bind (·.dst) = some s) (hs : Nat.blt s n = true) (hv : ρ s = .bool (!b))
    (h : DW r P ops K C rest (A n (upd ρ d undef) ds) w) : DW r P ops K C ((i, 0) :: rest) (A n ρ ds) w := by
  refine ⟨_, undef, ho, .inr ⟨?_, rfl⟩, by rw [zHw]; exact h⟩
  simp only [Region.wanted, zF8 hj hs hv]; cases b <;> rfl
theorem zD1 {i d j s : Nat} {b : Bool} {op : Op} {t : TypeId} {p : String} {e : Array Edge} {rest : List (Nat × Nat)} (ho : ops[i]? = some ⟨some d, op, t, p, e, some (j, b)⟩) (hj : (ops[j]?).bind (·.dst) = some s) (hs : Nat.blt s n = true) (hv : ρ s = .bool (!b)) (hst : St w0 w L)
    (h : DW r P ops K (fun w => St w0 w L) rest (A n (upd ρ d undef) ds) w) : DW r P ops K (fun w => St w0 w L) ((i, 1) :: rest) (A n ρ ds) w := by
  refine ⟨hst, _, undef, ho, .inr ⟨?_, rfl⟩, by rw [zHw]; exact h⟩
  simp only [Region.wanted, zF8 hj hs hv]; cases b <;> rfl
theorem zB0 {C : World → Prop} {i : Nat} {o : Oper} {a : Act} {rest : List (Nat × Nat)} (ho : ops[i]? = some o) (h : WL r P ops (Qn fun a' w' => C w' ∧ DW r P ops K C rest a' w') [o] a w) : DW r P ops K C ((i, 2) :: rest) a w := ⟨o, ho, h⟩
theorem zCa {C : World → Prop} {i : Nat} {o : Oper} {a : Act} {rest : List (Nat × Nat)} (ho : ops[i]? = some o) (h : WL r P ops (Qn fun a' w' => DW r P ops K C rest a' w') [o] a w) : DW r P ops K C ((i, 3) :: rest) a w := ⟨o, ho, h⟩
theorem zEk {C : World → Prop} {d : Nat} {t : Bool} {l : List (Nat × Nat)} {ρ : Nat → Value} (ht : t = true → DW r P ops K C l (A n (upd ρ d (.bool true)) ds) w) (hf : t = false → DW r P ops K C l (A n (upd ρ d (.bool false)) ds) w) :
    DW r P ops K C l (A n (upd ρ d (.bool t)) ds) w := by
  cases t
  · exact hf rfl
  · exact ht rfl
theorem qn {a : Act} (h : K a w) : Qn K .normal a w := h
end Go.Rt
/- The walking engine, part 5: what else operations do: builtins, slices made, appended to, cut and copied, aggregates compared. No conditions. -/
namespace Go.Rt
open Go.RowKit
variable {r : Option Nat} {P : Program} {ops : Array Oper} {Q : Exit → Act → World → Prop} {rest : List Oper} {n : Nat} {ρ : Nat → Value} {ds : List Deferred} {w w0 : World} {L : List (Nat × Obj)}
  {d : Option Tmp} {ty : TypeId} {p : String} {e : Array Edge} {g : Option (Nat × Bool)}

theorem y_max2 {x y : Operand} {ts : Array TypeId} {k : IntKind} {a b : Int} (ho : okO n x = true) (ho1 : okO n y = true) (hx : ev ρ x = .int k a) (hy : ev ρ y = .int k b) :
    Yd P (A n ρ ds) ⟨d, .call ⟨.builtin .max, #[x, y], ts⟩, ty, p, e, g⟩ w (.int k (max a b)) := by
  have : (if a < b then b else a) = max a b := by split <;> omega
  simp [Yd, execOp, resolve, zB6 ho, zB6 ho1, hx, hy, Sem.run_bind, invoke, builtin, Builtin.max_, Builtin.max2, Result.andThen, this]
theorem y_min2 {x y : Operand} {ts : Array TypeId} {k : IntKind} {a b : Int} (ho : okO n x = true) (ho1 : okO n y = true) (hx : ev ρ x = .int k a) (hy : ev ρ y = .int k b) :
    Yd P (A n ρ ds) ⟨d, .call ⟨.builtin .min, #[x, y], ts⟩, ty, p, e, g⟩ w (.int k (min a b)) := by
  have : (if b < a then b else a) = min a b := by split <;> omega
  simp [Yd, execOp, resolve, zB6 ho, zB6 ho1, hx, hy, Sem.run_bind, invoke, builtin, Builtin.min_, Builtin.min2, Result.andThen, this]
theorem y_min3 {x y z : Operand} {ts : Array TypeId} {k : IntKind} {a b c : Int} (ho : okO n x = true) (ho1 : okO n y = true) (ho2 : okO n z = true) (hx : ev ρ x = .int k a) (hy : ev ρ y = .int k b) (hz : ev ρ z = .int k c) :
    Yd P (A n ρ ds) ⟨d, .call ⟨.builtin .min, #[x, y, z], ts⟩, ty, p, e, g⟩ w (.int k (min (min a b) c)) := by
  have h1 : (if b < a then b else a) = min a b := by split <;> omega
  have h2 : (if c < min a b then c else min a b) = min (min a b) c := by split <;> omega
  simp [Yd, execOp, resolve, zB6 ho, zB6 ho1, zB6 ho2, hx, hy, hz, Sem.run_bind, invoke, builtin, Builtin.min_, Builtin.min2, Result.andThen, h1, h2]
theorem zG2 {s t : TypeId} {x : Operand} {a : Int} (hs : (P.underlying s).isSome = true) (ht : P.underlying t = some (.int .i64)) (ho : okO n x = true) (hx : ev ρ x = .int .u8 a) (h0 : 0 ≤ a) (h1 : a ≤ 255) :
    Yd P (A n ρ ds) ⟨d, .convert s t x, ty, p, e, g⟩ w (.int .i64 a) := by
  obtain ⟨q, hq⟩ := Option.isSome_iff_exists.1 hs
  have hw : IntKind.i64.wrap a = a := zE6 (by omega) (by omega)
  simp [Yd, execOp, zB6 ho, hx, Sem.run_bind, convert, run_underlying hq, run_underlying ht, Result.andThen, Conv.intToInt, hw]
theorem y_rem {t t2 : TypeId} {x y : Operand} {k : IntKind} {a b : Int} (ho : okO n x = true) (ho1 : okO n y = true) (hx : ev ρ x = .int k a) (hy : ev ρ y = .int k b) (ha : 0 ≤ a) (hb : 0 < b) :
    Yd P (A n ρ ds) ⟨d, .binOp .rem t x y t2, ty, p, e, g⟩ w (.int k (a % b)) := zFz ho ho1 hx hy fun w => by
  have : b ≠ 0 := by omega
  simp [binOp_rem, Op.intDiv, this, Int.tmod_eq_emod_of_nonneg ha]
theorem zF9 {t : TypeId} {x y : Operand} {s : ByteArray} {k : IntKind} {z : Int} {i : Nat} (hU : P.underlying t = some .string) (ho : okO n x = true) (ho1 : okO n y = true) (hx : ev ρ x = .string s) (hy : ev ρ y = .int k z) (hz : z = (i : Int)) (hi : i < s.size) :
    Yd P (A n ρ ds) ⟨d, .index t x y, ty, p, e, g⟩ w (.int .u8 ((s[i]'hi).toNat : Int)) := by
  subst hz
  have : s[i]? = some (s[i]'hi) := getElem?_pos s i hi
  simp [Yd, execOp, zB6 ho, zB6 ho1, hx, hy, Sem.run_bind, Instr.index, asIntOf, run_underlying hU, Result.andThen, this]
theorem y_fact {op : Op} {v : Value} {s : Sem Value} (hs : ∀ d ty p e g, execOp (A n ρ ds).eval ⟨d, op, ty, p, e, g⟩ = (do pure (.value (← s)))) (h : s.run P w = .ok v w) : Yd P (A n ρ ds) ⟨d, op, ty, p, e, g⟩ w v := by
  unfold Yd
  rw [hs, Sem.run_bind, h]
  rfl
theorem zCh {t : TypeId} {ps : List (Nat × Operand)} {pv : List (Nat × Value)} {v : Value} (ho : (ps.map Prod.snd).all (okO n) = true) (hp : ps.map (fun q => (q.1, ev ρ q.2)) = pv) (h : ∀ w, (Instr.build t pv.toArray).run P w = .ok v w) :
    Yd P (A n ρ ds) ⟨d, .build t ps.toArray, ty, p, e, g⟩ w v := by
  refine y_fact (s := Instr.build t pv.toArray) (fun d ty p e g => ?_) (h w)
  have : (ps.toArray.map fun q => (q.1, (A n ρ ds).eval q.2)) = pv.toArray := by
    apply Array.ext'
    simp only [Array.toList_map, List.toList_toArray]
    rw [← hp]
    refine List.map_congr_left fun q hq => ?_
    rw [zB6 (List.all_eq_true.1 ho q.2 (List.mem_map_of_mem hq))]
  simp only [execOp]
  rw [← this]
theorem zBc {d : Nat} {t el : TypeId} {len : Nat} {ps : List (Nat × Operand)} {pv : List (Nat × Value)} {cs : List Value} (hw : Want ops (A n ρ ds) ⟨some d, .buildSlice t len ps.toArray, ty, p, e, g⟩)
    (ho : (ps.map Prod.snd).all (okO n) = true) (hp : ps.map (fun q => (q.1, ev ρ q.2)) = pv)
    (h : ∀ w, (Instr.buildSlice t len pv.toArray).run P w = .ok (.slice (some ⟨w.heap.size, 0, none⟩) len len) (w.alloc (blk el cs))) (hst : St w0 w L)
    (hk : ∀ b w', St w0 w' ((b, blk el cs) :: L) → WL r P ops Q rest (A n (upd ρ d (.slice (some ⟨b, 0, none⟩) len len)) ds) w') :
    WL r P ops Q (⟨some d, .buildSlice t len ps.toArray, ty, p, e, g⟩ :: rest) (A n ρ ds) w := by
  refine w_val (v := .slice (some ⟨w.heap.size, 0, none⟩) len len) (w' := w.alloc (blk el cs)) hw ?_ rfl (hk _ _ (hst.alloc _))
  have : (ps.toArray.map fun q => (q.1, (A n ρ ds).eval q.2)) = pv.toArray := by
    apply Array.ext'
    simp only [Array.toList_map, List.toList_toArray]
    rw [← hp]
    refine List.map_congr_left fun q hq => ?_
    rw [zB6 (List.all_eq_true.1 ho q.2 (List.mem_map_of_mem hq))]
  have e1 : execOp (A n ρ ds).eval ⟨some d, .buildSlice t len ps.toArray, ty, p, e, g⟩ = (do pure (.value (← Instr.buildSlice t len pv.toArray))) := by
    simp only [execOp]; rw [← this]
  rw [e1, Sem.run_bind, h]
  rfl
theorem zDd {d : Nat} {t el : TypeId} {i : TypeInfo} {z : Value} {sz bytes : Nat} {s x : Operand} {X B F : List (Nat × Obj)} {v : Value} {k m c : Nat} {xs : List Value} {ax : Option Addr} {rows : List (List Value)}
    (hw : Want ops (A n ρ ds) ⟨some d, .call ⟨.builtin .append, #[s, x], #[t, t]⟩, ty, p, e, g⟩)
    (ht : P.underlying t = some (.slice el)) (hi : P.info? el = some i) (hz : i.zero = some z) (hsize : i.size = sz) (hby : i.bytes = bytes) (hzs : z.cells.size = sz) (hsz : Nat.blt 0 sz = true)
    (ho : okO n s = true) (ho1 : okO n x = true) (hs : ev ρ s = v) (hx : ev ρ x = .slice ax m c)
    (hst : St w0 w (X ++ (B ++ F))) (hown : Own v el sz k xs B) (hsl : Sl w0 (X ++ (B ++ F)) ax sz rows) (hm : rows.length = m) (hnil : ax = none → c = 0) (h1 : ∀ row ∈ rows, ∀ u ∈ row, u.oneCell' = true)
    (h63 : k + m ≤ maxLen) (hbytes : (k + m) * bytes ≤ 140737488355328)
    (hk : ∀ v' w' B', Own v' el sz (k + m) (xs ++ rows.flatten) B' → St w0 w' (X ++ (B' ++ F)) → WL r P ops Q rest (A n (upd ρ d v') ds) w') :
    WL r P ops Q (⟨some d, .call ⟨.builtin .append, #[s, x], #[t, t]⟩, ty, p, e, g⟩ :: rest) (A n ρ ds) w := by
  have hperm : (X ++ (B ++ F)).Perm (B ++ (X ++ F)) := by
    rw [← List.append_assoc, ← List.append_assoc]
    exact List.Perm.append_right F List.perm_append_comm
  have hst1 := hst.perm hperm
  have hsl1 : Sl w0 (B ++ (X ++ F)) ax sz rows := hsl.mono fun w' h' => h'.perm hperm.symm
  obtain ⟨v', w', B', hr, hown', hst'⟩ := run_append (P := P) (ty := ty) ht hi hz hsize hby hzs (Nat.le_of_ble_eq_true hsz) hst1 hown hsl1 hm hnil h1 h63 hbytes
  have hperm' : (B' ++ (X ++ F)).Perm (X ++ (B' ++ F)) := by
    rw [← List.append_assoc, ← List.append_assoc]
    exact List.Perm.append_right F List.perm_append_comm
  refine w_val (v := v') (w' := w') hw ?_ rfl (hk v' w' B' hown' (hst'.perm hperm'))
  have e1 : execOp (A n ρ ds).eval ⟨some d, .call ⟨.builtin .append, #[s, x], #[t, t]⟩, ty, p, e, g⟩ = (do pure (.value (← Builtin.append_ #[t, t] ty #[v, .slice ax m c]))) := by
    simp only [execOp, resolve]
    have : (#[s, x].map (A n ρ ds).eval) = #[v, .slice ax m c] := by simp [zB6 ho, zB6 ho1, hs, hx]
    rw [this]
    rfl
  rw [e1, Sem.run_bind, hr]
  rfl
theorem y_sliceA {t el len sz : Nat} {x : Operand} {b off : Nat} (hU : P.underlying t = some (.array len el)) (hsz : ∀ w, (sizeOf el).run P w = .ok sz w) (ho : okO n x = true) (hx : ev ρ x = .pointer (some ⟨b, off, none⟩)) :
    Yd P (A n ρ ds) ⟨d, .slice t x none none none, ty, p, e, g⟩ w (.slice (some ⟨b, off, none⟩) len len) := by
  have e1 : execOp (A n ρ ds).eval ⟨d, .slice t x none none none, ty, p, e, g⟩ = (do pure (.value (← Instr.sliceAt t (.pointer (some ⟨b, off, none⟩)) none none none))) := by
    simp only [execOp, zB6 ho, hx]; rfl
  unfold Yd
  rw [e1, Sem.run_bind]
  have : (Instr.sliceAt t (.pointer (some ⟨b, off, none⟩)) none none none).run P w = .ok (.slice (some ⟨b, off, none⟩) len len) w := by
    unfold Instr.sliceAt
    rw [Sem.run_bind, run_underlying hU]
    simp only [Result.andThen, Instr.sureAddr, Instr.sliceBounds, Sem.run_bind, Sem.run_pure, hsz, Nat.sub_zero, Nat.zero_mul]
    simp [Addr.add_lit]
  rw [this]
  rfl
theorem y_sliceS {t el sz : Nat} {x : Operand} {lo hi : Option Operand} {a : Option Addr} {l c l' h' : Nat} (hU : P.underlying t = some (.slice el)) (hsz : ∀ w, (sizeOf el).run P w = .ok sz w) (ho : okO n x = true) (hx : ev ρ x = .slice a l c)
    (hlo : match lo with | none => l' = 0 | some y => okO n y = true ∧ ∃ k z, ev ρ y = .int k z ∧ z = (l' : Int))
    (hhi : match hi with | none => h' = l | some y => okO n y = true ∧ ∃ k z, ev ρ y = .int k z ∧ z = (h' : Int)) (h1 : l' ≤ h') (h2 : h' ≤ c) :
    Yd P (A n ρ ds) ⟨d, .slice t x lo hi none, ty, p, e, g⟩ w (.slice (if c = l' then a else a.map (·.add (l' * sz))) (h' - l') (c - l')) := by
  have e1 : execOp (A n ρ ds).eval ⟨d, .slice t x lo hi none, ty, p, e, g⟩ = (do pure (.value (← Instr.sliceAt t (.slice a l c) (lo.map (ev ρ)) (hi.map (ev ρ)) none))) := by
    have el : lo.map (A n ρ ds).eval = lo.map (ev ρ) := by cases lo with | none => rfl | some y => simp only [Option.map_some, zB6 hlo.1]
    have eh : hi.map (A n ρ ds).eval = hi.map (ev ρ) := by cases hi with | none => rfl | some y => simp only [Option.map_some, zB6 hhi.1]
    simp only [execOp, zB6 ho, hx, el, eh]; rfl
  unfold Yd
  rw [e1, Sem.run_bind]
  have key : (Instr.sliceBounds true l c (lo.map (ev ρ)) (hi.map (ev ρ)) none).run P w = .ok (l', h', c) w := by
    unfold Instr.sliceBounds
    have b1 : ∀ (z : Int) (k : IntKind) (m y : Nat) (code : BoundsCode), z = (m : Int) → m ≤ y → (Instr.sliceBound (.int k z) y code).run P w = .ok m w := by
      intro z k m y code hz hm
      subst hz
      have : (0 : Int) ≤ (m : Int) ∧ (m : Int) ≤ (y : Int) := ⟨by omega, by omega⟩
      simp [Instr.sliceBound, asIntOf, Sem.run_bind, Result.andThen, hm]
    cases lo with
    | none =>
      subst hlo
      cases hi with
      | none => subst hhi; simp [Sem.run_bind, Result.andThen]
      | some y =>
        obtain ⟨_, k, z, hy, hz⟩ := hhi
        have := b1 z k h' c .sliceAcap hz h2
        simp [Sem.run_bind, Result.andThen, hy, this]
    | some yl =>
      obtain ⟨_, kl, zl, hyl, hzl⟩ := hlo
      cases hi with
      | none =>
        subst hhi
        have := b1 zl kl l' h' .sliceB hzl h1
        simp [Sem.run_bind, Result.andThen, hyl, this]
      | some y =>
        obtain ⟨_, k, z, hy, hz⟩ := hhi
        have t1 := b1 z k h' c .sliceAcap hz h2
        have t2 := b1 zl kl l' h' .sliceB hzl h1
        simp [Sem.run_bind, Result.andThen, hy, t1, hyl, t2]
  have : (Instr.sliceAt t (.slice a l c) (lo.map (ev ρ)) (hi.map (ev ρ)) none).run P w = .ok (.slice (if c = l' then a else a.map (·.add (l' * sz))) (h' - l') (c - l')) w := by
    unfold Instr.sliceAt
    rw [Sem.run_bind, run_underlying hU]
    simp only [Result.andThen]
    unfold Instr.slice
    rw [Sem.run_bind, run_underlying hU]
    simp only [Result.andThen]
    rw [Sem.run_bind, key]
    simp only [Result.andThen]
    rw [Sem.run_bind, hsz]
    rfl
  rw [this]
  rfl
theorem Sl.cut {a : Option Addr} {sz l' h' c : Nat} {rows : List (List Value)} (h : Sl w0 L a sz rows) (h1 : l' ≤ h') (h2 : h' ≤ rows.length) (hc : rows.length ≤ c) :
    Sl w0 L (if c = l' then a else a.map (·.add (l' * sz))) sz ((rows.drop l').take (h' - l')) := by
  by_cases hl : l' < rows.length
  · rcases h with h | ⟨b, off, rfl, h⟩
    · subst h; simp at hl
    · rw [if_neg (by omega)]
      refine .inr ⟨b, off + l' * sz, by simp [Addr.add_lit], fun i row hi => ?_⟩
      rw [List.getElem?_take] at hi
      split at hi
      · rw [List.getElem?_drop] at hi
        have := h (l' + i) row hi
        rw [Nat.add_mul, ← Nat.add_assoc] at this
        exact this
      · cases hi
  · left
    have : h' - l' = 0 := by omega
    simp [this]
theorem w_copy {d : Nat} {t el : TypeId} {i : Nat} {x y : Operand} {b off l c m c' : Nat} {tb : TypeId} {cs : List Value} {ax : Option Addr} {xs : List Value} {vs : List Value} {k : Nat}
    (hw : Want ops (A n ρ ds) ⟨some d, .call ⟨.builtin .copy, #[x, y], #[t, t]⟩, ty, p, e, g⟩)
    (hU : P.underlying t = some (.slice el)) (hsz : ∀ w, (sizeOf el).run P w = .ok 1 w) (ho : okO n x = true) (ho1 : okO n y = true) (hx : ev ρ x = .slice (some ⟨b, off, none⟩) l c) (hy : ev ρ y = .slice ax m c')
    (hst : St w0 w L) (hi : L[i]? = some (b, blk tb cs)) (hsl : Sl w0 L ax 1 (xs.map fun v => [v])) (hm : xs.length = m) (hk0 : k = Nat.min m l) (hvs : vs = xs.take k) (h1 : ∀ u ∈ xs, u.oneCell' = true) (hle : off + l ≤ cs.length)
    (hk : ∀ w', St w0 w' (L.set i (b, blk tb (setMany cs off vs))) → WL r P ops Q rest (A n (upd ρ d (.int .i64 k)) ds) w') :
    WL r P ops Q (⟨some d, .call ⟨.builtin .copy, #[x, y], #[t, t]⟩, ty, p, e, g⟩ :: rest) (A n ρ ds) w := by
  subst hk0 hvs
  have hlen : (xs.take (Nat.min m l)).length = Nat.min m l := by rw [List.length_take, hm]; exact Nat.min_eq_left (Nat.min_le_left _ _)
  have hkl : Nat.min m l ≤ l := Nat.min_le_right _ _
  obtain ⟨w', hr, hst'⟩ := zEd (P := P) (b := b) (off := off) (t := tb) (i := i) (xs.take (Nat.min m l)) 0 cs w L hst hi (by omega) (fun v hv => h1 v (List.mem_of_mem_take hv))
  refine w_val (v := .int .i64 (Nat.min m l : Nat)) (w' := w') hw ?_ rfl (hk w' (by simpa using hst'))
  have e1 : execOp (A n ρ ds).eval ⟨some d, .call ⟨.builtin .copy, #[x, y], #[t, t]⟩, ty, p, e, g⟩ = (do pure (.value (← Builtin.copy_ #[t, t] ty #[.slice (some ⟨b, off, none⟩) l c, .slice ax m c']))) := by
    simp only [execOp, resolve]
    have : (#[x, y].map (A n ρ ds).eval) = #[.slice (some ⟨b, off, none⟩) l c, .slice ax m c'] := by simp [zB6 ho, zB6 ho1, hx, hy]
    rw [this]
    rfl
  have hfirst : (Builtin.firstCells 1 (Nat.min m l) (.slice ax m c')).run P w = .ok (xs.take (Nat.min m l)).toArray w := by
    cases ax with
    | none =>
      have : xs = [] := by
        rcases hsl with h | ⟨_, _, h, _⟩
        · simpa using h
        · cases h
      subst this
      simp [Builtin.firstCells]
    | some ad =>
      unfold Builtin.firstCells
      rw [Nat.mul_one]
      rcases hsl with h | ⟨b', off', h, hat⟩
      · have : xs = [] := by simpa using h
        subst this
        simp only [List.length_nil] at hm
        subst hm
        have : Nat.min 0 l = 0 := Nat.zero_min l
        rw [this]
        simp [loadCells, loadCellsFrom]
      · cases h
        have := run_loadCells_list (P := P) (w := w) ⟨b', off', none⟩ (xs.take (Nat.min m l)) (fun j v hj => by
          rw [List.getElem?_take] at hj
          split at hj
          · rw [Addr.add_lit]
            have hrow : (xs.map fun v => [v])[j]? = some [v] := by simp [hj]
            have := (hat j [v] hrow).2 0 v rfl w hst
            rwa [Nat.mul_one, Nat.add_zero] at this
          · cases hj)
        rw [hlen] at this
        exact this
  rw [e1, Sem.run_bind]
  have : (Builtin.copy_ #[t, t] ty #[.slice (some ⟨b, off, none⟩) l c, .slice ax m c']).run P w = .ok (.int .i64 (Nat.min m l : Nat)) w' := by
    unfold Builtin.copy_
    simp only [List.getElem?_toArray, List.getElem?_cons_zero, List.getElem?_cons_succ]
    rw [Sem.run_bind, run_underlying hU]
    simp only [Result.andThen]
    rw [Sem.run_bind]
    show ((pure m : Sem Nat).run P w).andThen _ = _
    simp only [Sem.run_pure, Result.andThen]
    rw [Sem.run_bind, hsz]
    simp only [Result.andThen]
    rw [Sem.run_bind, hfirst]
    simp only [Result.andThen]
    rw [Sem.run_bind]
    rw [hr]
    rfl
  rw [this]
  rfl
theorem w_rangeStr {d : Nat} {t : TypeId} {x : Operand} {s : ByteArray} (hw : Want ops (A n ρ ds) ⟨some d, .range t x, ty, p, e, g⟩) (hU : P.underlying t = some .string) (ho : okO n x = true) (hx : ev ρ x = .string s) (hst : St w0 w L)
    (hk : ∀ b w', St w0 w' ((b, .stringIter s 0) :: L) → WL r P ops Q rest (A n (upd ρ d (.pointer (some ⟨b, 0, none⟩))) ds) w') :
    WL r P ops Q (⟨some d, .range t x, ty, p, e, g⟩ :: rest) (A n ρ ds) w := by
  refine w_val (v := .pointer (some ⟨w.heap.size, 0, none⟩)) (w' := w.alloc (.stringIter s 0)) hw ?_ rfl (hk _ _ (hst.alloc _))
  simp [execOp, Instr.range, zB6 ho, hx, Sem.run_bind, run_underlying hU, Result.andThen]
theorem w_nextStr {d : Nat} {x : Operand} {s : ByteArray} {i b pos : Nat} (hw : Want ops (A n ρ ds) ⟨some d, .next x true, ty, p, e, g⟩) (ho : okO n x = true) (hx : ev ρ x = .pointer (some ⟨b, 0, none⟩)) (hst : St w0 w L) (hi : L[i]? = some (b, .stringIter s pos))
    (hk1 : pos < s.size → ∀ w', St w0 w' (L.set i (b, .stringIter s (pos + (Utf8.decode s pos).2))) → WL r P ops Q rest (A n (upd ρ d (.tuple #[.bool true, .int .i64 pos, .int .i32 (Utf8.decode s pos).1])) ds) w')
    (hk2 : s.size ≤ pos → WL r P ops Q rest (A n (upd ρ d (.tuple #[.bool false])) ds) w) :
    WL r P ops Q (⟨some d, .next x true, ty, p, e, g⟩ :: rest) (A n ρ ds) w := by
  have hg := hst.get hi
  by_cases hp : pos < s.size
  · refine w_val (v := .tuple #[.bool true, .int .i64 pos, .int .i32 (Utf8.decode s pos).1]) (w' := w.putObj b (.stringIter s (pos + (Utf8.decode s pos).2))) hw ?_ rfl (hk1 hp _ (hst.putObj hi _))
    simp [execOp, Instr.next, zB6 ho, hx, Sem.run_bind, getObj, setObj, Sem.run, hg, hp, Result.andThen, World.putObj, goInt]
  · refine w_val (v := .tuple #[.bool false]) (w' := w) hw ?_ rfl (hk2 (by omega))
    simp [execOp, Instr.next, zB6 ho, hx, Sem.run_bind, getObj, setObj, Sem.run, hg, hp, Result.andThen]
end Go.Rt
/- The walking engine, part 6: calls of function values that are given, ranges over functions. No conditions. -/
namespace Go.Rt
open Go.RowKit
variable {r : Option Nat} {P : Program} {ops : Array Oper} {Q : Exit → Act → World → Prop} {rest : List Oper} {n : Nat} {ρ : Nat → Value} {ds : List Deferred} {w w0 : World} {L : List (Nat × Obj)}

def FCon (P : Program) (fv : Value) (args : List Value) (w : World) (R : Value → World → Prop) : Prop :=
  (∃ k first captured, fv = .func (.func k) first captured ∧ CF P k ∧ Con P k (first.toList ++ (args ++ captured.toList)) w R) ∨
  (∃ l fn tmps assign body, fv = .func (.yield l) #[] #[] ∧ (Instr.yield l args.toArray).run P w = .ok (.round l fn tmps assign body) w ∧
    RoundIn (FW none) 0 P l fn tmps assign body w fun e w' => ∃ v, e = .returned v ∧ R v w')
theorem FCon.mono {fv : Value} {args : List Value} {R R' : Value → World → Prop} (h : FCon P fv args w R) (hr : ∀ v w', R v w' → R' v w') : FCon P fv args w R' := by
  rcases h with ⟨k, f, c, e, hC, h⟩ | ⟨l, fn, tmps, asx, bd, e, hy, h⟩
  · exact .inl ⟨k, f, c, e, hC, h.mono hr⟩
  · exact .inr ⟨l, fn, tmps, asx, bd, e, hy, h.mono fun _ w' ⟨v, he, hv⟩ => ⟨v, he, hr v w' hv⟩⟩
theorem RoundIn.toRound {k : Nat} {l : Nat} {fn : FuncId} {tmps : Array Value} {assign body : Code} {R : Ending → World → Prop} (h : RoundIn (FW none) 0 P l fn tmps assign body w R) : RoundIn (FW (some k)) 0 P l fn tmps assign body w R := h
theorem zEa {d : Nat} {t : TypeId} {p : String} {e : Array Edge} {g : Option (Nat × Bool)} {f : Operand} {args : Array Operand} {ats : Array TypeId} {fv : Value} {vs : List Value} {R : Value → World → Prop}
    (hw : Want ops (A n ρ ds) ⟨some d, .call ⟨.value f, args, ats⟩, t, p, e, g⟩) (hof : okO n f = true) (hf : ev ρ f = fv) (hoa : args.toList.all (okO n) = true) (hvs : args.toList.map (ev ρ) = vs)
    (hc : FCon P fv vs w R) (hk : ∀ v w', R v w' → WL r P ops Q rest (A n (upd ρ d v) ds) w') :
    WL r P ops Q (⟨some d, .call ⟨.value f, args, ats⟩, t, p, e, g⟩ :: rest) (A n ρ ds) w := by
  rcases hc with ⟨k, first, captured, rfl, hC, hc⟩ | ⟨l, fn, tmps, asx, bd, rfl, hy, hR⟩
  · exact zA4 hw hC hof hf hoa (by rw [hvs]) hc hk
  · have hmap : args.map (A n ρ ds).eval = vs.toArray := by
      apply Array.ext'
      simp only [Array.toList_map, ← hvs]
      exact List.map_congr_left fun x hx => zB6 (List.all_eq_true.1 hoa x hx)
    have hrun : (execOp (A n ρ ds).eval ⟨some d, .call ⟨.value f, args, ats⟩, t, p, e, g⟩).run P w = .ok (.round l fn tmps asx bd) w := by
      simp only [execOp, resolve, zB6 hof, hf, Deferred.ofValue, Sem.run_bind, Sem.run_pure, Result.andThen, invoke, hmap]
      have : (#[] : Array Value) ++ vs.toArray = vs.toArray := by simp
      rw [this]
      exact hy
    refine wl_want hw ⟨fun _ _ => trivial, ?_⟩
    rw [zEt rfl, hrun, Oper.uponIn_round]
    refine ⟨fun h => by simp at h, ?_⟩
    have hR2 : RoundIn (FW r) 0 P l fn tmps asx bd w fun e w' => ∃ v, e = .returned v ∧ R v w' := by
      cases r with
      | none => exact hR
      | some l' => exact RoundIn.toRound hR
    refine RoundIn.mono hR2 ?_
    rintro e w' ⟨v, rfl, hv⟩
    show wpListIn _ _ _ _ _ _ ((A n ρ ds).put (some d) v) w'
    rw [zHw]
    exact hk v w' hv

def Iter (P : Program) (k : FuncId) (first captured : List Value) (xs : List Value) (w0 : World) (F : List (Nat × Obj)) : Prop :=
  ∀ (J : Nat → List (Nat × Obj) → Prop) (Js : List (Nat × Obj) → Prop) (yv : Value) (B X : List (Nat × Obj)) (w : World), (∃ f a b, yv = .func f a b) →
    (∀ i (hi : i < xs.length) B X w, J i B → St w0 w (X ++ (B ++ F)) → FCon P yv [xs[i]] w fun v w' => ∃ B', St w0 w' (X ++ (B' ++ F)) ∧ (v = .bool true ∧ J (i + 1) B' ∨ v = .bool false ∧ Js B')) →
    J 0 B → St w0 w (X ++ (B ++ F)) →
    Con P k (first ++ ([yv] ++ captured)) w fun _ w' => ∃ B', St w0 w' (X ++ (B' ++ F)) ∧ (J xs.length B' ∨ Js B')
def Rd (w0 : World) (J : Nat → List (Nat × Obj) → Prop) (Js : Code → List (Nat × Obj) → Prop) (i : Nat) (X : List (Nat × Obj)) : Exit → Act → World → Prop
  | .normal, _, w => ∃ B', St w0 w (B' ++ X) ∧ J (i + 1) B'
  | .ret, _, w => ∃ B', St w0 w (B' ++ X) ∧ Js .ret B'
  | .exit id, _, w => ∃ B', St w0 w (B' ++ X) ∧ Js (.exit id) B'
  | _,_, _ => False
theorem rd_normal {J : Nat → List (Nat × Obj) → Prop} {Js : Code → List (Nat × Obj) → Prop} {i : Nat} {X : List (Nat × Obj)} {a : Act} (B' : List (Nat × Obj)) (hs : St w0 w (B' ++ X)) (h : J (i + 1) B') : Rd w0 J Js i X .normal a w := ⟨B', hs, h⟩
theorem rd_ret {J : Nat → List (Nat × Obj) → Prop} {Js : Code → List (Nat × Obj) → Prop} {i : Nat} {X : List (Nat × Obj)} {a : Act} (B' : List (Nat × Obj)) (hs : St w0 w (B' ++ X)) (h : Js .ret B') : Rd w0 J Js i X .ret a w := ⟨B', hs, h⟩
theorem rd_exit {J : Nat → List (Nat × Obj) → Prop} {Js : Code → List (Nat × Obj) → Prop} {i id : Nat} {X : List (Nat × Obj)} {a : Act} (B' : List (Nat × Obj)) (hs : St w0 w (B' ++ X)) (h : Js (.exit id) B') : Rd w0 J Js i X (.exit id) a w := ⟨B', hs, h⟩
theorem zB3 (a b c : List (Nat × Obj)) : (a ++ (b ++ c)).Perm (b ++ (a ++ c)) := by
  rw [← List.append_assoc, ← List.append_assoc]
  exact List.Perm.append_right c List.perm_append_comm
def mk (bd : Nat) : Deferred := { target := .collected bd, args := #[] }
theorem con_of_wcM {k : FuncId} {fn : Func} {c : Code} {args : List Value} {R : Value → World → Prop} (hf : P.funcs[k]? = some fn) (hb : fn.body = some c) (hn : fn.ntmps = n) (hle : args.length ≤ n)
    (h : WC none P c (bodyPostM (FW none) 0 P fn fun e w' => ∃ v, e = .returned v ∧ R v w') (A n (args0 args) []) w) : Con P k args w R := by
  refine callsIn_of_wp_marks (F := FW none) hf hb trivial ?_ rfl
  rw [hn, A_args n args hle]
  exact h
theorem q_retM0 {fn : Func} {l : List ResultVar} {vs : List Value} {R : Value → World → Prop} (hl : fn.results = l.toArray) (hr : RVs P ρ n w l vs) (h : R (retV vs) w) :
    bodyPostM (FW none) 0 P fn (fun e w' => ∃ v, e = .returned v ∧ R v w') .ret (A n ρ []) w := ⟨_, zFk hl hr, _, rfl, h⟩
theorem leavesM1 {fn : Func} {l : List ResultVar} {vs : List Value} {R : Value → World → Prop} {bd i : Nat} (hst : St w0 w L) (hi : L[i]? = some (bd, .deferred (some []))) (hl : fn.results = l.toArray)
    (h : ∀ w', St w0 w' (L.set i (bd, .deferred none)) → RVs P ρ n w' l vs ∧ R (retV vs) w') :
    LeavesInM (FW none) 0 P fn (fa n ρ) (fun e w' => ∃ v, e = .returned v ∧ R v w') [mk bd] .returning w := by
  obtain ⟨h1, h2⟩ := h _ (hst.putObj hi _)
  exact ⟨by simp, .inl ⟨bd, _, rfl, run_takeDeferred (hst.get hi), _, zFk hl h1, _, rfl, h2⟩⟩
theorem q_retM {fn : Func} {l : List ResultVar} {vs : List Value} {R : Value → World → Prop} {bd i : Nat} (hst : St w0 w L) (hi : L[i]? = some (bd, .deferred (some []))) (hl : fn.results = l.toArray)
    (h : ∀ w', St w0 w' (L.set i (bd, .deferred none)) → RVs P ρ n w' l vs ∧ R (retV vs) w') :
    bodyPostM (FW none) 0 P fn (fun e w' => ∃ v, e = .returned v ∧ R v w') .ret (A n ρ [mk bd]) w := leavesM1 hst hi hl h
end Go.Rt
/- The walking engine, part 7: arrays and structs of integers as lists, their equality, maps that have them as keys. No conditions. -/
namespace Go.Rt
open Go.RowKit
variable {r : Option Nat} {P : Program} {ops : Array Oper} {Q : Exit → Act → World → Prop} {rest : List Oper} {n : Nat} {ρ : Nat → Value} {ds : List Deferred} {w w0 : World} {L : List (Nat × Obj)}
  {d : Option Tmp} {ty : TypeId} {p : String} {e : Array Edge} {g : Option (Nat × Bool)}

theorem agree_mixin {D D' : List Nat} {a b μ : Nat → Value} (hs : D'.all (D.elem ·) = true) (h : Agree D a b) : Agree D a (mix D' b μ) := agree_trans h (agree_sub hs zD4)
theorem sl_none {sz : Nat} {rows : List (List Value)} (h : Sl w0 L none sz rows) : rows = [] := by
  rcases h with h | ⟨_, _, h, _⟩
  · exact h
  · cases h
theorem own_made {t : TypeId} {sz b : Nat} : Own (.slice (some ⟨b, 0, none⟩) 0 0) t sz 0 [] [(b, blk t [])] := ⟨by simp, .inr ⟨b, 0, [], rfl, rfl, by omega, by simp [maxLen], by simp, by simp⟩⟩
theorem zEe {α : Type} {v : Value} {t : TypeId} {i : Nat} {f : α → Value} {l : List α} {B : List (Nat × Obj)} (h : Own v t 1 i (l.map f) B) (hl : l.length = i) (F : List (Nat × Obj)) :
    ∃ a c, v = .slice a l.length c ∧ Sl w0 (B ++ F) a 1 (l.map fun x => [f x]) := by
  obtain ⟨a, c, hv, hs⟩ := h.sl (w0 := w0) (rows := l.map fun x => [f x]) (by simp) (by simpa using hl) (by clear h hl; induction l <;> simp_all) F
  rw [List.length_map] at hv
  exact ⟨a, c, hv, hs⟩
theorem zDs {k : FuncId} {first captured : Array Value} {args : List Value} {R : Value → World → Prop} (hC : CF P k) (h : Con P k (first.toList ++ (args ++ captured.toList)) w R) : FCon P (.func (.func k) first captured) args w R :=
  .inl ⟨k, first, captured, rfl, hC, h⟩
abbrev iv (l : List Int) : List Value := l.map (Value.int .i64)
def ia (l : List Int) : Value := .agg (iv l).toArray
def isI64 (P : Program) (t : TypeId) : Bool := match P.underlying t with | some (.int .i64) => true | _ => false
theorem zHg {t : TypeId} (h : isI64 P t = true) : P.underlying t = some (.int .i64) := by
  unfold isI64 at h
  split at h
  · assumption
  · cases h
def flatInts (P : Program) (t : TypeId) (n : Nat) : Bool :=
  match P.underlying t with
  | some (.struct fs) => !P.stoodInHeld t && (fs.toList.all (fun f => f.name != "_" && isI64 P f.type) && (fs.toList.map (·.offset) == List.range n))
  | some (.array k e) => k == n && (isI64 P e && P.cellsOf e == 1)
  | _ => false
theorem zC6 {t : TypeId} (h : P.underlying t = some (.int .i64)) {xs : Array Value} {i : Nat} {v : Value} (hi : xs[i]? = some v) : (part t xs i).run P w = .ok v w := by
  simp [part, isAgg, Sem.run_bind, run_underlying h, hi, Result.andThen]
theorem zHs {t : TypeId} (dd : Nat) (h : P.underlying t = some (.int .i64)) (l m : List Int) : ∀ is : List Nat, (∀ i ∈ is, i < l.length ∧ i < m.length) →
    (Op.eqItems (dd + 1) t 1 (iv l).toArray (iv m).toArray is).run P w = .ok (is.all fun i => decide (l.getD i 0 = m.getD i 0)) w
  | [], _ => by simp [Op.eqItems]
  | i :: is, hh => by
    obtain ⟨h1, h2⟩ := hh i (.head _)
    have ih := zHs dd h l m is fun j hj => hh j (.tail _ hj)
    have e1 : (iv l).toArray[i * 1]? = some (.int .i64 (l.getD i 0)) := by simp [h1]
    have e2 : (iv m).toArray[i * 1]? = some (.int .i64 (m.getD i 0)) := by simp [h2]
    simp only [Op.eqItems, Sem.run_bind, zC6 h e1, zC6 h e2, Result.andThen_ok, run_equalIn_int w dd t .i64 .i64 _ _ h]
    simp only [List.map_cons, List.all_cons]
    by_cases hv : l.getD i 0 = m.getD i 0
    · rw [hv, beq_self_eq_true]
      simp only [Bool.not_true, Bool.false_eq_true, if_false, decide_true, Bool.true_and]
      exact ih
    · rw [beq_false_of_ne hv, decide_eq_false hv]
      simp only [Bool.not_false, if_true, Sem.run_pure, Bool.false_and]
theorem zGu (dd : Nat) (l m : List Int) : ∀ fs : List Field, (∀ f ∈ fs, f.name ≠ "_" ∧ P.underlying f.type = some (.int .i64) ∧ f.offset < l.length ∧ f.offset < m.length) →
    (Op.eqFields (dd + 1) (iv l).toArray (iv m).toArray fs).run P w = .ok ((fs.map (·.offset)).all fun i => decide (l.getD i 0 = m.getD i 0)) w
  | [], _ => by simp [Op.eqFields]
  | f :: fs, hh => by
    obtain ⟨hn, h, h1, h2⟩ := hh f (.head _)
    have ih := zGu dd l m fs fun j hj => hh j (.tail _ hj)
    have e1 : (iv l).toArray[f.offset]? = some (.int .i64 (l.getD f.offset 0)) := by simp [h1]
    have e2 : (iv m).toArray[f.offset]? = some (.int .i64 (m.getD f.offset 0)) := by simp [h2]
    simp only [Op.eqFields, hn, ne_eq, not_false_eq_true, if_true, Sem.run_bind, zC6 h e1, zC6 h e2, Result.andThen_ok, run_equalIn_int w dd f.type .i64 .i64 _ _ h]
    simp only [List.map_cons, List.all_cons]
    by_cases hv : l.getD f.offset 0 = m.getD f.offset 0
    · rw [hv, beq_self_eq_true]
      simp only [Bool.not_true, Bool.false_eq_true, if_false, decide_true, Bool.true_and]
      exact ih
    · rw [beq_false_of_ne hv, decide_eq_false hv]
      simp only [Bool.not_false, if_true, Sem.run_pure, Bool.false_and]
theorem all_getD {l m : List Int} (h : m.length = l.length) : ((List.range l.length).all fun i => decide (l.getD i 0 = m.getD i 0)) = decide (l = m) := by
  rw [Bool.eq_iff_iff]
  simp only [List.all_eq_true, List.mem_range, decide_eq_true_eq]
  constructor
  · intro hh
    apply List.ext_getElem h.symm
    intro i h1 h2
    have := hh i h1
    simpa [List.getD, h1, h2] using this
  · rintro rfl i _; rfl
theorem zDt {t : TypeId} {l m : List Int} (dd : Nat) (hf : flatInts P t l.length = true) (hm : m.length = l.length) : (Op.equalIn (dd + 2) t (ia l) (ia m)).run P w = .ok (decide (l = m)) w := by
  unfold flatInts at hf
  split at hf
  · rename_i fs hu
    simp only [Bool.and_eq_true, Bool.not_eq_true', beq_iff_eq, List.all_eq_true, bne_iff_ne, ne_eq] at hf
    obtain ⟨hp, hall, hoff⟩ := hf
    have hfs : P.fieldsOf t = fs := by simp [Program.fieldsOf, hu]
    unfold ia
    rw [run_equalIn_struct w (dd + 1) t _ _ (by rw [hfs]; exact hu) hp, hfs, zGu dd l m fs.toList ?_, hoff, all_getD hm]
    intro f hfm
    have := hall f hfm
    have ho : f.offset ∈ List.range l.length := by rw [← hoff]; exact List.mem_map_of_mem hfm
    rw [List.mem_range] at ho
    exact ⟨this.1, zHg this.2, ho, by omega⟩
  · rename_i k el hu
    simp only [Bool.and_eq_true, beq_iff_eq] at hf
    obtain ⟨rfl, g3, hc⟩ := hf
    obtain ⟨i, hi⟩ := info_of_underlying (zHg g3)
    unfold ia
    rw [run_equalIn_array w (dd + 1) _ _ hu hi, hc, zHs dd (zHg g3) l m _ ?_, all_getD hm]
    intro i hi
    rw [List.mem_range] at hi
    exact ⟨hi, by omega⟩
  · cases hf
theorem zEj {op : BinOp} {t : TypeId} {x y : Operand} {a b : Array Value} (h : P.eqGuardType P.depth t = false) : (eqGuard op t x y (.agg a) (.agg b)).run P w = .ok () w := by
  unfold eqGuard
  cases op <;> simp [Sem.run_bind, Result.andThen, h, Go.run_program]
theorem zEs {t t2 : TypeId} {x y : Operand} {l m : List Int} {a b : Value} {k : Nat} (hg : P.eqGuardType P.depth t = false) (hf : flatInts P t k = true) (hl : l.length = k) (hm : m.length = k) (ho : okO n x = true) (ho1 : okO n y = true) (hx : ev ρ x = a) (hy : ev ρ y = b) (ha : a = ia l) (hb : b = ia m) :
    Yd P (A n ρ ds) ⟨d, .binOp .eql t x y t2, ty, p, e, g⟩ w (.bool (decide (l = m))) := by
  subst ha hb hl
  have h1 := zDt (P := P) (w := w) 9998 hf hm
  have h2 := zEj (P := P) (w := w) (op := .eql) (x := x) (y := y) (a := (iv l).toArray) (b := (iv m).toArray) hg
  unfold Yd
  simp only [execOp, zB6 ho, zB6 ho1, hx, hy, Sem.run_bind]
  have h2' : (eqGuard .eql t x y (ia l) (ia m)).run P w = .ok () w := h2
  have h3 : (binOp .eql t (ia l) (ia m)).run P w = .ok (.bool (decide (l = m))) w := by
    unfold ia at h1 ⊢
    rw [run_eql_struct, h1]
    rfl
  rw [h2']
  simp only [Result.andThen_ok]
  rw [h3]
  rfl
theorem y_neFlat {t t2 : TypeId} {x y : Operand} {l m : List Int} {a b : Value} {k : Nat} (hg : P.eqGuardType P.depth t = false) (hf : flatInts P t k = true) (hl : l.length = k) (hm : m.length = k) (ho : okO n x = true) (ho1 : okO n y = true) (hx : ev ρ x = a) (hy : ev ρ y = b) (ha : a = ia l) (hb : b = ia m) :
    Yd P (A n ρ ds) ⟨d, .binOp .neq t x y t2, ty, p, e, g⟩ w (.bool (!decide (l = m))) := by
  subst ha hb hl
  have h1 := zDt (P := P) (w := w) 9998 hf hm
  have h2 := zEj (P := P) (w := w) (op := .neq) (x := x) (y := y) (a := (iv l).toArray) (b := (iv m).toArray) hg
  unfold Yd
  simp only [execOp, zB6 ho, zB6 ho1, hx, hy, Sem.run_bind]
  have h2' : (eqGuard .neq t x y (ia l) (ia m)).run P w = .ok () w := h2
  have h3 : (binOp .neq t (ia l) (ia m)).run P w = .ok (.bool (!decide (l = m))) w := by
    unfold ia at h1 ⊢
    rw [run_neq_struct, h1]
    rfl
  rw [h2']
  simp only [Result.andThen_ok]
  rw [h3]
  rfl
theorem y_sliceNil {t t2 el : TypeId} {x y : Operand} {a : Option Addr} {l c : Nat} (hU : P.underlying t = some (.slice el)) (ho : okO n x = true) (ho1 : okO n y = true) (hx : ev ρ x = .slice a l c) (hy : ev ρ y = .slice none 0 0) :
    Yd P (A n ρ ds) ⟨d, .binOp .eql t x y t2, ty, p, e, g⟩ w (.bool a.isNone) := by
  unfold Yd
  simp only [execOp, zB6 ho, zB6 ho1, hx, hy, Sem.run_bind]
  have h2 : (eqGuard .eql t x y (.slice a l c) (.slice none 0 0)).run P w = .ok () w := by
    unfold eqGuard; simp [Sem.run_bind, Result.andThen]
  rw [h2]
  simp only [Result.andThen]
  have h3 : (binOp .eql t (.slice a l c) (.slice none 0 0)).run P w = .ok (.bool a.isNone) w := by
    have := run_equal_slice_nil w t el a l c hU
    simp [binOp, Sem.run_bind, this, Result.andThen]
  simp only [Result.andThen_ok, h3]
  rfl

theorem zHo {d : Nat} {t : TypeId} {x : Operand} {l : List Int} {a : Value} (hw : Want ops (A n ρ ds) ⟨some d, .box t x, ty, p, e, g⟩) (ho : okO n x = true) (hx : ev ρ x = a) (ha : a = ia l) (hst : St w0 w L)
    (hk : ∀ b w', St w0 w' ((b, blk t (iv l)) :: L) → WL r P ops Q rest (A n (upd ρ d (.pointer (some ⟨b, 0, none⟩))) ds) w') :
    WL r P ops Q (⟨some d, .box t x, ty, p, e, g⟩ :: rest) (A n ρ ds) w := zCd (v := ia l) (cs := iv l) hw ho (hx.trans ha) rfl hst hk
theorem zF1 : ∀ (vs pre cs : List Value), vs.length = cs.length → setMany (pre ++ cs) pre.length vs = pre ++ vs
  | [], pre, [], _ => by simp [setMany]
  | [], _, _ :: _, h => by simp at h
  | _ :: _,_, [], h => by simp at h
  | v :: vs, pre, c :: cs, h => by
    simp only [setMany]
    have : (pre ++ c :: cs).set pre.length v = (pre ++ [v]) ++ cs := by simp
    rw [this]
    have ih := zF1 vs (pre ++ [v]) cs (by simpa using h)
    simp only [List.length_append, List.length_singleton, List.append_assoc] at ih ⊢
    rw [ih]
    simp
theorem zDu {k : Nat} {t : TypeId} {x y : Operand} {b i : Nat} {tb : TypeId} {cs : List Value} {l : List Int} {a : Value} (hw : Want ops (A n ρ ds) ⟨none, .store t x y, ty, p, e, g⟩) (hs : ∀ w, (sizeOf t).run P w = .ok k w) (hkl : l.length = k)
    (ho : okO n x = true) (ho1 : okO n y = true) (hx : ev ρ x = .pointer (some ⟨b, 0, none⟩)) (hy : ev ρ y = a) (ha : a = ia l) (hst : St w0 w L) (hi : L[i]? = some (b, blk tb cs)) (hl : cs.length = k)
    (hk : ∀ w', St w0 w' (L.set i (b, blk tb (iv l))) → WL r P ops Q rest (A n ρ ds) w') :
    WL r P ops Q (⟨none, .store t x y, ty, p, e, g⟩ :: rest) (A n ρ ds) w := by
  subst hkl
  refine zD9 (v := ia l) (vs := iv l) hw (by simpa using hs) ho ho1 hx (hy.trans ha) rfl (fun u hu => ?_) hst hi (by simp [hl]) (fun w' hst' => hk w' ?_)
  · obtain ⟨z, _, rfl⟩ := List.mem_map.1 hu; rfl
  · have := zF1 (iv l) [] cs (by simp [hl])
    simp only [List.nil_append, List.length_nil] at this
    rwa [this] at hst'
theorem zDe {t : TypeId} {x y : Operand} {b i j : Nat} {tb : TypeId} {l : List Int} {z : Int} (hw : Want ops (A n ρ ds) ⟨none, .store t x y, ty, p, e, g⟩) (hs : ∀ w, (sizeOf t).run P w = .ok 1 w)
    (ho : okO n x = true) (ho1 : okO n y = true) (hx : ev ρ x = .pointer (some ⟨b, 0 + j * 1, none⟩)) (hy : ev ρ y = .int .i64 z) (hst : St w0 w L) (hi : L[i]? = some (b, blk tb (iv l))) (hl : j < l.length)
    (hk : ∀ w', St w0 w' (L.set i (b, blk tb (iv (l.set j z)))) → WL r P ops Q rest (A n ρ ds) w') :
    WL r P ops Q (⟨none, .store t x y, ty, p, e, g⟩ :: rest) (A n ρ ds) w := by
  refine zD9 (v := .int .i64 z) (vs := [.int .i64 z]) hw hs ho ho1 hx hy rfl (by simp [Value.oneCell']) hst hi (by simp; omega) (fun w' hst' => hk w' ?_)
  have : setMany (iv l) (0 + j * 1) [.int .i64 z] = iv (l.set j z) := by simp [setMany, iv, List.map_set]
  rwa [this] at hst'
theorem zC2 {k : Nat} {t : TypeId} {x : Operand} {b i : Nat} {tb : TypeId} {l : List Int} (ha : ∀ w, (isAgg t).run P w = .ok true w) (hs : ∀ w, (sizeOf t).run P w = .ok k w) (hkl : l.length = k) (hst : St w0 w L) (ho : okO n x = true) (hx : ev ρ x = .pointer (some ⟨b, 0, none⟩))
    (hi : L[i]? = some (b, blk tb (iv l))) : Yd P (A n ρ ds) ⟨d, .load t x, ty, p, e, g⟩ w (ia l) :=
  zAs (vs := iv l) ha (by subst hkl; simpa using hs) hst ho hx (zBm hi (by rw [List.drop_zero, List.take_length]))
theorem zDr {b i j : Nat} {t : TypeId} {l : List Int} (hi : L[i]? = some (b, blk t (iv l))) (hj : j < l.length) : Ats w0 L b (0 + j * 1) [.int .i64 (l.getD j 0)] := by
  refine zBm hi ?_
  have h : ((iv l).drop j).take 1 = [.int .i64 (l.getD j 0)] := by
    rw [List.drop_eq_getElem_cons (by simpa using hj)]
    simp [List.getD, hj]
  simpa using h

theorem w_makeMap {d : Nat} {t : TypeId} (hw : Want ops (A n ρ ds) ⟨some d, .makeMap t none, ty, p, e, g⟩) (hst : St w0 w L)
    (hk : ∀ b w', St w0 w' ((b, .map #[] 0) :: L) → WL r P ops Q rest (A n (upd ρ d (.map (some b))) ds) w') :
    WL r P ops Q (⟨some d, .makeMap t none, ty, p, e, g⟩ :: rest) (A n ρ ds) w := by
  refine w_val (v := .map (some w.heap.size)) (w' := w.alloc (.map #[] 0)) hw ?_ rfl (hk _ _ (hst.alloc _))
  simp [execOp, Instr.makeMap, Sem.run_bind, Result.andThen]
theorem ia_inj {l m : List Int} (h : ia l = ia m) : l = m := by
  unfold ia at h
  injection h with h
  have h2 : iv l = iv m := by simpa using congrArg Array.toList h
  have : ∀ (l m : List Int), iv l = iv m → l = m := by
    intro l
    induction l with
    | nil => intro m h; cases m with | nil => rfl | cons _ _ => simp [iv] at h
    | cons a l ih => intro m h; cases m with
      | nil => simp [iv] at h
      | cons b m =>
        simp only [iv, List.map_cons, List.cons.injEq, Value.int.injEq, true_and] at h
        rw [h.1, ih m h.2]
  exact this l m h2
theorem zHr {em : Bool} {dd : Nat} {t el : TypeId} {k : Nat} {l : List Int} (hu : P.underlying t = some (.array k el)) (hk : k = l.length) (he : P.underlying el = some (.int .i64)) (hsz : ∀ w, (sizeOf el).run P w = .ok 1 w) : (Instr.checkKey em (dd + 2) t (ia l)).run P w = .ok () w := by
  have h1 : ∀ a w, (Instr.checkKey em (dd + 1) el (.int .i64 a)).run P w = .ok () w := by
    intro a w
    unfold Instr.checkKey
    simp [Sem.run_bind, run_underlying he, Result.andThen]
  have h2 : ∀ is : List Nat, (∀ i ∈ is, i < l.length) → ((forIn is PUnit.unit fun i _ => do
      Instr.checkKey em (dd + 1) el (← part el (iv l).toArray (i * (← sizeOf el)))
      pure (ForInStep.yield PUnit.unit) : Sem PUnit)).run P w = .ok PUnit.unit w := by
    intro is
    induction is with
    | nil => intro _; simp
    | cons i is ih =>
      intro hh
      have hi := hh i (.head _)
      have e1 : (iv l).toArray[i * 1]? = some (.int .i64 (l.getD i 0)) := by simp [hi]
      simp only [List.forIn_cons, Sem.run_bind, hsz, Result.andThen_ok, zC6 he e1, h1, Sem.run_pure]
      exact ih fun j hj => hh j (.tail _ hj)
  rw [show dd + 2 = (dd + 1) + 1 from rfl, Instr.checkKey]
  unfold ia
  simp only [Sem.run_bind, run_underlying hu, Result.andThen_ok]
  simp only [Std.Legacy.Range.forIn_eq_forIn_range', Std.Legacy.Range.size, Nat.sub_zero, Nat.add_one_sub_one, Nat.div_one]
  have := h2 (List.range' 0 k) (fun i hi => by
    rw [← List.range_eq_range', List.mem_range] at hi; omega)
  rw [this]
  rfl
theorem St.obj {b i ck : Nat} {es : Array MapEntry} (hst : St w0 w L) (hi : L[i]? = some (b, .map es ck)) : (getObj b).run P w = .ok (.map es ck) w := by simp [getObj, Sem.run, hst.get hi]
theorem zG4 {d : Nat} {t el : TypeId} {x y : Operand} {k : Nat} {i : TypeInfo} (hw : Want ops (A n ρ ds) ⟨some d, .makeSlice t x y, ty, p, e, g⟩) (ht : P.underlying t = some (.slice el)) (hi : P.info? el = some i) (hz : i.zero = some (.int .i64 0)) (hsize : i.size = 1)
    (hk0 : k ≤ 1000000) (hby : i.bytes = 8) (ho : okO n x = true) (ho1 : okO n y = true) (hx : ev ρ x = .int .i64 (k : Int)) (hy : ev ρ y = .int .i64 (k : Int)) (hst : St w0 w L)
    (hk : ∀ b w', St w0 w' ((b, blk el (iv (List.replicate k 0))) :: L) → WL r P ops Q rest (A n (upd ρ d (.slice (some ⟨b, 0, none⟩) k k)) ds) w') :
    WL r P ops Q (⟨some d, .makeSlice t x y, ty, p, e, g⟩ :: rest) (A n ρ ds) w := by
  have hcs : ((List.range k).map fun _ => Value.int .i64 0) = iv (List.replicate k 0) := by
    apply List.ext_getElem?
    intro j
    by_cases hj : j < k <;> simp [hj, List.getElem?_replicate]
  refine w_val (v := .slice (some ⟨w.heap.size, 0, none⟩) k k) (w' := w.alloc (blk el (iv (List.replicate k 0)))) hw ?_ rfl (hk _ _ (hst.alloc _))
  have : (Instr.makeSlice t (.int .i64 (k : Int)) (.int .i64 (k : Int))).run P w = .ok (.slice (some ⟨w.heap.size, 0, none⟩) k k) (w.alloc (blk el (iv (List.replicate k 0)))) := by
    have h := run_makeSlice (P := P) w t el i _ ht hi hz .i64 .i64 (k : Int) (k : Int) (by omega) (by omega) (by rw [hsize]; omega) (by rw [hby]; omega) (by omega)
    rw [h]
    have hm : madeCells (Value.int .i64 0).cells (k * 1) = (iv (List.replicate k 0)).toArray := by
      apply Array.ext'
      rw [Nat.mul_one, ← hcs]
      simp [madeCells, Value.cells]
      intro a _
      rw [Nat.mod_one]
      rfl
    simp only [Int.toNat_natCast, hsize, hm]
    rfl
  simp only [execOp, zB6 ho, zB6 ho1, hx, hy, Sem.run_bind, this]
  rfl
end Go.Rt
/- The walking engine, part 8: regions that draw their order, with whatever is kept. No conditions. -/
namespace Go.Rt
open Go.RowKit
variable {r : Option Nat} {P : Program} {ops : Array Oper} {K : Act → World → Prop} {n : Nat} {ρ : Nat → Value} {ds : List Deferred} {w w0 : World}
theorem w_drawC {id : Nat} {l : List Oper} {Q : Exit → Act → World → Prop} {C : World → Prop} (late : List Nat) (ord : List (Nat × Nat)) (hm : P.follows .mixedOrders = true) (hB : drawOK l.toArray late ord = true) (hC : C w)
    (hdrew : ∀ w, C w → C { w with drawn := w.drawn + 1 }) (h : ∀ w', C w' → DW r P l.toArray (fun a w => Q .normal a w) C ord (A n ρ ds) w') : WC r P (.region id l.toArray true) Q (A n ρ ds) w := by
  unfold drawOK at hB
  simp only [Bool.and_eq_true] at hB
  obtain ⟨⟨⟨h1, h2⟩, h3⟩, h4⟩ := hB
  have hst' := hdrew _ hC
  have hsz : ord.length = l.toArray.size := Nat.eq_of_beq_eq_true h3
  have := zGc h1 h2 ord (Array.replicate l.toArray.size false) (A n ρ ds) _ (by simp) h4 (fun _ => hst') (h _ hst')
  have hany := zEb _ _ _ _ this
  rw [hsz] at hany
  refine wpIn_mono (wpIn_region_any hm hany) ?_
  intro e a w hq
  cases e <;> first | exact hq | exact hq.elim
theorem d_takeC {C : World → Prop} {i d : Nat} {op : Op} {t : TypeId} {p : String} {e : Array Edge} {g : Option (Nat × Bool)} {v : Value} {rest : List (Nat × Nat)} (ho : ops[i]? = some ⟨some d, op, t, p, e, g⟩) (hw : Want ops (A n ρ ds) ⟨some d, op, t, p, e, g⟩)
    (hd : isDefer op = false) (hc : C w) (hy : ∀ w, C w → Yd P (A n ρ ds) ⟨some d, op, t, p, e, g⟩ w v) (h : DW r P ops K C rest (A n (upd ρ d v) ds) w) :
    DW r P ops K C ((i, 1) :: rest) (A n ρ ds) w :=
  ⟨hc, _, v, ho, .inl ⟨hw, hd, hy⟩, by rw [zHw]; exact h⟩
theorem St.front {A F : List (Nat × Obj)} (h : St w0 w (A ++ F)) : St w0 w A := (h.perm List.perm_append_comm).drop
theorem St.cast {L L' : List (Nat × Obj)} (h : L = L') (hs : St w0 w L) : St w0 w L' := h ▸ hs
variable {L : List (Nat × Obj)} {Q : Exit → Act → World → Prop} {rest : List Oper} {ty : TypeId} {p : String} {e : Array Edge} {g : Option (Nat × Bool)}
theorem run_loadI {t tb : TypeId} {l : List Int} {i b k : Nat} (ha : ∀ w, (isAgg t).run P w = .ok true w) (hs : ∀ w, (sizeOf t).run P w = .ok k w) (hkl : l.length = k) (hst : St w0 w L) (hi : L[i]? = some (b, blk tb (iv l))) : (loadVar t ⟨b, 0, none⟩).run P w = .ok (ia l) w :=
  zBv (vs := iv l) ha (by subst hkl; simpa using hs) hst (zBm hi (by rw [List.drop_zero, List.take_length]))
theorem zFb {i b : Nat} {t : TypeId} {l : List Int} (hi : L[i]? = some (b, blk t (iv l))) : Sl w0 L (some ⟨b, 0, none⟩) 1 (l.map fun x => [Value.int .i64 x]) := by
  refine zBx hi (by simp) ?_
  have : (l.map fun x => [Value.int .i64 x]).flatten = iv l := by clear hi; induction l <;> simp_all
  rw [this, List.length_map, Nat.mul_one]
  exact List.take_of_length_le (by simp)
theorem setMany_iv : ∀ (b pre a : List Int), b.length ≤ a.length → setMany (iv (pre ++ a)) pre.length (iv b) = iv (pre ++ (b ++ a.drop b.length))
  | [], pre, a, _ => by simp [setMany, iv]
  | _ :: _,_, [], h => by simp at h
  | v :: b, pre, x :: a, h => by
    have ih := setMany_iv b (pre ++ [v]) a (by simpa using h)
    simp only [iv, List.map_cons, setMany] at ih ⊢
    have : (List.map (Value.int .i64) (pre ++ x :: a)).set pre.length (Value.int .i64 v) = List.map (Value.int .i64) (pre ++ [v] ++ a) := by simp
    rw [this]
    simp only [List.length_append, List.length_singleton, List.append_assoc] at ih ⊢
    rw [ih]
    simp
theorem w_copyI {d : Nat} {t el : TypeId} {i : Nat} {x y : Operand} {b n' c m c' : Nat} {tb : TypeId} {ax : Option Addr} {l1 l2 : List Int}
    (hw : Want ops (A n ρ ds) ⟨some d, .call ⟨.builtin .copy, #[x, y], #[t, t]⟩, ty, p, e, g⟩)
    (hU : P.underlying t = some (.slice el)) (hsz : ∀ w, (sizeOf el).run P w = .ok 1 w) (ho : okO n x = true) (ho1 : okO n y = true) (hx : ev ρ x = .slice (some ⟨b, 0, none⟩) n' c) (hy : ev ρ y = .slice ax m c')
    (hst : St w0 w L) (hi : L[i]? = some (b, blk tb (iv l2))) (hsl : Sl w0 L ax 1 (l1.map fun x => [Value.int .i64 x])) (hm : l1.length = m) (hn : l2.length = n')
    (hk : ∀ w', St w0 w' (L.set i (b, blk tb (iv (l1.take n' ++ l2.drop m)))) → WL r P ops Q rest (A n (upd ρ d (.int .i64 (Nat.min m n' : Nat))) ds) w') :
    WL r P ops Q (⟨some d, .call ⟨.builtin .copy, #[x, y], #[t, t]⟩, ty, p, e, g⟩ :: rest) (A n ρ ds) w := by
  refine w_copy (xs := iv l1) (vs := (iv l1).take (Nat.min m n')) (k := Nat.min m n') hw hU hsz ho ho1 hx hy hst hi (by simpa [List.map_map, Function.comp_def] using hsl) (by simpa using hm) rfl rfl (fun u hu => by obtain ⟨z, _, rfl⟩ := List.mem_map.1 hu; rfl) (by simp [hn]) (fun w' hst' => hk w' ?_)
  subst hm hn
  have e1 : (iv l1).take (Nat.min l1.length l2.length) = iv (l1.take l2.length) := by
    rw [← List.map_take]
    congr 1
    rcases Nat.le_total l1.length l2.length with h | h
    · rw [show Nat.min l1.length l2.length = l1.length from Nat.min_eq_left h, List.take_length, List.take_of_length_le h]
    · rw [show Nat.min l1.length l2.length = l2.length from Nat.min_eq_right h]
  rw [e1] at hst'
  have e2 := setMany_iv (l1.take l2.length) [] l2 (by rw [List.length_take]; omega)
  simp only [List.nil_append, List.length_nil] at e2
  rw [e2] at hst'
  have e3 : l2.drop (l1.take l2.length).length = l2.drop l1.length := by
    rw [List.length_take]
    rcases Nat.le_total l1.length l2.length with h | h
    · rw [Nat.min_eq_right h]
    · rw [Nat.min_eq_left h, List.drop_length, List.drop_of_length_le h]
  rwa [e3] at hst'
theorem own_lit {t : TypeId} {sz n b : Nat} {cs : List Value} (h : cs.length = n * sz) (hm : n ≤ maxLen) : Own (.slice (some ⟨b, 0, none⟩) n n) t sz n cs [(b, blk t cs)] :=
  ⟨h, .inr ⟨b, n, cs, rfl, rfl, Nat.le_refl _, hm, h, by rw [← h, List.take_length]⟩⟩
end Go.Rt
/- Arguments that came in, opened into what the walks ask. No conditions. -/
namespace Go.Rt
open Go.RowKit
variable {H : Type} {enc : TypeId × Value → H} {P : Program} {W : World} {sp : Nat → Bool} {held : Bool} {fuel : Nat} {t : TypeId} {cs : List Value} {x : DataW H × List MemPlace}
theorem ats_cells {b off n : Nat} {cs : List Value} (h : W.cells? 0 ⟨b, off, none⟩ n = some cs) : Ats W [] b off cs := by
  obtain ⟨_, hl, hc⟩ := World.cells?_some h
  refine ats_base fun j v hj => ?_
  have hjn : j < n := by rw [← hl]; exact (List.getElem?_eq_some_iff.1 hj).1
  have := hc j hjn
  rw [Addr.add_lit] at this
  rw [this, hj]
theorem zEy {α : Type} [Inhabited α] {e sz : Nat} {row : α → List Value} {ok : α → Prop} (ht : P.underlying t = some (.slice e)) (hsz : P.cellsOf e = sz) (hpos : 0 < sz) (hrow : ∀ f, (row f).length = sz)
    (hel : ∀ fuel cs y, DataW.trod enc P W 0 sp held fuel e cs = some y → ∃ f, cs = row f ∧ ok f) (h : DataW.trod enc P W 0 sp held fuel t cs = some x) :
    ∃ (a : Option Addr) (c : Nat) (l : List α), cs = [.slice a l.length c] ∧ Sl W [] a sz (l.map row) ∧ l.length ≤ c ∧ l.length ≤ 9223372036854775807 ∧ ∀ f ∈ l, ok f := by
  rcases Deep.open_slice ht h with ⟨rfl, _⟩ | ⟨a, len, cap, m, n, D, Pl, rfl, _, hlc, hcm, hm, _, hx⟩
  · exact ⟨none, 0, [], rfl, Sl.nil _ _, by simp, by simp, by simp⟩
  · have hlm : len ≤ m := by rw [hm]; split <;> omega
    have key : ∀ i, ∃ f : α, i < len → (∃ cs', W.cells? 0 (a.add (i * sz)) sz = some cs' ∧ cs' = row f) ∧ ok f := by
      intro i
      by_cases hi : i < len
      · obtain ⟨cs', h1, h2⟩ := hx i (by omega)
        rw [hsz] at h1
        obtain ⟨f, hf, hok⟩ := hel _ _ _ h2
        exact ⟨f, fun _ => ⟨⟨cs', h1, hf⟩, hok⟩⟩
      · exact ⟨default, fun h => absurd h hi⟩
    obtain ⟨F, hF⟩ := Classical.skolem.1 key
    have hmax : cap ≤ 9223372036854775807 := by simpa [maxLen] using hcm
    refine ⟨some a, cap, (List.range len).map F, by simp, ?_, by simpa using hlc, by simp; omega, ?_⟩
    · by_cases h0 : len = 0
      · subst h0; exact Sl.nil _ _
      · obtain ⟨b, off, spot⟩ := a
        have hspot : spot = none := by
          obtain ⟨⟨cs', h1, h2⟩, _⟩ := hF 0 (by omega)
          obtain ⟨_, hl, hc⟩ := World.cells?_some h1
          have h3 := hc 0 hpos
          have h4 : cs'[0]? = some (cs'[0]'(by omega)) := List.getElem?_eq_getElem (by omega)
          rw [h4] at h3
          simpa [Addr.add] using World.cell?_spot h3
        subst hspot
        refine .inr ⟨b, off, rfl, fun i r hi => ?_⟩
        have hil : i < len := by have := (List.getElem?_eq_some_iff.1 hi).1; simpa using this
        have hr : r = row (F i) := by
          simp only [List.getElem?_map, List.getElem?_range hil, Option.map_some, Option.some.injEq] at hi
          exact hi.symm
        subst hr
        obtain ⟨⟨cs', h1, h2⟩, _⟩ := hF i hil
        subst h2
        rw [Addr.add_lit] at h1
        exact ⟨hrow _, ats_cells h1⟩
    · intro f hf
      obtain ⟨i, hi, rfl⟩ := List.mem_map.1 hf
      exact (hF i (List.mem_range.1 hi)).2
theorem zC5 (ht : P.underlying t = some (.int .i64)) (h : DataW.trod enc P W 0 sp held fuel t cs = some x) : ∃ n, cs = [.int .i64 n] := by
  obtain ⟨n, h, _⟩ := DataW.trod_int ht h
  exact ⟨n, h⟩
theorem zBw {fs : Array Field} (ht : P.underlying t = some (.struct fs)) (h : DataW.trod enc P W 0 sp held fuel t cs = some x) (i e off sz : Nat) {f : Field} (hf : fs[i]? = some f) (he : f.type = e) (ho : f.offset = off) (hc : P.cellsOf e = sz) :
    ∃ n y, DataW.trod enc P W 0 sp held n e ((cs.drop off).take sz) = some y := by
  subst he ho hc
  obtain ⟨xs, n, _,_,_, hl, hfl⟩ := DataW.trod_struct ht h
  have hi : i < xs.length := by rw [hl]; exact (Array.getElem?_eq_some_iff.1 hf).1
  refine ⟨n, xs[i], ?_⟩
  rw [hfl i f hf, List.getElem?_eq_getElem hi]
theorem zE9 {fs : Array Field} (ht : P.underlying t = some (.struct fs)) (h : DataW.trod enc P W 0 sp held fuel t cs = some x) : cs.length = P.cellsOf t := by
  obtain ⟨_, _,_,_, h, _⟩ := DataW.trod_struct ht h
  exact h
end Go.Rt
/- The walking engine, part 9: regions that draw their order, where two operations can come: both ways are walked. No conditions. -/
namespace Go.Rt
open Go.RowKit
variable {r : Option Nat} {P : Program} {ops : Array Oper} {K K' : Act → World → Prop} {n : Nat} {ρ : Nat → Value} {ds : List Deferred} {w w0 : World} {L : List (Nat × Obj)}
def drawE (ops : Array Oper) (late : List Nat) (e : Array Bool → Bool) : List (Nat × Nat) → Array Bool → Bool
  | [], l => e l
  | (i, t) :: rest, l =>
    (match t with
     | 0 => (Region.ready .any ops l).contains i && Region.free .any ops l i && !late.contains i
     | 1 => (Region.ready .any ops l).contains i && Region.free .any ops l i && !late.contains i &&
        (let c := closeB ops i ops.size l; ((Region.ready .any ops c).all fun j => Nat.beq j i) && !badB late c && !c.getD i false && (List.range ops.size).all fun j => !l.getD j false || c.getD j false)
     | 2 => Region.ready .any ops l == [i] && !late.contains i
     | _ => Region.ready .any ops l == [i] && late.contains i) && drawE ops late e rest (l.setIfInBounds i true)
theorem zG5 {C : World → Prop} {late : List Nat} {e : Array Bool → Bool} {m : Nat} (hns : Region.noSelect ops = true) (hnd : noDefer ops = true)
    (hend : ∀ (l : Array Bool) (a : Act) (w : World), l.size = ops.size → e l = true → (badB late l = false → C w) → K' a w → wAH r P ops K (fun l w => badB late l = false → C w) m l a w) : ∀ (ord : List (Nat × Nat)) (l : Array Bool) (a : Act) (w : World), l.size = ops.size → drawE ops late e ord l = true →
    (badB late l = false → C w) → DW r P ops K' C ord a w → wAH r P ops K (fun l w => badB late l = false → C w) (ord.length + m) l a w
  | [], l, a, w, hsz, hB, hC, h => by
    rw [show ([] : List (Nat × Nat)).length + m = m by simp]
    exact hend l a w hsz hB hC h
  | (i, t) :: rest, l, a, w, hsz, hB, hC, h => by
    simp only [drawE, Bool.and_eq_true] at hB
    obtain ⟨hB1, hB2⟩ := hB
    have hsz' : (l.setIfInBounds i true).size = ops.size := by simpa using hsz
    have ih := zG5 (C := C) (late := late) (e := e) (m := m) hns hnd hend rest (l.setIfInBounds i true)
    rw [show ((i, t) :: rest).length + m = (rest.length + m) + 1 by simp; omega]
    match t, hB1, h with
    | 0, hB1, h =>
      simp only [Bool.and_eq_true, Bool.not_eq_true'] at hB1
      obtain ⟨o, v, ho, hy, hd⟩ := h
      refine zGe (C := fun _ => True) ho (Region.noSelect_spec hns) hnd (rest.length + m) l a w (Region.free_spec ho hB1.1.2) ?_ (by simpa using hB1.1.1) hy trivial hC ⟨?_, ih _ w hsz' hB2 ?_ hd⟩
      · exact fun l' w' _ hS => ⟨trivial, fun hb => hS (zG0 hB1.2 hb)⟩
      · exact fun hb => hC (zH2 hB1.2 hb)
      · exact fun hb => hC (zH2 hB1.2 hb)
    | 1, hB1, h =>
      simp only [Bool.and_eq_true, Bool.not_eq_true'] at hB1
      obtain ⟨⟨⟨h1, h2⟩, h3⟩, ⟨⟨⟨h4, h5⟩, h6⟩, h7⟩⟩ := hB1
      obtain ⟨hCw, o, v, ho, hy, hd⟩ := h
      refine zGe (C := C) ho (Region.noSelect_spec hns) hnd (rest.length + m) l a w (Region.free_spec ho h2) ?_ (by simpa using h1) hy hCw hC ⟨fun _ => hCw, ih _ w hsz' hB2 (fun _ => hCw) hd⟩
      intro l' w' hre hS
      have hsub := reach_sub (c := closeB ops i ops.size l) hre (fun j hj => ?_) (fun j hj => ?_) (by rw [zF4, hsz])
      · have hb : badB late l' = false := by
          unfold badB at h5 ⊢
          rw [List.any_eq_false] at *
          intro s hs hs'
          exact h5 s hs (hsub s hs')
        have := hS (zG0 h3 hb)
        exact ⟨this, fun _ => this⟩
      · rw [List.all_eq_true] at h7
        have hlt : j < ops.size := by
          rw [← hsz]
          rcases Nat.lt_or_ge j l.size with h' | h'
          · exact h'
          · simp [Array.getElem?_eq_none h'] at hj
        have := h7 j (List.mem_range.2 hlt)
        simp only [hj, Bool.not_true, Bool.false_or] at this
        exact this
      · rw [List.all_eq_true] at h4
        exact Nat.eq_of_beq_eq_true (h4 j hj)
    | 2, hB1, h =>
      simp only [Bool.and_eq_true, Bool.not_eq_true', beq_iff_eq] at hB1
      obtain ⟨o, ho, hw⟩ := h
      refine ⟨fun h0 => (by rw [hB1.1] at h0; cases h0), fun j hj => ?_⟩
      rw [hB1.1] at hj
      obtain rfl : j = i := by simpa using hj
      refine wpOpIn_mono (fun a' w' h' => ⟨fun _ => h'.1, ih a' w' hsz' hB2 (fun _ => h'.1) h'.2⟩) (wl_one (K := K) ho hw)
    | t + 3, hB1, h =>
      simp only [Bool.and_eq_true, beq_iff_eq] at hB1
      obtain ⟨o, ho, hw⟩ := h
      refine ⟨fun h0 => (by rw [hB1.1] at h0; cases h0), fun j hj => ?_⟩
      rw [hB1.1] at hj
      obtain rfl : j = i := by simpa using hj
      have hbad : badB late (l.setIfInBounds j true) = true := by
        unfold badB
        rw [List.any_eq_true]
        refine ⟨j, List.contains_iff_mem.1 hB1.2, ?_⟩
        have hlt : j < l.size := by rw [hsz]; exact (Array.getElem?_eq_some_iff.1 ho).1
        simp [hlt]
      refine wpOpIn_mono (fun a' w' h' => ⟨fun hb => (by rw [hbad] at hb; cases hb), ih a' w' hsz' hB2 (fun hb => (by rw [hbad] at hb; cases hb)) h'⟩) (wl_one (K := K) ho hw)
inductive OT where
  | done (pre : List (Nat × Nat))
  | two (pre : List (Nat × Nat)) (i j : Nat) (a b : OT)
def OT.len : OT → Nat
  | .done pre => pre.length
  | .two pre _ _ a _ => pre.length + (a.len + 1)
def drawT (ops : Array Oper) (late : List Nat) : OT → Array Bool → Bool
  | .done pre, l => drawE ops late (fun l => (Region.ready .any ops l).isEmpty) pre l
  | .two pre i j a b, l => drawE ops late (fun l => Region.ready .any ops l == [i, j] && !late.contains i && !late.contains j && Nat.beq a.len b.len && drawT ops late a (l.setIfInBounds i true) && drawT ops late b (l.setIfInBounds j true)) pre l
def DT (r : Option Nat) (P : Program) (ops : Array Oper) (K : Act → World → Prop) (C : World → Prop) : OT → Act → World → Prop
  | .done pre => DW r P ops K C pre
  | .two pre i j x y => DW r P ops (fun a w => (∃ o, ops[i]? = some o ∧ WL r P ops (Qn fun a' w' => C w' ∧ DT r P ops K C x a' w') [o] a w) ∧ (∃ o, ops[j]? = some o ∧ WL r P ops (Qn fun a' w' => C w' ∧ DT r P ops K C y a' w') [o] a w)) C pre
theorem zGd {C : World → Prop} {late : List Nat} (hns : Region.noSelect ops = true) (hnd : noDefer ops = true) : ∀ (T : OT) (l : Array Bool) (a : Act) (w : World), l.size = ops.size → drawT ops late T l = true →
    (badB late l = false → C w) → DT r P ops K C T a w → wAH r P ops K (fun l w => badB late l = false → C w) T.len l a w
  | .done pre, l, a, w, hsz, hB, hC, h => by
    refine zG5 (m := 0) (e := fun l => (Region.ready .any ops l).isEmpty) hns hnd ?_ pre l a w hsz hB hC h
    intro l' a' w' _ he _ hk
    exact ⟨by simpa using he, hk⟩
  | .two pre i j x y, l, a, w, hsz, hB, hC, h => by
    refine zG5 (m := x.len + 1) hns hnd ?_ pre l a w hsz hB hC h
    intro l' a' w' hsz' he hC' hk
    simp only [Bool.and_eq_true, Bool.not_eq_true', beq_iff_eq] at he
    obtain ⟨⟨⟨⟨⟨h1, h2⟩, h3⟩, h4⟩, h5⟩, h6⟩ := he
    obtain ⟨⟨o1, ho1, hw1⟩, ⟨o2, ho2, hw2⟩⟩ := hk
    have hlen : y.len = x.len := (Nat.eq_of_beq_eq_true h4).symm
    refine ⟨fun h0 => (by rw [h1] at h0; cases h0), fun q hq => ?_⟩
    rw [h1] at hq
    rcases List.mem_cons.1 hq with rfl | hq
    · refine wpOpIn_mono (fun a'' w'' h' => ⟨fun _ => h'.1, zGd hns hnd x _ a'' w'' (by simpa using hsz') h5 (fun _ => h'.1) h'.2⟩) (wl_one (K := K) ho1 hw1)
    · rw [List.mem_singleton] at hq
      subst hq
      refine wpOpIn_mono (fun a'' w'' h' => ⟨fun _ => h'.1, by rw [← hlen]; exact zGd hns hnd y _ a'' w'' (by simpa using hsz') h6 (fun _ => h'.1) h'.2⟩) (wl_one (K := K) ho2 hw2)
def drawTOK (ops : Array Oper) (late : List Nat) (T : OT) : Bool := Region.noSelect ops && noDefer ops && Nat.beq T.len ops.size && drawT ops late T (Array.replicate ops.size false)
theorem w_drawT {id : Nat} {l : List Oper} {Q : Exit → Act → World → Prop} {C : World → Prop} (late : List Nat) (T : OT) (hm : P.follows .mixedOrders = true) (hB : drawTOK l.toArray late T = true) (hC : C w)
    (hdrew : ∀ w, C w → C { w with drawn := w.drawn + 1 }) (h : ∀ w', C w' → DT r P l.toArray (fun a w => Q .normal a w) C T (A n ρ ds) w') : WC r P (.region id l.toArray true) Q (A n ρ ds) w := by
  unfold drawTOK at hB
  simp only [Bool.and_eq_true] at hB
  obtain ⟨⟨⟨h1, h2⟩, h3⟩, h4⟩ := hB
  have hst' := hdrew _ hC
  have hsz : T.len = l.toArray.size := Nat.eq_of_beq_eq_true h3
  have := zGd h1 h2 T (Array.replicate l.toArray.size false) (A n ρ ds) _ (by simp) h4 (fun _ => hst') (h _ hst')
  have hany := zEb _ _ _ _ this
  rw [hsz] at hany
  refine wpIn_mono (wpIn_region_any hm hany) ?_
  intro e a w hq
  cases e <;> first | exact hq | exact hq.elim
theorem zC8 {C : World → Prop} {pre : List (Nat × Nat)} {a : Act} (h : DW r P ops K C pre a w) : DT r P ops K C (.done pre) a w := h
theorem zEu {C : World → Prop} {pre : List (Nat × Nat)} {i j : Nat} {x y : OT} {a : Act} (h : DW r P ops (fun a w => (∃ o, ops[i]? = some o ∧ WL r P ops (Qn fun a' w' => C w' ∧ DT r P ops K C x a' w') [o] a w) ∧ (∃ o, ops[j]? = some o ∧ WL r P ops (Qn fun a' w' => C w' ∧ DT r P ops K C y a' w') [o] a w)) C pre a w) : DT r P ops K C (.two pre i j x y) a w := h
theorem zGy {C : World → Prop} {i j : Nat} {x y : OT} {a : Act} {o1 o2 : Oper} (h1 : ops[i]? = some o1) (h2 : ops[j]? = some o2) (hx : WL r P ops (Qn fun a' w' => C w' ∧ DT r P ops K C x a' w') [o1] a w) (hy : WL r P ops (Qn fun a' w' => C w' ∧ DT r P ops K C y a' w') [o2] a w) :
    DW r P ops (fun a w => (∃ o, ops[i]? = some o ∧ WL r P ops (Qn fun a' w' => C w' ∧ DT r P ops K C x a' w') [o] a w) ∧ (∃ o, ops[j]? = some o ∧ WL r P ops (Qn fun a' w' => C w' ∧ DT r P ops K C y a' w') [o] a w)) C [] a w := zB5 ⟨⟨o1, h1, hx⟩, ⟨o2, h2, hy⟩⟩
end Go.Rt
/- Plain words of names, spans and lists of numbers: what the helpers that all layers share compute. No conditions. -/
namespace Go.Rt

def nmByte (first : Bool) (c : UInt8) : Bool := (97 ≤ c.toNat && c.toNat ≤ 122) || (!first && (c.toNat == 46 || (48 ≤ c.toNat && c.toNat ≤ 57)))
def nmBytes : Bool → List UInt8 → Bool
  | _, [] => true
  | first, c :: l => nmByte first c && nmBytes false l
def nmOk (s : ByteArray) : Bool := (1 ≤ s.size && s.size ≤ 16) && nmBytes true s.data.toList
def has (l : List ByteArray) (s : ByteArray) : Bool := l.any fun x => decide (x = s)
def out (lo hi n : Int) : Bool := decide (n < lo) || decide (hi < n)
def ends (a b lo hi : Int) : Int := if out lo hi a || out lo hi b then 7 else if b < a then 2 else 0
def less : List Int → List Int → Bool
  | _, [] => false
  | [], _ :: _ => true
  | a :: l, b :: m => if a = b then less l m else decide (a < b)
theorem less_irrefl (l : List Int) : less l l = false := by
  induction l with
  | nil => rfl
  | cons a l ih => simp [less, ih]
theorem less_both : ∀ (l m : List Int), l.length = m.length → less l m = false → less m l = false → l = m
  | [], [], _,_, _ => rfl
  | a :: l, b :: m, hl, h1, h2 => by
    simp only [less] at h1 h2
    by_cases e : a = b
    · subst e
      simp only [if_true] at h1 h2
      rw [less_both l m (by simpa using hl) h1 h2]
    · rw [if_neg e] at h1
      rw [if_neg (Ne.symm e)] at h2
      simp only [decide_eq_false_iff_not] at h1 h2
      omega
  | [], _ :: _, hl, _, _ => by simp at hl
  | _ :: _, [], hl, _, _ => by simp at hl
theorem ints_eq (l m : List Int) : (decide (l.length = m.length) && (!less l m && !less m l)) = decide (l = m) := by
  rw [Bool.eq_iff_iff]
  simp only [Bool.and_eq_true, decide_eq_true_eq, Bool.not_eq_true']
  constructor
  · rintro ⟨h1, h2, h3⟩; exact less_both l m h1 h2 h3
  · rintro rfl; exact ⟨rfl, less_irrefl _, less_irrefl _⟩
end Go.Rt
