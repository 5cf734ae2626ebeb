/- Own texts of this claim, joined. No conditions. -/
import Derived.Maps.RangeRun
import Derived.Test.YtnjlejikgkelgaaGreatHTopLoadeda
import Derived.Test.YtnjlejikgkelgaaGreatHTopLoadedb
import Derived.Test.YtnjlejikgkelgaaGreatHTopLoadedc
import Derived.Test.YtnjlejikgkelgaaGreatHTopLoadedd
import Derived.Test.YtnjlejikgkelgaaGreatHTopLoadede
/- The walking engine, part 16: the check of one order of a region, over numbers as sets of bits. No conditions. -/
set_option linter.unusedSimpArgs false
set_option linter.unusedVariables false
namespace Go.Rt
open Go.RowKit
variable {r : Option Nat} {P : Program} {ops : Array Oper} {Q : Exit → Act → World → Prop} {rest : List Oper} {n : Nat} {ρ : Nat → Value} {ds : List Deferred} {w w0 : World} {L : List (Nat × Obj)}
def tb (m i : Nat) : Bool := Nat.beq (Nat.land (Nat.shiftRight m i) 1) 1
theorem tb_eq (m i : Nat) : tb m i = m.testBit i := by
  have h : Nat.land (Nat.shiftRight m i) 1 = (m >>> i) % 2 := by
    show (m >>> i) &&& 1 = _
    exact Nat.and_one_is_mod _
  have h2 : m.testBit i = decide ((m >>> i) % 2 = 1) := by rw [Nat.testBit_eq_decide_div_mod_eq, Nat.shiftRight_eq_div_pow]
  unfold tb
  rw [h, h2, Bool.eq_iff_iff, Nat.beq_eq, decide_eq_true_eq]
def orB (m i : Nat) : Nat := Nat.lor m (Nat.shiftLeft 1 i)
theorem tb_orB (m i j : Nat) : tb (orB m i) j = (tb m j || decide (i = j)) := by
  rw [tb_eq, tb_eq]
  show (m ||| (1 <<< i)).testBit j = _
  rw [Nat.testBit_or, Nat.shiftLeft_eq, Nat.one_mul, Nat.testBit_two_pow]
def maskOf : List Nat → Nat
  | [] => 0
  | x :: l => orB (maskOf l) x
theorem zIg (j : Nat) : ∀ l : List Nat, tb (maskOf l) j = l.contains j
  | [] => by simp [maskOf, tb_eq]
  | x :: l => by
    simp only [maskOf, tb_orB, zIg j l, List.contains_cons]
    rw [Bool.or_comm]
    congr 1
    rw [Bool.eq_iff_iff]; simp only [decide_eq_true_eq, beq_iff_eq, Nat.beq_eq]; exact eq_comm
def subN (a m : Nat) : Bool := Nat.beq (Nat.land a m) a
theorem sub_iff (a m : Nat) : subN a m = true ↔ ∀ j, tb a j = true → tb m j = true := by
  unfold subN
  rw [Nat.beq_eq]
  constructor
  · intro h j hj
    have h1 : (a &&& m).testBit j = a.testBit j := by rw [show a &&& m = a from h]
    rw [Nat.testBit_and] at h1
    rw [tb_eq] at hj ⊢
    rw [hj] at h1; simpa using h1
  · intro h
    show a &&& m = a
    apply Nat.eq_of_testBit_eq
    intro j
    rw [Nat.testBit_and]
    have := h j
    rw [tb_eq, tb_eq] at this
    cases ha : a.testBit j with
    | false => rfl
    | true => rw [this ha]; rfl
structure OpS where
  nd : Nat
  dst : Option Nat
  lk : Nat
def opS (ops : Array Oper) (o : Oper) : OpS := ⟨maskOf ((o.after.toList.filter (Region.binds .any)).map (·.on)), o.dst, maskOf (o.looksAt ops)⟩
def sumS (ops : Array Oper) : List OpS := ops.toList.map (opS ops)
def readyN : List OpS → Nat → Nat → List Nat
  | [], _, _ => []
  | x :: s, i, m => bif (!tb m i) && subN x.nd m then i :: readyN s (i + 1) m else readyN s (i + 1) m
def apartN (x y : OpS) : Bool :=
  (match x.dst with | some d => !tb y.lk d && y.dst != some d | none => true) && (match y.dst with | some d => !tb x.lk d | none => true)
def freeN (xi : OpS) (i m : Nat) : List OpS → Nat → Bool
  | [], _ => true
  | y :: s, j => (Nat.beq j i || tb m j || tb y.nd i || apartN xi y) && freeN xi i m s (j + 1)
def closeN (s : List OpS) (i : Nat) : Nat → Nat → Nat
  | 0, m => m
  | k + 1, m => closeN s i k ((readyN s 0 m).foldl (fun m j => bif Nat.beq j i then m else orB m j) m)
def memN (i : Nat) : List Nat → Bool
  | [] => false
  | j :: l => Nat.beq j i || memN i l
def onlyN (i : Nat) : List Nat → Bool
  | [j] => Nat.beq j i
  | _ => false
def drawN (s : List OpS) (n : Nat) (late : List Nat) : List (Nat × Nat) → Nat → Bool
  | [], m => match readyN s 0 m with | [] => true | _ => false
  | (i, t) :: rest, m =>
    (match t with
     | 0 => memN i (readyN s 0 m) && (match s[i]? with | some x => freeN x i m s 0 | none => false) && !memN i late
     | 1 => memN i (readyN s 0 m) && (match s[i]? with | some x => freeN x i m s 0 | none => false) && !memN i late &&
        (let c := closeN s i n m; ((readyN s 0 c).all fun j => Nat.beq j i) && !(late.any fun q => tb c q) && !tb c i && subN m c)
     | 2 => onlyN i (readyN s 0 m) && !memN i late
     | _ => onlyN i (readyN s 0 m) && memN i late) && drawN s n late rest (orB m i)
def drawOKN (ops : Array Oper) (late : List Nat) (ord : List (Nat × Nat)) : Bool :=
  Region.noSelect ops && noDefer ops && Nat.beq ord.length ops.size && drawN (sumS ops) ops.size late ord 0
def Rep (ops : Array Oper) (l : Array Bool) (m : Nat) : Prop := l.size = ops.size ∧ ∀ j, l.getD j false = tb m j
theorem zIn (i : Nat) : ∀ l : List Nat, memN i l = l.contains i
  | [] => rfl
  | j :: l => by
    simp only [memN, zIn i l, List.contains_cons]
    congr 1
    rw [Bool.eq_iff_iff]; simp only [decide_eq_true_eq, beq_iff_eq, Nat.beq_eq]; exact eq_comm
theorem zJc {i : Nat} {l : List Nat} (h : onlyN i l = true) : l = [i] := by
  match l with
  | [] => cases h
  | [j] => simp only [onlyN, Nat.beq_eq] at h; rw [h]
  | _ :: _ :: _ => cases h
theorem zHo {l : Array Bool} {m : Nat} (h : Rep ops l m) : Region.ready .any ops l = readyN (sumS ops) 0 m := by
  have key : ∀ (s : List Oper) (i : Nat), (∀ k (hk : k < s.length), ops[i + k]? = some s[k]) → (List.range' i s.length).filter (fun j => !l.getD j true && ((ops[j]?).map (·.after.all fun e => !Region.binds .any e || l.getD e.on false)).getD false) = readyN (s.map (opS ops)) i m := by
    intro s
    induction s with
    | nil => intro i _; rfl
    | cons x s ih =>
      intro i hk
      have hx : ops[i]? = some x := hk 0 (by simp)
      have hlt : i < ops.size := (Array.getElem?_eq_some_iff.1 hx).1
      have hih := ih (i + 1) (fun k hk2 => by have := hk (k + 1) (by simpa using hk2); rw [show i + 1 + k = i + (k + 1) by omega]; simpa using this)
      have hT : l.getD i true = tb m i := by
        rw [← h.2 i]
        have : i < l.size := by rw [h.1]; exact hlt
        simp [this]
      have hA : (x.after.all fun e => !Region.binds .any e || l.getD e.on false) = subN (opS ops x).nd m := by
        rw [Bool.eq_iff_iff, sub_iff, Array.all_eq_true_iff_forall_mem]
        unfold opS
        dsimp only
        constructor
        · intro hall j hj
          rw [zIg, List.contains_iff_mem] at hj
          obtain ⟨e, he, rfl⟩ := List.mem_map.1 hj
          obtain ⟨he1, he2⟩ := List.mem_filter.1 he
          have := hall e (by simpa using he1)
          rw [he2, h.2] at this
          simpa using this
        · intro hall e he
          rw [h.2]
          cases hb : Region.binds .any e with
          | false => rfl
          | true =>
            have := hall e.on (by rw [zIg, List.contains_iff_mem]; exact List.mem_map.2 ⟨e, List.mem_filter.2 ⟨by simpa using he, hb⟩, rfl⟩)
            simpa using this
      rw [List.length_cons, List.range'_succ, List.filter_cons, List.map_cons, readyN, ← hih]
      simp only [hx, hT, Option.map_some, Option.getD_some, hA]
      cases (!tb m i && subN (opS ops x).nd m) <;> rfl
  have := key ops.toList 0 (fun k hk => by rw [Nat.zero_add]; simp at hk ⊢)
  unfold Region.ready sumS
  rw [← this, List.range_eq_range', Array.length_toList]
theorem zHp {i m : Nat} (h : memN i (readyN (sumS ops) 0 m) = true) : i < ops.size := by
  have key : ∀ (s : List OpS) (b : Nat), memN i (readyN s b m) = true → i < b + s.length := by
    intro s
    induction s with
    | nil => intro b h; simp [readyN, memN] at h
    | cons x s ih =>
      intro b h
      simp only [readyN] at h
      cases hc : (!tb m b && subN x.nd m) with
      | false => rw [hc] at h; have := ih (b + 1) h; simp only [List.length_cons]; omega
      | true =>
        rw [hc] at h
        simp only [cond_true, memN, Bool.or_eq_true, Nat.beq_eq] at h
        rcases h with h | h
        · simp only [List.length_cons]; omega
        · have := ih (b + 1) h; simp only [List.length_cons]; omega
  have := key _ _ h
  simpa [sumS] using this
theorem rep_set {l : Array Bool} {m i : Nat} (h : Rep ops l m) (hi : i < ops.size) : Rep ops (l.setIfInBounds i true) (orB m i) := by
  refine ⟨by simpa using h.1, fun j => ?_⟩
  rw [tb_orB, ← h.2 j]
  by_cases e : i = j
  · subst e
    have : i < l.size := by rw [h.1]; exact hi
    simp [this]
  · simp [e, Array.getElem?_setIfInBounds_ne e]
theorem apart_rep (x y : Oper) : apartN (opS ops x) (opS ops y) = x.apart ops y := by
  unfold apartN Oper.apart opS
  dsimp only
  congr 1
  · cases x.dst with
    | none => rfl
    | some d => dsimp only; rw [zIg]
  · cases y.dst with
    | none => rfl
    | some d => dsimp only; rw [zIg]
theorem free_rep {l : Array Bool} {m i : Nat} (h : Rep ops l m) (hf : (match (sumS ops)[i]? with | some x => freeN x i m (sumS ops) 0 | none => false) = true) : Region.free .any ops l i = true := by
  unfold Region.free
  have hsum : (sumS ops)[i]? = (ops[i]?).map (opS ops) := by simp [sumS]
  rw [hsum] at hf
  cases hoi : ops[i]? with
  | none => rw [hoi] at hf; cases hf
  | some oi =>
    rw [hoi] at hf
    dsimp only [Option.map_some] at hf ⊢
    rw [List.all_eq_true]
    intro j hj
    rw [List.mem_range] at hj
    have key : ∀ (s : List Oper) (b : Nat), freeN (opS ops oi) i m (s.map (opS ops)) b = true → ∀ k (hk : k < s.length), (Nat.beq (b + k) i || tb m (b + k) || tb (opS ops s[k]).nd i || apartN (opS ops oi) (opS ops s[k])) = true := by
      intro s
      induction s with
      | nil => intro b _ k hk; simp at hk
      | cons x s ih =>
        intro b hb k hk
        simp only [List.map_cons, freeN] at hb
        rw [Bool.and_eq_true] at hb
        match k with
        | 0 => simpa using hb.1
        | k + 1 =>
          have := ih (b + 1) hb.2 k (by simpa using hk)
          rw [show b + (k + 1) = b + 1 + k by omega]
          simpa using this
    have hk := key ops.toList 0 hf j (by simpa using hj)
    rw [Nat.zero_add] at hk
    have hoj : ops[j]? = some ops[j] := by simp [hj]
    rw [hoj]
    dsimp only
    have hT : l.getD j true = tb m j := by
      rw [← h.2 j]
      have : j < l.size := by rw [h.1]; exact hj
      simp [this]
    rw [hT, ← apart_rep]
    simp only [Bool.or_eq_true, Nat.beq_eq] at hk ⊢
    rcases hk with ((hk | hk) | hk) | hk
    · left; left; simpa using hk
    · left; right; exact hk
    · right; left
      rw [Array.any_eq_true']
      unfold opS at hk
      dsimp only at hk
      rw [zIg, List.contains_iff_mem] at hk
      obtain ⟨e, he, hei⟩ := List.mem_map.1 hk
      obtain ⟨he1, he2⟩ := List.mem_filter.1 he
      exact ⟨e, by simpa using he1, by simp [he2, hei]⟩
    · right; right
      simpa using hk
theorem close_rep (i : Nat) : ∀ (k : Nat) {l : Array Bool} {m : Nat}, Rep ops l m → Rep ops (closeB ops i k l) (closeN (sumS ops) i k m)
  | 0, _,_, h => h
  | k + 1, l, m, h => by
    unfold closeB closeN
    refine close_rep i k ?_
    rw [zHo h]
    have key : ∀ (xs : List Nat) (l : Array Bool) (m : Nat), (∀ x ∈ xs, x < ops.size) → Rep ops l m → Rep ops (xs.foldl (fun l j => bif Nat.beq j i then l else l.setIfInBounds j true) l) (xs.foldl (fun m j => bif Nat.beq j i then m else orB m j) m) := by
      intro xs
      induction xs with
      | nil => intro l m _ h; exact h
      | cons x xs ih =>
        intro l m hx h
        rw [List.foldl_cons, List.foldl_cons]
        refine ih _ _ (fun y hy => hx y (.tail _ hy)) ?_
        cases Nat.beq x i
        · exact rep_set h (hx x (.head _))
        · exact h
    exact key _ _ _ (fun x hx => zHp (by rw [zIn, List.contains_iff_mem]; exact hx)) h
theorem draw_rep {late : List Nat} : ∀ (ord : List (Nat × Nat)) {l : Array Bool} {m : Nat}, Rep ops l m → drawN (sumS ops) ops.size late ord m = true → drawB ops late ord l = true
  | [], l, m, h, hd => by
    simp only [drawN] at hd
    simp only [drawB, zHo h]
    cases hr : readyN (sumS ops) 0 m with
    | nil => rfl
    | cons _ _ => rw [hr] at hd; cases hd
  | (i, t) :: rest, l, m, h, hd => by
    simp only [drawN, Bool.and_eq_true] at hd
    obtain ⟨h1, h2⟩ := hd
    simp only [drawB, Bool.and_eq_true]
    have hlt : i < ops.size := by
      match t, h1 with
      | 0, h1 => simp only [Bool.and_eq_true] at h1; exact zHp h1.1.1
      | 1, h1 => simp only [Bool.and_eq_true] at h1; exact zHp h1.1.1.1
      | 2, h1 => simp only [Bool.and_eq_true] at h1; exact zHp (m := m) (by rw [zJc h1.1]; simp [memN])
      | t + 3, h1 => simp only [Bool.and_eq_true] at h1; exact zHp (m := m) (by rw [zJc h1.1]; simp [memN])
    refine ⟨?_, draw_rep rest (rep_set h hlt) h2⟩
    rw [zHo h]
    match t, h1 with
    | 0, h1 =>
      simp only [Bool.and_eq_true, zIn] at h1 ⊢
      exact ⟨⟨h1.1.1, free_rep h h1.1.2⟩, h1.2⟩
    | 1, h1 =>
      simp only [Bool.and_eq_true, zIn] at h1 ⊢
      obtain ⟨⟨⟨a1, a2⟩, a3⟩, ⟨⟨⟨a4, a5⟩, a6⟩, a7⟩⟩ := h1
      have hc := close_rep i ops.size h
      refine ⟨⟨⟨a1, free_rep h a2⟩, a3⟩, ⟨⟨⟨?_, ?_⟩, ?_⟩, ?_⟩⟩
      · rw [zHo hc]; exact a4
      · rw [← a5]
        unfold badB
        congr 2
        funext q; exact hc.2 q
      · rw [hc.2]; exact a6
      · rw [List.all_eq_true]
        intro j _
        have := (sub_iff _ _).1 a7 j
        rw [h.2, hc.2]
        cases ht : tb m j with
        | false => rfl
        | true => rw [this ht]; rfl
    | 2, h1 =>
      simp only [Bool.and_eq_true, zIn] at h1 ⊢
      exact ⟨by rw [zJc h1.1]; simp, h1.2⟩
    | t + 3, h1 =>
      simp only [Bool.and_eq_true, zIn] at h1 ⊢
      exact ⟨by rw [zJc h1.1]; simp, h1.2⟩
theorem zC8 {late : List Nat} {ord : List (Nat × Nat)} (h : drawOKN ops late ord = true) : drawOK ops late ord = true := by
  unfold drawOKN at h
  unfold drawOK
  simp only [Bool.and_eq_true] at h ⊢
  exact ⟨h.1, draw_rep ord ⟨by simp, fun j => by
    have : tb 0 j = false := by rw [tb_eq]; exact Nat.zero_testBit j
    rw [this]
    by_cases hj : j < ops.size
    · simp [hj]
    · simp [hj]⟩ h.2⟩
end Go.Rt
/- The walking engine, part 17: a number of sixteen bits as an int. No conditions. -/
namespace Go.Rt
open Go.RowKit
variable {P : Program} {n : Nat} {ρ : Nat → Value} {ds : List Deferred} {w : World} {d : Option Tmp} {ty : TypeId} {p : String} {e : Array Edge} {g : Option (Nat × Bool)}
end Go.Rt
/- The walking engine, part 18: maps as lists of keys and values; ranges over maps. No conditions. -/
set_option linter.unusedSectionVars false
namespace Go.Rt
open Go.RowKit
section
variable {α : Type} [DecidableEq α]
def ents (kv : α → Value) (l : List (α × Value × Nat)) : List MapEntry := l.map fun q => { key := kv q.1, val := q.2.1, born := q.2.2 }
def idxA (a : α) : List (α × Value × Nat) → Nat → Option (Nat × Value)
  | [], _ => none
  | q :: l, i => if q.1 = a then some (i, q.2.1) else idxA a l (i + 1)
def getA (a : α) : List (α × Value × Nat) → Option Value
  | [] => none
  | q :: l => if q.1 = a then some q.2.1 else getA a l
def putA (a : α) (v : Value) (ck : Nat) : List (α × Value × Nat) → List (α × Value × Nat)
  | [] => [(a, v, ck)]
  | q :: l => if q.1 = a then (a, v, q.2.2) :: l else q :: putA a v ck l
structure KeyG (P : Program) (t : TypeId) (kv : α → Value) (ok : α → Prop) : Prop where
  chk : ∀ (em : Bool) (a : α) (w : World), ok a → (Instr.checkKey em 10000 t (kv a)).run P w = .ok () w
  find : ∀ (a : α) (l : List (α × Value × Nat)) (w : World), ok a → (∀ q ∈ l, ok q.1) → (Instr.findKey t (kv a) (ents kv l)).run P w = .ok (idxA a l 0) w
  stay : ∀ a : α, ok a → Instr.sameBits 10000 (kv a) (kv a) = true
theorem getA_none {a : α} : ∀ {l : List (α × Value × Nat)}, getA a l = none ↔ ∀ q ∈ l, q.1 ≠ a
  | [] => by simp [getA]
  | q :: l => by
    by_cases h : q.1 = a
    · simp [getA, h]
    · simp [getA, h, getA_none (l := l)]
theorem idxA_get {a : α} : ∀ (l : List (α × Value × Nat)) (i : Nat), (idxA a l i).map (·.2) = getA a l
  | [], _ => rfl
  | q :: l, i => by
    by_cases h : q.1 = a
    · simp [idxA, getA, h]
    · simp [idxA, getA, h, idxA_get l]
theorem zHs {a : α} : ∀ (l : List (α × Value × Nat)) (i : Nat), idxA a l (i + 1) = (idxA a l i).map fun p => (p.1 + 1, p.2)
  | [], _ => rfl
  | q :: l, i => by
    by_cases h : q.1 = a
    · simp [idxA, h]
    · simp [idxA, h, zHs l]
theorem putA_none {a : α} {v : Value} {ck : Nat} : ∀ {l : List (α × Value × Nat)}, idxA a l 0 = none → putA a v ck l = l ++ [(a, v, ck)]
  | [], _ => rfl
  | q :: l, h => by
    by_cases e : q.1 = a
    · simp [idxA, e] at h
    · simp only [idxA, if_neg e] at h
      rw [zHs] at h
      simp only [putA, if_neg e, List.cons_append]
      rw [putA_none (by simpa using h)]
theorem putA_some {kv : α → Value} {a : α} {v : Value} {ck : Nat} : ∀ {l : List (α × Value × Nat)} {i : Nat} {u : Value}, idxA a l 0 = some (i, u) → ents kv (putA a v ck l) = (ents kv l).modify i (fun e => { e with key := kv a, val := v })
  | [], _,_, h => by simp [idxA] at h
  | q :: l, i, u, h => by
    by_cases e : q.1 = a
    · simp only [idxA, if_pos e] at h
      injection h with h; injection h with h1 h2
      subst h1
      simp [putA, e, ents]
    · simp only [idxA, if_neg e] at h
      rw [zHs] at h
      cases hq : idxA a l 0 with
      | none => rw [hq] at h; cases h
      | some p =>
        rw [hq] at h
        injection h with h; injection h with h1 h2
        subst h1
        have ih := putA_some (kv := kv) (v := v) (ck := ck) (show idxA a l 0 = some (p.1, p.2) from hq)
        have e1 : ents kv (putA a v ck (q :: l)) = { key := kv q.1, val := q.2.1, born := q.2.2 } :: ents kv (putA a v ck l) := by simp [putA, e, ents]
        rw [e1, ih]
        show _ = (_ :: ents kv l).modify (p.1 + 1) _
        simp
theorem idxA_at {kv : α → Value} {a : α} : ∀ {l : List (α × Value × Nat)} {i : Nat} {u : Value}, idxA a l 0 = some (i, u) → ((ents kv l)[i]?).map (·.key) = some (kv a)
  | [], _,_, h => by simp [idxA] at h
  | q :: l, i, u, h => by
    by_cases e : q.1 = a
    · simp only [idxA, if_pos e] at h
      injection h with h; injection h with h1 h2
      subst h1
      simp [ents, e]
    · simp only [idxA, if_neg e] at h
      rw [zHs] at h
      cases hq : idxA a l 0 with
      | none => rw [hq] at h; cases h
      | some p =>
        rw [hq] at h
        injection h with h; injection h with h1 h2
        subst h1
        have ih := idxA_at (kv := kv) (show idxA a l 0 = some (p.1, p.2) from hq)
        show ((_ :: ents kv l)[p.1 + 1]?).map _ = _
        simpa using ih
theorem zJf {a : α} {v : Value} {ck : Nat} {q : α × Value × Nat} : ∀ {l : List (α × Value × Nat)}, q ∈ putA a v ck l → (q.1 = a ∧ q.2.1 = v) ∨ q ∈ l
  | [], h => by simp [putA] at h; subst h; exact .inl ⟨rfl, rfl⟩
  | x :: l, h => by
    by_cases e : x.1 = a
    · simp only [putA, if_pos e] at h
      cases h with
      | head => exact .inl ⟨rfl, rfl⟩
      | tail _ h => exact .inr (.tail _ h)
    · simp only [putA, if_neg e] at h
      cases h with
      | head => exact .inr (.head _)
      | tail _ h =>
        rcases zJf h with h | h
        · exact .inl h
        · exact .inr (.tail _ h)
theorem zFi {a : α} {v : Value} {ck : Nat} : ∀ {l : List (α × Value × Nat)} {b : α}, b ∈ (putA a v ck l).map (·.1) ↔ b = a ∨ b ∈ l.map (·.1)
  | [], b => by simp [putA]
  | x :: l, b => by
    by_cases e : x.1 = a
    · simp [putA, e]
    · simp only [putA, if_neg e, List.map_cons, List.mem_cons, zFi (l := l)]
      constructor
      · rintro (h | h | h)
        · exact .inr (.inl h)
        · exact .inl h
        · exact .inr (.inr h)
      · rintro (h | h | h)
        · exact .inr (.inl h)
        · exact .inl h
        · exact .inr (.inr h)
structure MOk (l : List (α × Value × Nat)) (ck : Nat) : Prop where
  born : ∀ q ∈ l, q.2.2 < ck
  bnd : (l.map (·.2.2)).Nodup
  key : (l.map (·.1)).Nodup
theorem mok_nil : MOk ([] : List (α × Value × Nat)) 0 := ⟨by simp, by simp, by simp⟩
theorem borns_putA {a : α} {v : Value} {ck : Nat} : ∀ {l : List (α × Value × Nat)}, (idxA a l 0 ≠ none ∧ (putA a v ck l).map (·.2.2) = l.map (·.2.2) ∧ (putA a v ck l).map (·.1) = l.map (·.1)) ∨ (idxA a l 0 = none ∧ (putA a v ck l).map (·.2.2) = l.map (·.2.2) ++ [ck] ∧ (putA a v ck l).map (·.1) = l.map (·.1) ++ [a] ∧ a ∉ l.map (·.1))
  | [] => .inr ⟨rfl, rfl, rfl, by simp⟩
  | x :: l => by
    by_cases e : x.1 = a
    · left; simp [idxA, putA, e]
    · have hx : idxA a (x :: l) 0 = (idxA a l 0).map fun p => (p.1 + 1, p.2) := by simp only [idxA, if_neg e]; exact zHs l 0
      rcases borns_putA (a := a) (v := v) (ck := ck) (l := l) with ⟨h1, h2, h3⟩ | ⟨h1, h2, h3, h4⟩
      · left
        refine ⟨by rw [hx]; intro h; simp at h; exact h1 h, by simp [putA, e, h2], by simp [putA, e, h3]⟩
      · right
        refine ⟨by rw [hx, h1]; rfl, by simp [putA, e, h2], by simp [putA, e, h3], ?_⟩
        rw [List.map_cons, List.mem_cons, not_or]
        exact ⟨fun h => e h.symm, h4⟩
theorem MOk.put {l : List (α × Value × Nat)} {ck : Nat} (h : MOk l ck) (a : α) (v : Value) : MOk (putA a v ck l) (if idxA a l 0 = none then ck + 1 else ck) := by
  have hb : ∀ z ∈ l.map (·.2.2), z < ck := by intro z hz; obtain ⟨q, hq, rfl⟩ := List.mem_map.1 hz; exact h.born q hq
  rcases borns_putA (a := a) (v := v) (ck := ck) (l := l) with ⟨h1, h2, h3⟩ | ⟨h1, h2, h3, h4⟩
  · rw [if_neg h1]
    exact ⟨fun q hq => hb _ (by rw [← h2]; exact List.mem_map_of_mem hq), by rw [h2]; exact h.bnd, by rw [h3]; exact h.key⟩
  · rw [if_pos h1]
    refine ⟨fun q hq => ?_, ?_, ?_⟩
    · have : q.2.2 ∈ (putA a v ck l).map (·.2.2) := List.mem_map_of_mem (f := fun q : α × Value × Nat => q.2.2) hq
      rw [h2, List.mem_append, List.mem_singleton] at this
      rcases this with h5 | h5
      · have := hb _ h5; omega
      · omega
    · rw [h2, List.nodup_append]
      refine ⟨h.bnd, by simp, fun x hx y hy => ?_⟩
      rw [List.mem_singleton] at hy
      subst hy
      have := hb _ hx; omega
    · rw [h3, List.nodup_append]
      refine ⟨h.key, by simp, fun x hx y hy e => ?_⟩
      rw [List.mem_singleton] at hy
      subst hy e
      exact h4 hx
end
section
variable {r : Option Nat} {P : Program} {ops : Array Oper} {Q : Exit → Act → World → Prop} {rest : List Oper} {n : Nat} {ρ : Nat → Value} {ds : List Deferred} {w w0 : World} {L : List (Nat × Obj)}
  {d : Option Tmp} {ty : TypeId} {p : String} {e : Array Edge} {g : Option (Nat × Bool)} {α : Type} [DecidableEq α] {kv : α → Value} {ok : α → Prop}
theorem G_lookS {mt kt el : TypeId} {x y : Operand} {a : α} {l : List (α × Value × Nat)} {m i ck : Nat} {v : Value} (hU : P.underlying mt = some (.map kt el)) (hK : KeyG P kt kv ok) (hok : ok a) (hall : ∀ q ∈ l, ok q.1)
    (hst : St w0 w L) (ho : okO n x = true) (ho1 : okO n y = true) (hx : ev ρ x = .map (some m)) (hy : ev ρ y = kv a) (hi : L[i]? = some (m, .map (ents kv l).toArray ck)) (hf : getA a l = some v) (both : Bool) :
    Yd P (A n ρ ds) ⟨d, .lookup mt x y both, ty, p, e, g⟩ w (if both then .tuple #[v, .bool true] else v) := by
  have hc := hK.chk (ents kv l).toArray.isEmpty a w hok
  have hg := hK.find a l w hok hall
  have hv := idxA_get (a := a) l 0
  rw [hf] at hv
  cases hq : idxA a l 0 with
  | none => rw [hq] at hv; cases hv
  | some q =>
    rw [hq] at hg hv
    obtain ⟨j, u⟩ := q
    have hu : u = v := by simpa using hv
    subst hu
    unfold Yd
    have : (Instr.lookup mt (.map (some m)) (kv a) both).run P w = .ok (if both then .tuple #[u, .bool true] else u) w := by
      simp only [Instr.lookup, Sem.run_bind, run_underlying hU, Result.andThen_ok, hst.obj hi, Sem.run_pure, hc, hg]
    simp only [execOp, zBz ho, zBz ho1, hx, hy, Sem.run_bind, this]
    rfl
theorem G_lookN {mt kt el : TypeId} {x y : Operand} {a : α} {l : List (α × Value × Nat)} {m i ck : Nat} {z : Value} (hU : P.underlying mt = some (.map kt el)) (hK : KeyG P kt kv ok) (hok : ok a) (hall : ∀ q ∈ l, ok q.1)
    (hz : ∀ w, (zeroValue el).run P w = .ok z w) (hst : St w0 w L) (ho : okO n x = true) (ho1 : okO n y = true) (hx : ev ρ x = .map (some m)) (hy : ev ρ y = kv a) (hi : L[i]? = some (m, .map (ents kv l).toArray ck)) (hf : getA a l = none) (both : Bool) :
    Yd P (A n ρ ds) ⟨d, .lookup mt x y both, ty, p, e, g⟩ w (if both then .tuple #[z, .bool false] else z) := by
  have hc := hK.chk (ents kv l).toArray.isEmpty a w hok
  have hg := hK.find a l w hok hall
  have hv := idxA_get (a := a) l 0
  rw [hf] at hv
  cases hq : idxA a l 0 with
  | some q => rw [hq] at hv; cases hv
  | none =>
    rw [hq] at hg
    unfold Yd
    have : (Instr.lookup mt (.map (some m)) (kv a) both).run P w = .ok (if both then .tuple #[z, .bool false] else z) w := by
      simp only [Instr.lookup, Sem.run_bind, run_underlying hU, Result.andThen_ok, hst.obj hi, Sem.run_pure, hc, hg, hz]
    simp only [execOp, zBz ho, zBz ho1, hx, hy, Sem.run_bind, this]
    rfl
theorem G_look2S {mt kt el : TypeId} {x y : Operand} {a : α} {l : List (α × Value × Nat)} {m i ck : Nat} {v : Value} (hU : P.underlying mt = some (.map kt el)) (hK : KeyG P kt kv ok) (hok : ok a) (hall : ∀ q ∈ l, ok q.1)
    (hst : St w0 w L) (ho : okO n x = true) (ho1 : okO n y = true) (hx : ev ρ x = .map (some m)) (hy : ev ρ y = kv a) (hi : L[i]? = some (m, .map (ents kv l).toArray ck)) (hf : getA a l = some v) :
    Yd P (A n ρ ds) ⟨d, .lookup mt x y true, ty, p, e, g⟩ w (.tuple #[v, .bool true]) := G_lookS hU hK hok hall hst ho ho1 hx hy hi hf true
theorem G_look1S {mt kt el : TypeId} {x y : Operand} {a : α} {l : List (α × Value × Nat)} {m i ck : Nat} {v : Value} (hU : P.underlying mt = some (.map kt el)) (hK : KeyG P kt kv ok) (hok : ok a) (hall : ∀ q ∈ l, ok q.1)
    (hst : St w0 w L) (ho : okO n x = true) (ho1 : okO n y = true) (hx : ev ρ x = .map (some m)) (hy : ev ρ y = kv a) (hi : L[i]? = some (m, .map (ents kv l).toArray ck)) (hf : getA a l = some v) :
    Yd P (A n ρ ds) ⟨d, .lookup mt x y false, ty, p, e, g⟩ w v := G_lookS hU hK hok hall hst ho ho1 hx hy hi hf false
theorem G_look2N {mt kt el : TypeId} {x y : Operand} {a : α} {l : List (α × Value × Nat)} {m i ck : Nat} {z : Value} (hU : P.underlying mt = some (.map kt el)) (hK : KeyG P kt kv ok) (hok : ok a) (hall : ∀ q ∈ l, ok q.1)
    (hz : ∀ w, (zeroValue el).run P w = .ok z w) (hst : St w0 w L) (ho : okO n x = true) (ho1 : okO n y = true) (hx : ev ρ x = .map (some m)) (hy : ev ρ y = kv a) (hi : L[i]? = some (m, .map (ents kv l).toArray ck)) (hf : getA a l = none) :
    Yd P (A n ρ ds) ⟨d, .lookup mt x y true, ty, p, e, g⟩ w (.tuple #[z, .bool false]) := G_lookN hU hK hok hall hz hst ho ho1 hx hy hi hf true
theorem G_look1N {mt kt el : TypeId} {x y : Operand} {a : α} {l : List (α × Value × Nat)} {m i ck : Nat} {z : Value} (hU : P.underlying mt = some (.map kt el)) (hK : KeyG P kt kv ok) (hok : ok a) (hall : ∀ q ∈ l, ok q.1)
    (hz : ∀ w, (zeroValue el).run P w = .ok z w) (hst : St w0 w L) (ho : okO n x = true) (ho1 : okO n y = true) (hx : ev ρ x = .map (some m)) (hy : ev ρ y = kv a) (hi : L[i]? = some (m, .map (ents kv l).toArray ck)) (hf : getA a l = none) :
    Yd P (A n ρ ds) ⟨d, .lookup mt x y false, ty, p, e, g⟩ w z := G_lookN hU hK hok hall hz hst ho ho1 hx hy hi hf false
theorem G_put {mt kt el : TypeId} {x y z : Operand} {a : α} {v : Value} {l : List (α × Value × Nat)} {m i ck : Nat} (hw : Want ops (A n ρ ds) ⟨none, .mapUpdate mt x y z, ty, p, e, g⟩) (hU : P.underlying mt = some (.map kt el)) (hK : KeyG P kt kv ok) (hok : ok a) (hall : ∀ q ∈ l, ok q.1)
    (ho : okO n x = true) (ho1 : okO n y = true) (ho2 : okO n z = true) (hx : ev ρ x = .map (some m)) (hy : ev ρ y = kv a) (hz : ev ρ z = v) (hst : St w0 w L) (hi : L[i]? = some (m, .map (ents kv l).toArray ck))
    (hk2 : ∀ w', St w0 w' (L.set i (m, .map (ents kv (putA a v ck l)).toArray (if idxA a l 0 = none then ck + 1 else ck))) → WL r P ops Q rest (A n ρ ds) w') :
    WL r P ops Q (⟨none, .mapUpdate mt x y z, ty, p, e, g⟩ :: rest) (A n ρ ds) w := by
  refine w_unit hw (w' := w.putObj m (.map (ents kv (putA a v ck l)).toArray (if idxA a l 0 = none then ck + 1 else ck))) ?_ rfl (hk2 _ (hst.putObj hi _))
  have hc := hK.chk false a w hok
  have hg := hK.find a l w hok hall
  have hs : ∀ o, (setObj m o).run P w = .ok () (w.putObj m o) := by intro o; simp [setObj, Sem.run, hst.get hi, World.putObj]
  have : (Instr.mapUpdate mt (.map (some m)) (kv a) v).run P w = .ok () (w.putObj m (.map (ents kv (putA a v ck l)).toArray (if idxA a l 0 = none then ck + 1 else ck))) := by
    simp only [Instr.mapUpdate, Sem.run_bind, run_underlying hU, Result.andThen_ok, hst.obj hi, Sem.run_pure, hc, hg]
    cases hq : idxA a l 0 with
    | none =>
      simp only [hs, if_true]
      rw [putA_none hq]
      simp [ents]
    | some q =>
      obtain ⟨j, u⟩ := q
      have h1 := putA_some (kv := kv) (v := v) (ck := ck) hq
      have h2 := idxA_at (kv := kv) hq
      have h3 : (((ents kv l).toArray[j]?).map (·.key)).getD (kv a) = kv a := by rw [List.getElem?_toArray, h2]; rfl
      simp only [h3, Instr.keyThatStays, hK.stay a hok, if_true, Sem.run_bind, Sem.run_pure, Result.andThen_ok, hs]
      rw [h1, if_neg (by simp)]
      congr 3
      apply Array.toList_inj.1
      simp
  simp only [execOp, zBz ho, zBz ho1, zBz ho2, hx, hy, hz, Sem.run_bind, this]
  rfl
theorem G_insert {mt kt el : TypeId} {x y z : Operand} {a : α} {v : Value} {l : List (α × Value × Nat)} {m i ck : Nat} (hw : Want ops (A n ρ ds) ⟨none, .insert mt x y z, ty, p, e, g⟩) (hU : P.underlying mt = some (.map kt el)) (hK : KeyG P kt kv ok) (hok : ok a) (hall : ∀ q ∈ l, ok q.1)
    (ho : okO n x = true) (ho1 : okO n y = true) (ho2 : okO n z = true) (hx : ev ρ x = .map (some m)) (hy : ev ρ y = kv a) (hz : ev ρ z = v) (hst : St w0 w L) (hi : L[i]? = some (m, .map (ents kv l).toArray ck))
    (hk2 : ∀ w', St w0 w' (L.set i (m, .map (ents kv (putA a v ck l)).toArray (if idxA a l 0 = none then ck + 1 else ck))) → WL r P ops Q rest (A n ρ ds) w') :
    WL r P ops Q (⟨none, .insert mt x y z, ty, p, e, g⟩ :: rest) (A n ρ ds) w := by
  refine w_unit hw (w' := w.putObj m (.map (ents kv (putA a v ck l)).toArray (if idxA a l 0 = none then ck + 1 else ck))) ?_ rfl (hk2 _ (hst.putObj hi _))
  have hc := hK.chk false a w hok
  have hg := hK.find a l w hok hall
  have hs : ∀ o, (setObj m o).run P w = .ok () (w.putObj m o) := by intro o; simp [setObj, Sem.run, hst.get hi, World.putObj]
  have : (Instr.mapUpdate mt (.map (some m)) (kv a) v).run P w = .ok () (w.putObj m (.map (ents kv (putA a v ck l)).toArray (if idxA a l 0 = none then ck + 1 else ck))) := by
    simp only [Instr.mapUpdate, Sem.run_bind, run_underlying hU, Result.andThen_ok, hst.obj hi, Sem.run_pure, hc, hg]
    cases hq : idxA a l 0 with
    | none =>
      simp only [hs, if_true]
      rw [putA_none hq]
      simp [ents]
    | some q =>
      obtain ⟨j, u⟩ := q
      have h1 := putA_some (kv := kv) (v := v) (ck := ck) hq
      have h2 := idxA_at (kv := kv) hq
      have h3 : (((ents kv l).toArray[j]?).map (·.key)).getD (kv a) = kv a := by rw [List.getElem?_toArray, h2]; rfl
      simp only [h3, Instr.keyThatStays, hK.stay a hok, if_true, Sem.run_bind, Sem.run_pure, Result.andThen_ok, hs]
      rw [h1, if_neg (by simp)]
      congr 3
      apply Array.toList_inj.1
      simp
  simp only [execOp, zBz ho, zBz ho1, zBz ho2, hx, hy, hz, Sem.run_bind, this]
  rfl
theorem zIe {d : Nat} {t kt el : TypeId} {x : Operand} {m i : Nat} {es : Array MapEntry} {ck : Nat} (hw : Want ops (A n ρ ds) ⟨some d, .range t x, ty, p, e, g⟩) (hU : P.underlying t = some (.map kt el)) (ho : okO n x = true) (hx : ev ρ x = .map (some m)) (hst : St w0 w L) (hi : L[i]? = some (m, .map es ck))
    (hk : ∀ b w', St w0 w' ((b, .mapIter (some m) ck #[] ck) :: L) → WL r P ops Q rest (A n (upd ρ d (.pointer (some ⟨b, 0, none⟩))) ds) w') :
    WL r P ops Q (⟨some d, .range t x, ty, p, e, g⟩ :: rest) (A n ρ ds) w := by
  refine zId (v := .pointer (some ⟨w.heap.size, 0, none⟩)) (w' := w.alloc (.mapIter (some m) ck #[] ck)) hw ?_ rfl (hk _ _ (hst.alloc _))
  simp [execOp, Instr.range, zBz ho, hx, Sem.run_bind, run_underlying hU, Result.andThen, hst.obj hi]
theorem w_nextMap {d : Nat} {x : Operand} {m i j b since last ck : Nat} {seen : Array Nat} {l : List (α × Value × Nat)} (hw : Want ops (A n ρ ds) ⟨some d, .next x false, ty, p, e, g⟩) (ho : okO n x = true) (hx : ev ρ x = .pointer (some ⟨b, 0, none⟩)) (hst : St w0 w L)
    (hi : L[i]? = some (b, .mapIter (some m) since seen last)) (hj : L[j]? = some (m, .map (ents kv l).toArray ck)) (hold : ∀ q ∈ l, q.2.2 < since) (hsc : since ≤ last)
    (hk1 : ∀ q ∈ l, q.2.2 ∉ seen.toList → ∀ w', St w0 w' (L.set i (b, .mapIter (some m) since (seen.push q.2.2) ck)) → WL r P ops Q rest (A n (upd ρ d (.tuple #[.bool true, kv q.1, q.2.1])) ds) w')
    (hk2 : (∀ q ∈ l, q.2.2 ∈ seen.toList) → WL r P ops Q rest (A n (upd ρ d (.tuple #[.bool false])) ds) w) :
    WL r P ops Q (⟨some d, .next x false, ty, p, e, g⟩ :: rest) (A n ρ ds) w := by
  have h := run_next_at (P := P) w ty b m since last seen (ents kv l).toArray ck (hst.get hi) (hst.get hj) (fun x hx => by
    simp only [ents, List.mem_map] at hx
    obtain ⟨q, hq, rfl⟩ := hx
    exact hold q hq) hsc
  rcases h with ⟨h1, h2⟩ | ⟨e1, he, w1, hw1, h2⟩
  · refine zId (v := .tuple #[.bool false]) (w' := w) hw ?_ rfl (hk2 fun q hq => ?_)
    · simp only [execOp, zBz ho, hx, Sem.run_bind, h2]; rfl
    · refine Decidable.byContradiction fun hn => ?_
      have hm : ({ key := kv q.1, val := q.2.1, born := q.2.2 } : MapEntry) ∈ leftOf (ents kv l).toArray seen := by
        unfold leftOf
        rw [Array.mem_filter]
        refine ⟨by simp [ents]; exact ⟨q.1, q.2.1, q.2.2, hq, rfl, rfl, rfl⟩, by simpa using hn⟩
      have := Array.size_pos_of_mem hm
      omega
  · have he2 : e1 ∈ (leftOf (ents kv l).toArray seen) := by simpa using he
    unfold leftOf at he2
    rw [Array.mem_filter] at he2
    obtain ⟨q, hq, rfl⟩ : ∃ q ∈ l, ({ key := kv q.1, val := q.2.1, born := q.2.2 } : MapEntry) = e1 := by
      have := he2.1
      simp only [ents, List.mem_toArray, List.mem_map] at this
      exact this
    have hst1 : St w0 w1 L := by rcases hw1 with rfl | rfl; exact hst; exact hst.drew
    refine zId (v := .tuple #[.bool true, kv q.1, q.2.1]) (w' := w1.putObj b (.mapIter (some m) since (seen.push q.2.2) ck)) hw ?_ rfl (hk1 q hq (by simpa using he2.2) _ (hst1.putObj hi _))
    simp only [execOp, zBz ho, hx, Sem.run_bind, h2]; rfl
theorem y_entryG {x : Operand} {m i j b since ck : Nat} {seen : Array Nat} {l : List (α × Value × Nat)} {q : α × Value × Nat} (ho : okO n x = true) (hx : ev ρ x = .pointer (some ⟨b, 0, none⟩)) (hst : St w0 w L)
    (hi : L[i]? = some (b, .mapIter (some m) since (seen.push q.2.2) ck)) (hj : L[j]? = some (m, .map (ents kv l).toArray ck)) (hq : q ∈ l) (hn : (l.map (·.2.2)).Nodup) :
    Yd P (A n ρ ds) ⟨d, .entry x, ty, p, e, g⟩ w (.tuple #[kv q.1, q.2.1]) := by
  have hb : ((ents kv l).toArray.toList.map (·.born)) = l.map (·.2.2) := by simp [ents]
  have h := run_entry_at (P := P) w b m since seen (ents kv l).toArray ck { key := kv q.1, val := q.2.1, born := q.2.2 } (hst.get hi) (hst.get hj) (by simp [ents]; exact ⟨q.1, q.2.1, q.2.2, hq, rfl, rfl, rfl⟩) (by rw [hb]; exact hn)
  unfold Yd
  simp only [execOp, zBz ho, hx, Sem.run_bind, h]; rfl
theorem y_neg {t : TypeId} {x : Operand} {a : Int} (ho : okO n x = true) (hx : ev ρ x = .int .i64 a) (h0 : -9223372036854775807 ≤ a) (h1 : a ≤ 9223372036854775807) : Yd P (A n ρ ds) ⟨d, .unOp .neg t x, ty, p, e, g⟩ w (.int .i64 (-a)) := by
  have hw : IntKind.i64.wrap (-a) = -a := zG6 (by omega) (by omega)
  simp [Yd, execOp, zBz ho, hx, Sem.run_bind, Op.unary, Op.intArith, Result.andThen, hw]
end
theorem idx_findNow {t : TypeId} {u : TypeDesc} (hu : ∃ k, u = .int k) (z : Int) : ∀ (l : List (Int × Value × Nat)) (i : Nat), Instr.findNow u (.int .i64 z) (ents (fun z : Int => Value.int .i64 z) l) i = some (idxA z l i)
  | [], i => rfl
  | q :: l, i => by
    obtain ⟨k, rfl⟩ := hu
    have h1 : Instr.sameNow (.int k) (.int .i64 z) (.int .i64 q.1) = some (z == q.1) := by simp [Instr.sameNow]
    show Instr.findNow (.int k) (.int .i64 z) (_ :: ents _ l) i = _
    by_cases e : q.1 = z
    · subst e
      simp [Instr.findNow, h1, idxA]
    · have h2 : (z == q.1) = false := by simpa using fun h => e h.symm
      simp only [Instr.findNow, h1, h2, idxA, if_neg e]
      exact idx_findNow (t := t) ⟨k, rfl⟩ z l (i + 1)
theorem zFx {P : Program} {t : TypeId} (hu : P.underlying t = some (.int .i64)) : KeyG P t (fun z : Int => Value.int .i64 z) (fun _ => True) where
  chk := fun em a w _ => by
    rw [show (10000 : Nat) = 9999 + 1 from rfl, Instr.checkKey]
    simp only [Sem.run_bind, run_underlying hu, Result.andThen_ok]
    rfl
  find := fun a l w _ _ => by
    simp only [Instr.findKey, Sem.run_bind, run_underlying hu, Result.andThen_ok, idx_findNow (t := t) ⟨_, rfl⟩ a l 0]
    rfl
  stay := fun a _ => by simp [Instr.sameBits]
theorem zIp {P : Program} {t : TypeId} {k : Nat} (hK : KeyTy P t k) : KeyG P t (fun l : List Int => ia l) (fun l => l.length = k) where
  chk := fun em a w h => hK.chk em a w h
  find := fun a l w h hall => by
    obtain ⟨u, hu, hn, h0⟩ := hK.desc
    have key : ∀ (l : List (List Int × Value × Nat)) (i : Nat), (∀ q ∈ l, q.1.length = k) → (Instr.findAsking t (ia a) (ents (fun l : List Int => ia l) l) i).run P w = .ok (idxA a l i) w := by
      intro l
      induction l with
      | nil => intro i _; simp [Instr.findAsking, ents, idxA]
      | cons q l ih =>
        intro i hq
        have h1 := hK.eq a q.1 w h (hq q (.head _))
        show (Instr.findAsking t (ia a) (_ :: ents _ l) i).run P w = _
        by_cases e : q.1 = a
        · rw [decide_eq_true e.symm] at h1
          simp only [Instr.findAsking, Sem.run_bind, h1, Result.andThen_ok, idxA, if_pos e]
          rfl
        · rw [decide_eq_false (fun z => e z.symm)] at h1
          simp only [Instr.findAsking, Sem.run_bind, h1, Result.andThen_ok, idxA, if_neg e]
          exact ih (i + 1) fun x hx => hq x (.tail _ hx)
    cases l with
    | nil => exact h0 a w
    | cons q l =>
      have h1 := hn a { key := ia q.1, val := q.2.1, born := q.2.2 } (ents (fun l : List Int => ia l) l)
      have h2 := key (q :: l) 0 hall
      have h3 : ents (fun l : List Int => ia l) (q :: l) = { key := ia q.1, val := q.2.1, born := q.2.2 } :: ents (fun l : List Int => ia l) l := rfl
      rw [h3] at h2 ⊢
      simp only [Instr.findKey, Sem.run_bind, run_underlying hu, Result.andThen_ok, h1]
      exact h2
  stay := fun a _ => by
    show Instr.sameBits (9999 + 1) (.agg (iv a).toArray) (.agg (iv a).toArray) = true
    have : ∀ l : List Int, ((iv l).zip (iv l)).all (fun x => Instr.sameBits 9999 x.1 x.2) = true := by
      intro l
      induction l with
      | nil => rfl
      | cons z l ih => simp only [iv, List.map_cons, List.zip_cons_cons, List.all_cons]; rw [show Instr.sameBits 9999 (.int .i64 z) (.int .i64 z) = true by simp [Instr.sameBits]]; exact ih
    simp [Instr.sameBits]
    simpa using this a
end Go.Rt
/- The walking engine, part 19: structs of two ints and a bool compared; slices of bools that are made. No conditions. -/
namespace Go.Rt
open Go.RowKit
variable {r : Option Nat} {P : Program} {ops : Array Oper} {Q : Exit → Act → World → Prop} {rest : List Oper} {n : Nat} {ρ : Nat → Value} {ds : List Deferred} {w w0 : World} {L : List (Nat × Obj)}
  {d : Option Tmp} {ty : TypeId} {p : String} {e : Array Edge} {g : Option (Nat × Bool)}
theorem run_part_bool {t : TypeId} (h : P.underlying t = some .bool) {xs : Array Value} {i : Nat} {v : Value} (hi : xs[i]? = some v) : (part t xs i).run P w = .ok v w := by
  simp [part, isAgg, Sem.run_bind, run_underlying h, hi, Result.andThen]
structure IIB (P : Program) (t : TypeId) (f0 f1 f2 : Field) : Prop where
  u : P.underlying t = some (.struct #[f0, f1, f2])
  s : P.stoodInHeld t = false
  g : P.eqGuardType P.depth t = false
  n0 : f0.name ≠ "_" ∧ f0.offset = 0 ∧ P.underlying f0.type = some (.int .i64)
  n1 : f1.name ≠ "_" ∧ f1.offset = 1 ∧ P.underlying f1.type = some (.int .i64)
  n2 : f2.name ≠ "_" ∧ f2.offset = 2 ∧ P.underlying f2.type = some .bool
theorem y_eqIIB {t t2 : TypeId} {f0 f1 f2 : Field} {x y : Operand} {a b c d' : Int} {u v : Bool} (hT : IIB P t f0 f1 f2) (ho : okO n x = true) (ho1 : okO n y = true) (hx : ev ρ x = .agg #[.int .i64 a, .int .i64 b, .bool u]) (hy : ev ρ y = .agg #[.int .i64 c, .int .i64 d', .bool v]) :
    Yd P (A n ρ ds) ⟨d, .binOp .eql t x y t2, ty, p, e, g⟩ w (.bool (decide (a = c ∧ b = d' ∧ u = v))) := by
  have hfs : P.fieldsOf t = #[f0, f1, f2] := by simp [Program.fieldsOf, hT.u]
  have h1 : (Op.equalIn (9998 + 2) t (.agg #[.int .i64 a, .int .i64 b, .bool u]) (.agg #[.int .i64 c, .int .i64 d', .bool v])).run P w = .ok (decide (a = c ∧ b = d' ∧ u = v)) w := by
    rw [run_equalIn_struct w (9998 + 1) t _ _ (by rw [hfs]; exact hT.u) hT.s, hfs]
    obtain ⟨n0, o0, u0⟩ := hT.n0
    obtain ⟨n1, o1, u1⟩ := hT.n1
    obtain ⟨n2, o2, u2⟩ := hT.n2
    have k0 : ∀ x y : Int, (Op.equalIn (9998 + 1) f0.type (.int .i64 x) (.int .i64 y)).run P w = .ok (x == y) w := fun x y => run_equalIn_int w 9998 f0.type .i64 .i64 _ _ u0
    have k1 : ∀ x y : Int, (Op.equalIn (9998 + 1) f1.type (.int .i64 x) (.int .i64 y)).run P w = .ok (x == y) w := fun x y => run_equalIn_int w 9998 f1.type .i64 .i64 _ _ u1
    have k2 : (Op.equalIn (9998 + 1) f2.type (.bool u) (.bool v)).run P w = .ok (u == v) w := by
      rw [Op.equalIn]
      simp only [Sem.run_bind, run_underlying u2, Result.andThen_ok]
      rfl
    have p0 : ∀ (x y : Int) (z : Bool), (part f0.type #[.int .i64 x, .int .i64 y, .bool z] 0).run P w = .ok (.int .i64 x) w := fun x y z => zCz u0 rfl
    have p1 : ∀ (x y : Int) (z : Bool), (part f1.type #[.int .i64 x, .int .i64 y, .bool z] 1).run P w = .ok (.int .i64 y) w := fun x y z => zCz u1 rfl
    have p2 : ∀ (x y : Int) (z : Bool), (part f2.type #[.int .i64 x, .int .i64 y, .bool z] 2).run P w = .ok (.bool z) w := fun x y z => run_part_bool u2 rfl
    simp only [Op.eqFields, n0, n1, n2, o0, o1, o2, ne_eq, not_false_eq_true, if_true, Sem.run_bind, p0, p1, p2, k0, k1, k2, Result.andThen_ok]
    by_cases e0 : a = c
    · subst e0
      rw [beq_self_eq_true]
      simp only [Bool.not_true, Bool.false_eq_true, if_false, true_and, Sem.run_bind, p1, k1, Result.andThen_ok]
      by_cases e1 : b = d'
      · subst e1
        rw [beq_self_eq_true]
        simp only [Bool.not_true, Bool.false_eq_true, if_false, true_and, Sem.run_bind, k2, p2, Result.andThen_ok]
        cases u <;> cases v <;> simp [Sem.run_pure, Op.eqFields]
      · rw [beq_false_of_ne e1]
        simp [e1, Sem.run_pure]
    · rw [beq_false_of_ne e0]
      simp [e0, Sem.run_pure]
  have h2 := zEj (P := P) (w := w) (op := .eql) (x := x) (y := y) (a := #[.int .i64 a, .int .i64 b, .bool u]) (b := #[.int .i64 c, .int .i64 d', .bool v]) hT.g
  unfold Yd
  simp only [execOp, zBz ho, zBz ho1, hx, hy, Sem.run_bind]
  have h3 : (binOp .eql t (.agg #[.int .i64 a, .int .i64 b, .bool u]) (.agg #[.int .i64 c, .int .i64 d', .bool v])).run P w = .ok (.bool (decide (a = c ∧ b = d' ∧ u = v))) w := by
    rw [run_eql_struct, h1]
    rfl
  rw [h2]
  simp only [Result.andThen_ok]
  rw [h3]
  rfl
def bvs (l : List Bool) : List Value := l.map Value.bool
end Go.Rt
set_option maxRecDepth 20000
namespace Go.Proofs.Kb
open Go.Proofs.Tryz
open Go.Rt Go.Rt.Ch
open Go.Rt.Ha (firstE zBv zBf zBo failE nameE felt spanL upto zCi listL fewest fewTo bit)
attribute [local irreducible] WL WC Con Yd At Ats Sl Agree DW
theorem zCk : Tryz.prog.info? 3 = some Tryz.t3 := by kernel_rfl
theorem zIy (x0 : Int) (w : World) : (Instr.buildSlice 34 1 [(0, .int .i64 x0)].toArray).run Tryz.prog w = .ok (.slice (some ⟨w.heap.size, 0, none⟩) 1 1) (w.alloc (Go.Rt.blk 3 [.int .i64 x0])) := by kernel_rfl
theorem Try_KC_fb2 (x0 : Int) (x1 : Int) (w : World) : (Instr.buildSlice 34 2 [(0, .int .i64 x0),(1, .int .i64 x1)].toArray).run Tryz.prog w = .ok (.slice (some ⟨w.heap.size, 0, none⟩) 2 2) (w.alloc (Go.Rt.blk 3 [.int .i64 x0, .int .i64 x1])) := by kernel_rfl
theorem zHl {w0 : World} {F : List (Nat × Obj)} {a : Option Addr} {l : List Hour} {i : Nat} (h : Sl w0 F a 3 (hrows l)) (hi : i < l.length) : ∃ b off, a = some ⟨b, off, none⟩ ∧ Ats w0 F b (off + i * 3) l[i].cells := by
  obtain ⟨b, off, ha, _, hat⟩ := h.at (i := i) (row := l[i].cells) (by simp [hrows, hi])
  exact ⟨b, off, ha, hat⟩
theorem krows_at {l : List Ctr} {q : Nat → AtC} {i : Nat} (hi : i < l.length) : (krows l q)[i]? = some (l[i].cells (q i)) := by simp [krows, hi]
theorem zFh (l : List Ctr) (q : Nat → AtC) : (krows l q).length = l.length := by simp [krows]
theorem zGk (l : List Ctr) (q : Nat → AtC) : ∀ row ∈ krows l q, row.length = 6 := by
  intro row h
  obtain ⟨i, hi, rfl⟩ := List.getElem_of_mem h
  simp [krows, Ctr.cells]
theorem zGt {w0 : World} {F : List (Nat × Obj)} {a : Option Addr} {l : List Ctr} {q : Nat → AtC} {i : Nat} (h : Sl w0 F a 6 (krows l q)) (hi : i < l.length) : ∃ b off, a = some ⟨b, off, none⟩ ∧ Ats w0 F b (off + i * 6) (l[i].cells (q i)) := by
  obtain ⟨b, off, ha, _, hat⟩ := h.at (i := i) (row := l[i].cells (q i)) (krows_at hi)
  exact ⟨b, off, ha, hat⟩
structure BIn (w0 : World) (F : List (Nat × Obj)) (b : Board) (p : AtB) : Prop where
  h : Sl w0 F p.ah 3 (hrows b.hours)
  c : Sl w0 F p.ac 6 (krows b.ctrs p.pc)
  z : ∀ i (hi : i < b.ctrs.length), Sl w0 F (p.pc i).az 1 (b.ctrs[i].zero.map fun x => [Value.int .i64 x])
  s : ∀ i (hi : i < b.ctrs.length), Sl w0 F (p.pc i).as 1 (b.ctrs[i].shown.map fun x => [Value.int .i64 x])
  lh : b.hours.length ≤ 9223372036854775807
  lc : b.ctrs.length ≤ 9223372036854775807
  ch : b.hours.length ≤ p.ch
  cc : b.ctrs.length ≤ p.cc
  lz : ∀ i (hi : i < b.ctrs.length), b.ctrs[i].zero.length ≤ 9223372036854775807 ∧ b.ctrs[i].zero.length ≤ (p.pc i).cz
  ls : ∀ i (hi : i < b.ctrs.length), b.ctrs[i].shown.length ≤ 9223372036854775807 ∧ b.ctrs[i].shown.length ≤ (p.pc i).cs
  nm : ∀ x ∈ b.ctrs, x.name.size ≤ 9223372036854775807
theorem BIn.mono {w0 : World} {F F' : List (Nat × Obj)} {b : Board} {p : AtB} (h : BIn w0 F b p) (hs : ∀ w, St w0 w F' → St w0 w F) : BIn w0 F' b p := ⟨h.h.mono hs, h.c.mono hs, fun i hi => (h.z i hi).mono hs, fun i hi => (h.s i hi).mono hs, h.lh, h.lc, h.ch, h.cc, h.lz, h.ls, h.nm⟩
theorem BIn.cons {w0 : World} {F : List (Nat × Obj)} {x : Nat × Obj} {b : Board} {p : AtB} (h : BIn w0 F b p) : BIn w0 (x :: F) b p := h.mono fun _ h => h.tail
theorem BIn.app {w0 : World} {F B : List (Nat × Obj)} {b : Board} {p : AtB} (h : BIn w0 F b p) : BIn w0 (B ++ F) b p := h.mono fun _ h => h.drop
theorem tup3 {x : Int × Int × Int} {a b c : Int} (h : x = (a, b, c)) : Value.tuple #[.int .i64 a, .int .i64 b, .int .i64 c] = .tuple #[.int .i64 x.1, .int .i64 x.2.1, .int .i64 x.2.2] := by subst h; rfl
theorem zDm (k : Int) (n : Nat) : out 0 k (n : Int) = decide (k < (n : Int)) := by unfold out; rw [Bool.eq_iff_iff]; simp; intro h; omega
theorem yd_cast {P : Program} {a : Act} {o : Oper} {w : World} {k : IntKind} {z z' : Int} (h : z = z') (hy : Yd P a o w (.int k z)) : Yd P a o w (.int k z') := h ▸ hy
theorem iv1 {a b : Int} (h : a = b) : [Value.int .i64 a] = [Value.int .i64 b] := by rw [h]
theorem iv2 {a b c d : Int} (h : a = b) (h2 : c = d) : [Value.int .i64 a, Value.int .i64 c] = [Value.int .i64 b, Value.int .i64 d] := by rw [h, h2]
theorem zFg {w0 : World} {v : Value} {t : TypeId} {sz n : Nat} {xs : List Value} {B : List (Nat × Obj)} {rows : List (List Value)} (h : Rt.Own v t sz n xs B) (hr : ∀ row ∈ rows, row.length = sz) (hn : rows.length = n) (hx : xs = rows.flatten) : ∃ a c, v = .slice a n c ∧ Sl w0 B a sz rows ∧ n ≤ c ∧ (a = none → c = 0) := by
  subst hx
  rcases h.2 with ⟨h2, h0, rfl⟩ | ⟨b, cap, cs, h2, rfl, h4, _,_, h5⟩
  · have : rows = [] := List.length_eq_zero_iff.1 (by omega)
    subst this
    exact ⟨none, 0, by rw [h2, ← hn]; rfl, Sl.nil _ _, by omega, fun _ => rfl⟩
  · exact ⟨some ⟨b, 0, none⟩, cap, h2, zBp (i := 0) rfl hr (by rw [hn]; exact h5), by omega, fun h => by cases h⟩
theorem _root_.Go.Rt.Sl.top {w0 : World} {B F : List (Nat × Obj)} {a : Option Addr} {sz : Nat} {rows : List (List Value)} (h : Sl w0 B a sz rows) : Sl w0 (B ++ F) a sz rows := h.mono fun _ h => h.front
theorem _root_.Go.Rt.Ats.top {w0 : World} {B F : List (Nat × Obj)} {b off : Nat} {vs : List Value} (h : Ats w0 B b off vs) : Ats w0 (B ++ F) b off vs := h.mono fun _ h => h.front
theorem zC0 {P : Program} {a : Act} {o : Oper} {w : World} {x y : Option Addr} {l c : Nat} (h : x = y) (hy : Yd P a o w (.slice x l c)) : Yd P a o w (.slice y l c) := h ▸ hy
theorem swp2 {w0 w : World} {a b : Nat × Obj} {F : List (Nat × Obj)} (h : St w0 w (a :: b :: F)) : St w0 w (b :: a :: F) := h.perm (zAq [a] [b] F)
theorem vi {v : Value} {a b : Int} (h : a = b) : [v, Value.int .i64 a] = [v, Value.int .i64 b] := by rw [h]
def cidx (p : Ctr → Bool) : List Ctr → Int → Int
  | [], _ => -1
  | g :: l, i => if p g then i else cidx p l (i + 1)
theorem cidx_step {p : Ctr → Bool} {l : List Ctr} {i : Nat} (hi : i < l.length) (h : p l[i] = false) : cidx p (l.drop i) i = cidx p (l.drop (i + 1)) (i + 1 : Nat) := by
  rw [List.drop_eq_getElem_cons hi]; simp only [cidx, h]; rfl
theorem cidx_here {p : Ctr → Bool} {l : List Ctr} {i : Nat} (hi : i < l.length) (h : p l[i] = true) : cidx p (l.drop i) i = i := by
  rw [List.drop_eq_getElem_cons hi]; simp only [cidx, h]; rfl
theorem cidx_end {p : Ctr → Bool} {l : List Ctr} {i : Nat} (hi : l.length ≤ i) : cidx p (l.drop i) i = -1 := by
  rw [List.drop_of_length_le hi]; rfl
theorem cidx_any (p : Ctr → Bool) : ∀ (l : List Ctr) (i : Int), 0 ≤ i → decide (0 ≤ cidx p l i) = l.any p
  | [], i, h => by simp [cidx]
  | g :: l, i, h => by
    rw [List.any_cons, ← cidx_any p l (i + 1) (by omega), Bool.eq_iff_iff]
    by_cases hp : p g = true
    · simp [cidx, hp, h]
    · simp [cidx, hp]
theorem krows_take {l : List Ctr} {q : Nat → AtC} {i : Nat} : (krows l q).take i = krows (l.take i) q := by
  refine List.ext_getElem? fun k => ?_
  rw [List.getElem?_take]
  by_cases hk : k < i
  · rw [if_pos hk]; simp [krows, List.getElem?_take, hk]
  · rw [if_neg hk]; simp [krows, List.getElem?_take, hk]
theorem sl_takeK {w0 : World} {F : List (Nat × Obj)} {a : Option Addr} {l : List Ctr} {q : Nat → AtC} {i c : Nat} (h : Sl w0 F a 6 (krows l q)) (hi : i ≤ l.length) (hc : l.length ≤ c) : Sl w0 F (if c = 0 then a else a.map (·.add (0 * 6))) 6 (krows (l.take i) q) := by
  have := h.cut (l' := 0) (h' := i) (c := c) (by omega) (by rw [zFh]; exact hi) (by rw [zFh]; exact hc)
  simpa [krows_take] using this
theorem has_namesK (l : List Ctr) (s : ByteArray) : (l.any fun x => decide (x.name = s)) = has (l.map (·.name)) s := by
  simp [has, List.any_map, Function.comp_def]
theorem zH5 {n : Nat} {bf : List Ctr} {c : Ctr} (h : nmOk c.name = false) : ctrE n bf c = 6 := by unfold ctrE nameE; simp [h]
theorem zH4 {n : Nat} {bf : List Ctr} {c : Ctr} (h : nmOk c.name = true) (h2 : (bf.any fun x => decide (x.name = c.name)) = true) : ctrE n bf c = 5 := by
  rw [has_namesK] at h2
  unfold ctrE nameE; rw [h, h2]; rfl
theorem zGr {n : Nat} {bf : List Ctr} {c : Ctr} (h : nmOk c.name = true) (h2 : (bf.any fun x => decide (x.name = c.name)) = false) : ctrE n bf c = if (out 0 3 c.skip || out 0 3 c.twice) || out 0 99 c.start then 7 else if c.zero.length ≠ n ∨ c.shown.length ≠ n then 3 else if c.zero.any (out 0 2) || c.shown.any (out (-1) 99) then 7 else 0 := by
  rw [has_namesK] at h2
  unfold ctrE nameE; rw [h, h2]; rfl
theorem zH3 {n : Nat} {bf : List Ctr} {c : Ctr} (h : nmOk c.name = true) (h2 : (bf.any fun x => decide (x.name = c.name)) = false) (h3 : ((out 0 3 c.skip || out 0 3 c.twice) || out 0 99 c.start) = false) (h4 : ¬ (c.zero.length = n ∧ c.shown.length = n)) : ctrE n bf c = 3 := by
  rw [zGr h h2, h3, if_neg (by simp), if_pos (by omega)]
theorem zH2 {n : Nat} {bf : List Ctr} {c : Ctr} (h : nmOk c.name = true) (h2 : (bf.any fun x => decide (x.name = c.name)) = false) (h3 : ((out 0 3 c.skip || out 0 3 c.twice) || out 0 99 c.start) = false) (h4 : c.zero.length = n ∧ c.shown.length = n) : ctrE n bf c = if c.zero.any (out 0 2) || c.shown.any (out (-1) 99) then 7 else 0 := by
  rw [zGr h h2, h3, if_neg (by simp), if_neg (by omega)]
theorem c88 {w0 w : World} {F : List (Nat × Obj)} (a : Option Addr) (c : Nat) (l : List Hour) (hl : l.length ≤ 9223372036854775807) (ha : Sl w0 F a 3 (hrows l)) (fv : Value) (err : List Hour → Hour → Int)
    (hp : ∀ (i : Nat) (hi : i < l.length) (X : List (Nat × Obj)) (w : World), St w0 w (X ++ F) → FCon Tryz.prog fv [.int .i64 i, .agg l[i].cells.toArray] w fun v w' => v = .int .i64 (err (l.take i) l[i]) ∧ St w0 w' (X ++ F)) (hs : St w0 w F) :
  Con Tryz.prog 88 [.slice a l.length c, fv] w fun v w' => v = .tuple #[.int .i64 (firstE err [] 0 l).1, .int .i64 (firstE err [] 0 l).2] ∧ St w0 w' F := by
  refine zAu (n := 25) func88 rfl rfl (zNl rfl) ?_
  refine zAf (fun K2 g7 => (zAa (zBg rfl rfl (zBg rfl rfl (zAe (zAc (g7 _ _ (zAf (fun K4 g8 => (zAf (fun K6 g9 => (zAa (w_p (zAi (v := .slice _ _ _) rfl rfl) rfl ?_)))))))))))))
  refine w_p (zBm underlying38 rfl rfl) rfl (w_p (zAi (v := _) rfl rfl) rfl (zAe (zAc (g9 _ _ (zAz ?_)))))
  refine zB3 [4,5,6,7,8,11,12,13,14,15,16,17,18,19,20,21,22,23,24] [11] (fun k vs w => ∃ (i : Nat), vs = [.int .i64 i] ∧ i ≤ l.length ∧ k = l.length - i ∧ firstE err [] 0 l = firstE err (l.take i) i (l.drop i) ∧ St w0 w F) (l.length) ?_ ?_
  ·
   exact ⟨0, rfl, by omega, by omega, by simp, hs⟩
  intro k vs μ w9 hI K8 ga
  obtain ⟨i, rfl, hia, rfl, hinv, hs⟩ := hI
  refine zAf (fun gk gb => (zAa (w_p (zCl rfl rfl rfl rfl) rfl (zAe (zAc (gb _ _ (zAf (fun gl gc => (zAy rfl rfl (fun g0 => ?_) (fun g0 => ?_))))))))))
  ·
   try simp only [zS] at g0
   refine zAv (zAc (gc _ _ (zAf (fun gm gd => (zAz ?_)))))
   refine zAf (fun gn ge => ?_)
   have hi2 : i < l.length := by omega
   obtain ⟨bx, ox, rfl, hx⟩ := zHl ha hi2
   refine zAa (zBa rfl rfl (w_p (zBc underlying38 sizeOf48 rfl rfl rfl rfl (i := _) rfl (by omega)) rfl (w_p (zA7 (vs := [_,_,_]) isAgg48 sizeOf48 hs rfl rfl hx) rfl (zBb (cs := [_,_,_]) zAb zeroValue48 rfl hs (fun go gp gf => ?_)))))
   refine zBl rfl rfl (zA4 (i := 0) (v := .agg #[.int _ _, .int _ _, .int _ _]) (vs := [_,_,_]) zAb sizeOf48 rfl rfl rfl rfl rfl (by simp [Value.oneCell']) gf rfl (zNl rfl) (fun gq g6 => ?_))
   refine zAe (zAc (ge _ _ (zAf (fun gr gg => (zAa (w_p (zAi (v := fv) rfl rfl) rfl (zBa rfl rfl (w_p (zA7 (vs := [_,_,_]) isAgg48 sizeOf48 g6 rfl rfl (zAh (i := 0) (vs := [_,_,_]) rfl rfl)) rfl ?_))))))))
   refine zEt zAb rfl rfl rfl rfl (hp i hi2 [_] _ g6) ?_
   rintro _ gt ⟨rfl, g4⟩
   refine zBl rfl rfl (zAe (zAc (gg _ _ (zAf (fun gu gh => (zAa (zBa rfl rfl (w_p (zCt rfl rfl rfl rfl) rfl (zAe (zAc (gh _ _ (zAy rfl rfl (fun g5 => ?_) (fun g5 => ?_)))))))))))))
   ·
    try simp only [zS] at g5
    refine zAf (fun gv gi => (zAa (zBa rfl rfl (zBa rfl rfl (zBl rfl rfl (zBl rfl rfl (zAe (zAc (gi _ _ (zA2 (zAt (zAk (zAk (zAt (zAk (zA9 (l := [.tmp 4, .tmp 5]) (vs := [_,_]) rfl ⟨⟨rfl, (rfl : _ = Value.int _ _)⟩, ⟨rfl, (rfl : _ = Value.int _ _)⟩, trivial⟩ ?_))))))))))))))))
    first
      | (rw [hinv, zBf hi2 (by assumption)]
         exact ⟨rfl, g4.tail⟩)
      | (rw [hinv, zBo (by omega)]
         exact ⟨rfl, g4⟩)
   try simp only [zS] at g5
   refine zAv (zAl (zAc (gd _ _ (zAa (w_p (zBj rfl rfl rfl rfl (by omega) (by omega)) rfl (zBa rfl rfl (zAe (zAc (ga _ _ (nxI (l.length - (i + 1)) (by omega) ?_))))))))))
   exact ⟨i + 1, rfl, by omega, rfl, hinv.trans (zBv hi2 (by assumption)), g4.tail⟩
  try simp only [zS] at g0
  refine zBq (zAo (zAo (zA8 (zAc (g8 _ _ (zAf (fun gw gj => (zAa (zBg rfl rfl (zBg rfl rfl (zAe (zAc (gj _ _ (zA2 (zA9 (l := [.tmp 4, .tmp 5]) (vs := [_,_]) rfl ⟨⟨rfl, (rfl : _ = Value.int _ _)⟩, ⟨rfl, (rfl : _ = Value.int _ _)⟩, trivial⟩ ?_)))))))))))))))
  first
    | (rw [hinv, zBf hi2 (by assumption)]
       exact ⟨rfl, hs.tail⟩)
    | (rw [hinv, zBo (by omega)]
       exact ⟨rfl, hs⟩)

theorem c90 {w0 w : World} {F : List (Nat × Obj)} (a : Option Addr) (c : Nat) (l : List Ctr) (q : Nat → AtC) (hl : l.length ≤ 9223372036854775807) (ha : Sl w0 F a 6 (krows l q)) (fv : Value) (err : List Ctr → Ctr → Int)
    (hp : ∀ (i : Nat) (hi : i < l.length) (X : List (Nat × Obj)) (w : World), St w0 w (X ++ F) → FCon Tryz.prog fv [.int .i64 i, .agg (l[i].cells (q i)).toArray] w fun v w' => v = .int .i64 (err (l.take i) l[i]) ∧ St w0 w' (X ++ F)) (hs : St w0 w F) :
  Con Tryz.prog 90 [.slice a l.length c, fv] w fun v w' => v = .tuple #[.int .i64 (firstE err [] 0 l).1, .int .i64 (firstE err [] 0 l).2] ∧ St w0 w' F := by
  refine zAu (n := 25) func90 rfl rfl (zNl rfl) ?_
  refine zAf (fun K2 g7 => (zAa (zBg rfl rfl (zBg rfl rfl (zAe (zAc (g7 _ _ (zAf (fun K4 g8 => (zAf (fun K6 g9 => (zAa (w_p (zAi (v := .slice _ _ _) rfl rfl) rfl ?_)))))))))))))
  refine w_p (zBm underlying39 rfl rfl) rfl (w_p (zAi (v := _) rfl rfl) rfl (zAe (zAc (g9 _ _ (zAz ?_)))))
  refine zB3 [4,5,6,7,8,11,12,13,14,15,16,17,18,19,20,21,22,23,24] [11] (fun k vs w => ∃ (i : Nat), vs = [.int .i64 i] ∧ i ≤ l.length ∧ k = l.length - i ∧ firstE err [] 0 l = firstE err (l.take i) i (l.drop i) ∧ St w0 w F) (l.length) ?_ ?_
  ·
   exact ⟨0, rfl, by omega, by omega, by simp, hs⟩
  intro k vs μ w9 hI K8 ga
  obtain ⟨i, rfl, hia, rfl, hinv, hs⟩ := hI
  refine zAf (fun gk gb => (zAa (w_p (zCl rfl rfl rfl rfl) rfl (zAe (zAc (gb _ _ (zAf (fun gl gc => (zAy rfl rfl (fun g0 => ?_) (fun g0 => ?_))))))))))
  ·
   try simp only [zS] at g0
   refine zAv (zAc (gc _ _ (zAf (fun gm gd => (zAz ?_)))))
   refine zAf (fun gn ge => ?_)
   have hi2 : i < l.length := by omega
   obtain ⟨bx, ox, rfl, hx⟩ := zGt ha hi2
   refine zAa (zBa rfl rfl (w_p (zBc underlying39 sizeOf43 rfl rfl rfl rfl (i := _) rfl (by omega)) rfl (w_p (zA7 (vs := [_,_,_,_,_,_]) isAgg43 sizeOf43 hs rfl rfl hx) rfl (zBb (cs := [_,_,_,_,_,_]) zAb zeroValue43 rfl hs (fun go gp gf => ?_)))))
   refine zBl rfl rfl (zA4 (i := 0) (v := .agg #[.string _, .int _ _, .int _ _, .int _ _, .slice _ _ _, .slice _ _ _]) (vs := [_,_,_,_,_,_]) zAb sizeOf43 rfl rfl rfl rfl rfl (by simp [Value.oneCell']) gf rfl (zNl rfl) (fun gq g6 => ?_))
   refine zAe (zAc (ge _ _ (zAf (fun gr gg => (zAa (w_p (zAi (v := fv) rfl rfl) rfl (zBa rfl rfl (w_p (zA7 (vs := [_,_,_,_,_,_]) isAgg43 sizeOf43 g6 rfl rfl (zAh (i := 0) (vs := [_,_,_,_,_,_]) rfl rfl)) rfl ?_))))))))
   refine zEt zAb rfl rfl rfl rfl (hp i hi2 [_] _ g6) ?_
   rintro _ gt ⟨rfl, g4⟩
   refine zBl rfl rfl (zAe (zAc (gg _ _ (zAf (fun gu gh => (zAa (zBa rfl rfl (w_p (zCt rfl rfl rfl rfl) rfl (zAe (zAc (gh _ _ (zAy rfl rfl (fun g5 => ?_) (fun g5 => ?_)))))))))))))
   ·
    try simp only [zS] at g5
    refine zAf (fun gv gi => (zAa (zBa rfl rfl (zBa rfl rfl (zBl rfl rfl (zBl rfl rfl (zAe (zAc (gi _ _ (zA2 (zAt (zAk (zAk (zAt (zAk (zA9 (l := [.tmp 4, .tmp 5]) (vs := [_,_]) rfl ⟨⟨rfl, (rfl : _ = Value.int _ _)⟩, ⟨rfl, (rfl : _ = Value.int _ _)⟩, trivial⟩ ?_))))))))))))))))
    first
      | (rw [hinv, zBf hi2 (by assumption)]
         exact ⟨rfl, g4.tail⟩)
      | (rw [hinv, zBo (by omega)]
         exact ⟨rfl, g4⟩)
   try simp only [zS] at g5
   refine zAv (zAl (zAc (gd _ _ (zAa (w_p (zBj rfl rfl rfl rfl (by omega) (by omega)) rfl (zBa rfl rfl (zAe (zAc (ga _ _ (nxI (l.length - (i + 1)) (by omega) ?_))))))))))
   exact ⟨i + 1, rfl, by omega, rfl, hinv.trans (zBv hi2 (by assumption)), g4.tail⟩
  try simp only [zS] at g0
  refine zBq (zAo (zAo (zA8 (zAc (g8 _ _ (zAf (fun gw gj => (zAa (zBg rfl rfl (zBg rfl rfl (zAe (zAc (gj _ _ (zA2 (zA9 (l := [.tmp 4, .tmp 5]) (vs := [_,_]) rfl ⟨⟨rfl, (rfl : _ = Value.int _ _)⟩, ⟨rfl, (rfl : _ = Value.int _ _)⟩, trivial⟩ ?_)))))))))))))))
  first
    | (rw [hinv, zBf hi2 (by assumption)]
       exact ⟨rfl, hs.tail⟩)
    | (rw [hinv, zBo (by omega)]
       exact ⟨rfl, hs⟩)

theorem c106 {w0 w : World} {F : List (Nat × Obj)} (a : Option Addr) (l : List Ctr) (q : Nat → AtC) (c : Nat) (hla : l.length ≤ 9223372036854775807) (ha : Sl w0 F a 6 (krows l q)) {fk : FuncId} (hC : CF Tryz.prog fk) (first captured : Array Value) (p : Ctr → Bool)
    (hp : ∀ i (hi : i < l.length), ∀ w, St w0 w F → Con Tryz.prog fk (first.toList ++ ([.agg (l[i].cells (q i)).toArray] ++ captured.toList)) w fun v w' => v = .bool (p l[i]) ∧ St w0 w' F) (hs : St w0 w F) :
  Con Tryz.prog 106 [.slice a l.length c, .func (.func fk) first captured] w fun v w' => v = .int .i64 (cidx p l 0) ∧ St w0 w' F := by
  refine zAu (n := 19) func106 rfl rfl (zNl rfl) ?_
  refine zAf (fun K2 g6 => (zAa (zBg rfl rfl (zAe (zAc (g6 _ _ (zAf (fun K4 g7 => (zAf (fun K6 g8 => (zAa (w_p (zAi (v := .slice _ _ _) rfl rfl) rfl ?_))))))))))))
  refine w_p (zBm underlying39 rfl rfl) rfl (w_p (zAi (v := _) rfl rfl) rfl (zAe (zAc (g8 _ _ (zAz ?_)))))
  refine zB3 [4,5,8,9,10,11,12,13,14,15,16,17,18] [8] (fun k vs w => ∃ i : Nat, vs = [.int .i64 i] ∧ i ≤ l.length ∧ k = l.length - i ∧ cidx p l 0 = cidx p (l.drop i) i ∧ St w0 w F) (l.length) ?_ ?_
  ·
   exact ⟨0, rfl, by omega, by omega, rfl, hs⟩
  intro k vs μ w9 hI K8 g9
  obtain ⟨i, rfl, hia, rfl, hpre, hs⟩ := hI
  refine zAf (fun gh ga => (zAa (w_p (zCl rfl rfl rfl rfl) rfl (zAe (zAc (ga _ _ (zAf (fun gi gb => (zAy rfl rfl (fun g0 => ?_) (fun g0 => ?_))))))))))
  ·
   try simp only [zS] at g0
   refine zAv (zAc (gb _ _ (zAf (fun gj gc => (zAz ?_)))))
   refine zAf (fun gk gd => (zAa (zBa rfl rfl (zBl rfl rfl (zAe (zAc (gd _ _ (zAf (fun gl ge => ?_)))))))))
   have hi2 : i < l.length := by omega
   obtain ⟨bx, ox, rfl, hx⟩ := zGt ha hi2
   refine zAa (w_p (zAi (v := .func _ _ _) rfl rfl) rfl (w_p (zAi (v := .slice _ _ _) rfl rfl) rfl (zBa rfl rfl (w_p (zBc underlying39 sizeOf43 rfl rfl rfl rfl (i := _) rfl (by omega)) rfl (w_p (zA7 (vs := [_,_,_,_,_,_]) isAgg43 sizeOf43 hs rfl rfl hx) rfl ?_)))))
   refine zAs zAb hC rfl rfl rfl rfl (hp i hi2 _ hs) ?_
   rintro _ gm ⟨rfl, g4⟩
   refine zAe (zAc (ge _ _ (zAy rfl rfl (fun g5 => ?_) (fun g5 => ?_))))
   ·
    try simp only [zS] at g5
    refine zAf (fun gn gf => (zAa (zBa rfl rfl (zBl rfl rfl (zAe (zAc (gf _ _ (zA2 (zAt (zAk (zAk (zAt (zAk (zA9 (l := [.tmp 4]) (vs := [_]) rfl ⟨⟨rfl, (rfl : _ = Value.int _ _)⟩, trivial⟩ ?_))))))))))))))
    first
      | exact ⟨congrArg (Value.int .i64) (hpre.trans (cidx_end (by omega))).symm, g4⟩
      | exact ⟨congrArg (Value.int .i64) (hpre.trans (cidx_here hi2 (by assumption))).symm, g4⟩
   try simp only [zS] at g5
   refine zAv (zAl (zAc (gc _ _ (zAa (w_p (zBj rfl rfl rfl rfl (by omega) (by omega)) rfl (zBa rfl rfl (zAe (zAc (g9 _ _ (nxI (l.length - (i + 1)) (by omega) ?_))))))))))
   exact ⟨i + 1, rfl, by omega, rfl, hpre.trans (cidx_step hi2 (by assumption)), g4⟩
  try simp only [zS] at g0
  refine zBq (zAo (zAo (zA8 (zAc (g7 _ _ (zAf (fun go gg => (zAa (zBg rfl rfl (zAe (zAc (gg _ _ (zA2 (zA9 (l := [.tmp 4]) (vs := [_]) rfl ⟨⟨rfl, (rfl : _ = Value.int _ _)⟩, trivial⟩ ?_))))))))))))))
  first
    | exact ⟨congrArg (Value.int .i64) (hpre.trans (cidx_end (by omega))).symm, hs⟩
    | exact ⟨congrArg (Value.int .i64) (hpre.trans (cidx_here hi2 (by assumption))).symm, hs⟩

theorem c93 {w0 w : World} {F : List (Nat × Obj)} (a : Option Addr) (l : List Ctr) (q : Nat → AtC) (c : Nat) (hla : l.length ≤ 9223372036854775807) (ha : Sl w0 F a 6 (krows l q)) {fk : FuncId} (hC : CF Tryz.prog fk) (first captured : Array Value) (p : Ctr → Bool)
    (hp : ∀ i (hi : i < l.length), ∀ w, St w0 w F → Con Tryz.prog fk (first.toList ++ ([.agg (l[i].cells (q i)).toArray] ++ captured.toList)) w fun v w' => v = .bool (p l[i]) ∧ St w0 w' F) (hs : St w0 w F) :
  Con Tryz.prog 93 [.slice a l.length c, .func (.func fk) first captured] w fun v w' => v = .bool (l.any p) ∧ St w0 w' F := by
  refine zAu (n := 9) func93 rfl rfl (zNl rfl) ?_
  refine zAf (fun K2 g0 => (zAa (zBg rfl rfl (zAe (zAc (g0 _ _ (zAf (fun K4 g4 => (zAa (w_p (zAi (v := .slice _ _ _) rfl rfl) rfl ?_))))))))))
  refine w_p (zAi (v := .func _ _ _) rfl rfl) rfl (zAs zAb call106 rfl rfl rfl rfl (c106 _ _ _ _ hla ha hC _ _ p hp hs) ?_)
  rintro _ w6 ⟨rfl, g5⟩
  refine w_p (zF5 rfl rfl rfl rfl) rfl (w_p (zAm (v := .bool _) rfl rfl) rfl (zAe (zAc (g4 _ _ (zA2 (zA9 (l := [.tmp 4]) (vs := [_]) rfl ⟨⟨rfl, (rfl : _ = Value.bool _)⟩, trivial⟩ ?_))))))
  exact ⟨congrArg Value.bool (cidx_any p l 0 (by omega)), g5⟩

theorem c89 {w0 w : World} {F : List (Nat × Obj)} (b : Board) (p : AtB) (hh : 1 ≤ b.holds ∧ b.holds ≤ 3) (i : Int) (h : Hour) (bf : List Hour) (bm : Nat) (hb : Ats w0 F bm 0 (b.cells p)) (hs : St w0 w F) :
  Con Tryz.prog 89 [.int .i64 i, .agg h.cells.toArray, .pointer (some ⟨bm, 0, none⟩)] w fun v w' => v = .int .i64 (hourE b.holds bf h) ∧ St w0 w' F := by
  refine zAu (n := 33) func89 rfl rfl (zNl rfl) ?_
  refine zAf (fun K2 ga => (zAa (zCa (v := .agg #[.int _ _, .int _ _, .int _ _]) (cs := [_,_,_]) zAb rfl rfl rfl hs (fun b3 w4 g8 => ?_))))
  refine zBg rfl rfl (zAe (zAc (ga _ _ (zAf (fun K7 gb => (zAz ?_))))))
  refine zAf (fun K9 gc => (zAa (w_p (zAd (o := 0) (i := 0) underlying41 rfl sizeOf3 rfl rfl rfl) rfl (w_p (zAj isAgg3 g8.tail rfl rfl (show Ats _ _ _ _ [_] from Ats.part hb 0 1)) rfl (w_p (zEi rfl rfl rfl rfl (by omega) (by omega)) rfl ?_)))))
  refine w_p (zAd (o := 0) (i := 0) underlying48 rfl sizeOf3 rfl rfl rfl) rfl (w_p (zAj isAgg3 g8 rfl rfl (zAh (i := 0) (vs := [_]) rfl rfl)) rfl (zA0 (ps := [(0, _)]) (pv := [(0, .int _ _)]) (cs := [_]) zAb rfl rfl (fun w => zIy _ w) g8 (fun gm gn gd => ?_)))
  refine zAs zAb call73 rfl rfl rfl rfl (c73 _ _ _ [_] _ (by simp) (zBp (i := 0) (rows := [[_]]) rfl (by simp) rfl) gd) ?_
  rintro _ go ⟨rfl, g6⟩
  refine w_p (zAm (v := .bool _) rfl rfl) rfl (zAe (zAc (gc _ _ (zAy rfl rfl (fun g0 => ?_) (fun g0 => ?_)))))
  ·
   try simp only [zS] at g0
   refine zAf (fun gp ge => (zAa (zBg rfl rfl (zAe (zAc (ge _ _ (zA2 (zAt (zAk (zA9 (l := [.tmp 5]) (vs := [_]) rfl ⟨⟨rfl, (rfl : _ = Value.int _ _)⟩, trivial⟩ ?_))))))))))
   try simp only [List.any_cons, List.any_nil, Bool.or_false, Bool.or_eq_false_iff] at g0
   exact ⟨congrArg (Value.int .i64) (by simp [hourE, g0]), g6.tail.tail⟩
  try simp only [zS] at g0
  refine zAf (fun gq gf => (zAa (w_p (zAd (o := 1) (i := 1) underlying48 rfl sizeOf23 rfl rfl rfl) rfl (w_p (zAd (o := 0) (i := 0) underlying23 rfl sizeOf3 rfl rfl rfl) rfl (w_p (zAj isAgg3 g6 rfl rfl (zAh (i := 1) (vs := [_]) rfl rfl)) rfl ?_)))))
  refine w_p (zAd (o := 1) (i := 1) underlying48 rfl sizeOf23 rfl rfl rfl) rfl (w_p (zAd (o := 1) (i := 1) underlying23 rfl sizeOf3 rfl rfl rfl) rfl (w_p (zAj isAgg3 g6 rfl rfl (zAh (i := 1) (vs := [_]) rfl rfl)) rfl ?_))
  refine zA0 (ps := [(0, _),(1, _)]) (pv := [(0, .int _ _),(1, .int _ _)]) (cs := [_,_]) zAb rfl rfl (fun w => Try_KC_fb2 _ _ w) g6 (fun gr gt gg => ?_)
  refine zAs zAb call73 rfl rfl rfl rfl (c73 _ _ _ [_,_] _ (by simp) (zBp (i := 0) (rows := [[_], [_]]) rfl (by simp) rfl) gg) ?_
  rintro _ gu ⟨rfl, g7⟩
  refine w_p (zAm (v := .bool _) rfl rfl) rfl (zAe (zAc (gf _ _ (zAy rfl rfl (fun g4 => ?_) (fun g4 => ?_)))))
  ·
   try simp only [zS] at g4
   refine zAf (fun gv gh => (zAa (zBg rfl rfl (zAe (zAc (gh _ _ (zA2 (zAt (zAk (zA9 (l := [.tmp 5]) (vs := [_]) rfl ⟨⟨rfl, (rfl : _ = Value.int _ _)⟩, trivial⟩ ?_))))))))))
   try simp only [List.any_cons, List.any_nil, Bool.or_false, Bool.or_eq_false_iff] at g0 g4
   exact ⟨congrArg (Value.int .i64) (by simp [hourE, g0, g4]), g7.tail.tail.tail⟩
  try simp only [zS] at g4
  refine zAf (fun gw gi => ?_)
  have hbb : 0 ≤ h.lo ∧ h.lo ≤ 40 ∧ 0 ≤ h.hi ∧ h.hi ≤ 40 := by
    have hq : [h.lo, h.hi].any (out 0 40) = false := by assumption
    simp [out] at hq; omega
  refine zAa (w_p (zAd (o := 1) (i := 1) underlying48 rfl sizeOf23 rfl rfl rfl) rfl (w_p (zAd (o := 1) (i := 1) underlying23 rfl sizeOf3 rfl rfl rfl) rfl (w_p (zAj isAgg3 g7 rfl rfl (zAh (i := 2) (vs := [_]) rfl rfl)) rfl ?_)))
  refine w_p (zAd (o := 1) (i := 1) underlying48 rfl sizeOf23 rfl rfl rfl) rfl (w_p (zAd (o := 0) (i := 0) underlying23 rfl sizeOf3 rfl rfl rfl) rfl (w_p (zAj isAgg3 g7 rfl rfl (zAh (i := 2) (vs := [_]) rfl rfl)) rfl ?_))
  refine w_p (zEi rfl rfl rfl rfl (by omega) (by omega)) rfl (zA0 (ps := [(0, _)]) (pv := [(0, .int _ _)]) (cs := [_]) zAb rfl rfl (fun w => zIy _ w) g7 (fun gx gy gj => ?_))
  refine zAs zAb call73 rfl rfl rfl rfl (c73 _ _ _ [_] _ (by simp) (zBp (i := 0) (rows := [[_]]) rfl (by simp) rfl) gj) ?_
  rintro _ gz ⟨rfl, g9⟩
  refine w_p (zAm (v := .bool _) rfl rfl) rfl (zAe (zAc (gi _ _ (zAy rfl rfl (fun g5 => ?_) (fun g5 => ?_)))))
  ·
   try simp only [zS] at g5
   refine zAf (fun gA gk => (zAa (zBg rfl rfl (zAe (zAc (gk _ _ (zA2 (zAt (zAk (zA9 (l := [.tmp 5]) (vs := [_]) rfl ⟨⟨rfl, (rfl : _ = Value.int _ _)⟩, trivial⟩ ?_))))))))))
   try simp only [List.any_cons, List.any_nil, Bool.or_false, Bool.or_eq_false_iff] at g0 g4 g5
   exact ⟨congrArg (Value.int .i64) (by simp [hourE, g0, g4, g5]), g9.tail.tail.tail.tail⟩
  try simp only [zS] at g5
  refine zAv (zAl (zAc (gb _ _ (zAf (fun gB gl => (zAa (zBg rfl rfl (zAe (zAc (gl _ _ (zA2 (zA9 (l := [.tmp 5]) (vs := [_]) rfl ⟨⟨rfl, (rfl : _ = Value.int _ _)⟩, trivial⟩ ?_))))))))))))
  try simp only [List.any_cons, List.any_nil, Bool.or_false, Bool.or_eq_false_iff] at g0 g4 g5
  exact ⟨congrArg (Value.int .i64) (by simp [hourE, g0, g4, g5]), g9.tail.tail.tail.tail⟩

theorem c94 {w0 w : World} {F : List (Nat × Obj)} (x c : Ctr) (px pc : AtC) (bm : Nat) (hb : Ats w0 F bm 0 (c.cells pc)) (hs : St w0 w F) :
  Con Tryz.prog 94 [.agg (x.cells px).toArray, .pointer (some ⟨bm, 0, none⟩)] w fun v w' => v = .bool (decide (x.name = c.name)) ∧ St w0 w' F := by
  refine zAu (n := 9) func94 rfl rfl (zNl rfl) ?_
  refine zAf (fun K2 g4 => (zAa (zCa (v := .agg #[.string _, .int _ _, .int _ _, .int _ _, .slice _ _ _, .slice _ _ _]) (cs := [_,_,_,_,_,_]) zAb rfl rfl rfl hs (fun b3 w4 g0 => ?_))))
  refine zBg rfl rfl (zAe (zAc (g4 _ _ (zAf (fun K7 g5 => (zAa (w_p (zAd (o := 0) (i := 0) underlying43 rfl sizeOf9 rfl rfl rfl) rfl (w_p (zAj isAgg9 g0 rfl rfl (zAh (i := 0) (vs := [_]) rfl rfl)) rfl ?_))))))))
  refine w_p (zAd (o := 0) (i := 0) underlying43 rfl sizeOf9 rfl rfl rfl) rfl (w_p (zAj isAgg9 g0.tail rfl rfl (show Ats _ _ _ _ [_] from Ats.part hb 0 1)) rfl (w_p (y_strEq rfl rfl rfl rfl) rfl (w_p (zAm (v := .bool _) rfl rfl) rfl (zAe (zAc (g5 _ _ (zA2 (zA9 (l := [.tmp 3]) (vs := [_]) rfl ⟨⟨rfl, (rfl : _ = Value.bool _)⟩, trivial⟩ ?_))))))))
  exact ⟨rfl, g0.tail⟩

theorem c91 {w0 w : World} {F : List (Nat × Obj)} (b : Board) (p : AtB) (hm : BIn w0 F b p) (i : Nat) (hi : i < b.ctrs.length) (bm bn : Nat) (hb : Ats w0 F bm 0 (b.cells p)) (hn : Ats w0 F bn 0 [.int .i64 (b.hours.length : Int)]) (hs : St w0 w F) :
  Con Tryz.prog 91 [.int .i64 (i : Int), .agg (b.ctrs[i].cells (p.pc i)).toArray, .pointer (some ⟨bm, 0, none⟩), .pointer (some ⟨bn, 0, none⟩)] w fun v w' => v = .int .i64 (ctrE b.hours.length (b.ctrs.take i) b.ctrs[i]) ∧ St w0 w' F := by
  refine zAu (n := 54) func91 rfl rfl (zNl rfl) ?_
  have hnm := hm.nm _ (List.getElem_mem hi)
  have hlz := hm.lz i hi
  have hls := hm.ls i hi
  have hlc := hm.lc
  have hcc := hm.cc
  refine zAf (fun K2 gl => (zAa (zCa (v := .agg #[.string _, .int _ _, .int _ _, .int _ _, .slice _ _ _, .slice _ _ _]) (cs := [_,_,_,_,_,_]) zAb rfl rfl rfl hs (fun b3 w4 gh => ?_))))
  refine zBg rfl rfl (zAe (zAc (gl _ _ (zAf (fun K7 gm => (zAz ?_))))))
  refine zAf (fun K9 gn => (zAa (w_p (zAd (o := 0) (i := 0) underlying43 rfl sizeOf9 rfl rfl rfl) rfl (w_p (zAj isAgg9 gh rfl rfl (zAh (i := 0) (vs := [_]) rfl rfl)) rfl (zAs zAb call92 rfl rfl rfl rfl (c92 _ hnm gh) ?_)))))
  rintro _ gB ⟨rfl, ge⟩
  refine w_p (zDi rfl rfl) rfl (w_p (zAm (v := .bool _) rfl rfl) rfl (zAe (zAc (gn _ _ (zAy rfl rfl (fun g0 => ?_) (fun g0 => ?_))))))
  ·
   try simp only [zS] at g0
   refine zAf (fun gC go => (zAa (zBg rfl rfl (zAe (zAc (go _ _ (zA2 (zAt (zAk (zA9 (l := [.tmp 6]) (vs := [_]) rfl ⟨⟨rfl, (rfl : _ = Value.int _ _)⟩, trivial⟩ ?_))))))))))
   try simp only [List.any_cons, List.any_nil, Bool.or_false, Bool.or_eq_false_iff] at g0
   first
     | exact ⟨congrArg (Value.int .i64) (zH5 (by assumption)).symm, ge.tail⟩
     | exact ⟨congrArg (Value.int .i64) (zH4 (by assumption) (by assumption)).symm, ge.tail⟩
     | exact ⟨congrArg (Value.int .i64) (zH3 (by assumption) (by assumption) (by simp [g0]; done) (by omega)).symm, ge.tail⟩
     | exact ⟨congrArg (Value.int .i64) (by rw [zH2 (by assumption) (by assumption) (by simp [g0]; done) (by omega)]; simp [g0]), ge.tail⟩
     | exact ⟨congrArg (Value.int .i64) (by rw [zGr (by assumption) (by assumption)]; simp [g0]), ge.tail⟩
  try simp only [zS] at g0
  refine zAf (fun gD gp => (zAa (w_p (zAd (o := 2) (i := 2) underlying41 rfl sizeOf39 rfl rfl rfl) rfl (w_p (zAj isAgg39 ge.tail rfl rfl (show Ats _ _ _ _ [_] from Ats.part hb 2 1)) rfl (zBa rfl rfl (w_p (zHi (l' := 0) (h' := i) underlying39 sizeOf43 rfl rfl rfl ⟨rfl, _,_, rfl, rfl⟩ (by omega) (by omega)) rfl ?_))))))
  refine w_p (zCd (fv := []) (cv := [_]) rfl rfl rfl rfl) rfl (zAs zAb call93 rfl rfl rfl rfl ((by have h := c93 _ (b.ctrs.take i) p.pc (p.cc - 0) (by rw [List.length_take]; omega) (sl_takeK hm.c.cons (by omega) hm.cc) call94 #[] #[.pointer (some ⟨b3,0, none⟩)] (fun x => decide (x.name = (b.ctrs[i]'hi).name)) (fun j hj w hs => c94 _ _ _ _ _ (zAh (i := 0) (vs := Ctr.cells (b.ctrs[i]'hi) (p.pc i)) rfl rfl) hs) ge; rw [show (b.ctrs.take i).length = i from by rw [List.length_take]; omega] at h; exact h)) ?_)
  rintro _ gE ⟨rfl, gd⟩
  refine w_p (zAm (v := .bool _) rfl rfl) rfl (zAe (zAc (gp _ _ (zAy rfl rfl (fun g4 => ?_) (fun g4 => ?_)))))
  ·
   try simp only [zS] at g4
   refine zAf (fun gF gq => (zAa (zBg rfl rfl (zAe (zAc (gq _ _ (zA2 (zAt (zAk (zA9 (l := [.tmp 6]) (vs := [_]) rfl ⟨⟨rfl, (rfl : _ = Value.int _ _)⟩, trivial⟩ ?_))))))))))
   try simp only [List.any_cons, List.any_nil, Bool.or_false, Bool.or_eq_false_iff] at g0 g4
   first
     | exact ⟨congrArg (Value.int .i64) (zH5 (by assumption)).symm, gd.tail⟩
     | exact ⟨congrArg (Value.int .i64) (zH4 (by assumption) (by assumption)).symm, gd.tail⟩
     | exact ⟨congrArg (Value.int .i64) (zH3 (by assumption) (by assumption) (by simp [g0, g4]; done) (by omega)).symm, gd.tail⟩
     | exact ⟨congrArg (Value.int .i64) (by rw [zH2 (by assumption) (by assumption) (by simp [g0, g4]; done) (by omega)]; simp [g0, g4]), gd.tail⟩
     | exact ⟨congrArg (Value.int .i64) (by rw [zGr (by assumption) (by assumption)]; simp [g0, g4]), gd.tail⟩
  try simp only [zS] at g4
  refine zAf (fun gG gi => (zAa (w_p (zAd (o := 1) (i := 1) underlying43 rfl sizeOf3 rfl rfl rfl) rfl (w_p (zAj isAgg3 gd rfl rfl (zAh (i := 0) (vs := [_]) rfl rfl)) rfl (w_p (zAd (o := 2) (i := 2) underlying43 rfl sizeOf3 rfl rfl rfl) rfl ?_)))))
  refine w_p (zAj isAgg3 gd rfl rfl (zAh (i := 0) (vs := [_]) rfl rfl)) rfl (zA0 (ps := [(0, _),(1, _)]) (pv := [(0, .int _ _),(1, .int _ _)]) (cs := [_,_]) zAb rfl rfl (fun w => Try_KC_fb2 _ _ w) gd (fun gH gI gr => ?_))
  refine zAs zAb call73 rfl rfl rfl rfl (c73 _ _ _ [_,_] _ (by simp) (zBp (i := 0) (rows := [[_], [_]]) rfl (by simp) rfl) gr) ?_
  rintro _ gJ ⟨rfl, gf⟩
  refine w_p (zAi (v := .bool _) rfl rfl) rfl (zBk (fun g5 => ?_) (fun g5 => ?_))
  ·
   try simp only [zS] at g5
   refine zAg rfl rfl rfl ?_
   refine zAg rfl rfl rfl ?_
   refine zAg rfl rfl rfl ?_
   refine zAg rfl rfl rfl ?_
   refine w_p (zAx (v := _) rfl rfl rfl rfl) rfl (w_p (zAm (v := .bool _) rfl rfl) rfl (zAe (zAc (gi _ _ (zCh rfl rfl ?_)))))
   refine zAf (fun gK gt => (zAa (zBg rfl rfl (zAe (zAc (gt _ _ (zA2 (zAt (zAk (zA9 (l := [.tmp 6]) (vs := [_]) rfl ⟨⟨rfl, (rfl : _ = Value.int _ _)⟩, trivial⟩ ?_))))))))))
   try simp only [List.any_cons, List.any_nil, Bool.or_false, Bool.or_eq_false_iff] at g0 g4 g5
   first
     | exact ⟨congrArg (Value.int .i64) (zH5 (by assumption)).symm, gf.tail.tail⟩
     | exact ⟨congrArg (Value.int .i64) (zH4 (by assumption) (by assumption)).symm, gf.tail.tail⟩
     | exact ⟨congrArg (Value.int .i64) (zH3 (by assumption) (by assumption) (by simp [g0, g4, g5]; done) (by omega)).symm, gf.tail.tail⟩
     | exact ⟨congrArg (Value.int .i64) (by rw [zH2 (by assumption) (by assumption) (by simp [g0, g4, g5]; done) (by omega)]; simp [g0, g4, g5]), gf.tail.tail⟩
     | exact ⟨congrArg (Value.int .i64) (by rw [zGr (by assumption) (by assumption)]; simp [g0, g4, g5]), gf.tail.tail⟩
  try simp only [zS] at g5
  refine w_y rfl rfl rfl (zAd (o := 3) (i := 3) underlying43 rfl sizeOf3 rfl rfl rfl) rfl ?_
  refine w_y rfl rfl rfl (zAj isAgg3 gf rfl rfl (zAh (i := 1) (vs := [_]) rfl rfl)) rfl ?_
  refine zA0 (ps := [(0, _)]) (pv := [(0, .int _ _)]) (cs := [_]) (zAp rfl rfl rfl) rfl rfl (fun w => zIy _ w) gf (fun gL gM gu => ?_)
  refine zAs (zAp rfl rfl rfl) call73 rfl rfl rfl rfl (c73 _ _ _ [_] _ (by simp) (zBp (i := 0) (rows := [[_]]) rfl (by simp) rfl) gu) ?_
  rintro _ gN ⟨rfl, g9⟩
  refine w_p (zBd (v := .bool _) rfl rfl rfl rfl) rfl (w_p (zAm (v := .bool _) rfl rfl) rfl (zAe (zAc (gi _ _ (zAy rfl rfl (fun g6 => ?_) (fun g6 => ?_))))))
  ·
   try simp only [zS] at g6
   refine zAf (fun gO gv => (zAa (zBg rfl rfl (zAe (zAc (gv _ _ (zA2 (zAt (zAk (zA9 (l := [.tmp 6]) (vs := [_]) rfl ⟨⟨rfl, (rfl : _ = Value.int _ _)⟩, trivial⟩ ?_))))))))))
   try simp only [List.any_cons, List.any_nil, Bool.or_false, Bool.or_eq_false_iff] at g0 g4 g5 g6
   first
     | exact ⟨congrArg (Value.int .i64) (zH5 (by assumption)).symm, g9.tail.tail.tail⟩
     | exact ⟨congrArg (Value.int .i64) (zH4 (by assumption) (by assumption)).symm, g9.tail.tail.tail⟩
     | exact ⟨congrArg (Value.int .i64) (zH3 (by assumption) (by assumption) (by simp [g0, g4, g5, g6]; done) (by omega)).symm, g9.tail.tail.tail⟩
     | exact ⟨congrArg (Value.int .i64) (by rw [zH2 (by assumption) (by assumption) (by simp [g0, g4, g5, g6]; done) (by omega)]; simp [g0, g4, g5, g6]), g9.tail.tail.tail⟩
     | exact ⟨congrArg (Value.int .i64) (by rw [zGr (by assumption) (by assumption)]; simp [g0, g4, g5, g6]), g9.tail.tail.tail⟩
  try simp only [zS] at g6
  refine zAf (fun gP gj => (zAa (w_p (zAd (o := 4) (i := 4) underlying43 rfl sizeOf34 rfl rfl rfl) rfl (w_p (zAj isAgg34 g9 rfl rfl (zAh (i := 2) (vs := [_]) rfl rfl)) rfl (w_p (zBm underlying34 rfl rfl) rfl ?_)))))
  refine w_p (zAj isAgg3 g9.tail.tail.tail rfl rfl hn) rfl (w_p (zCt rfl rfl rfl rfl) rfl (w_p (zAi (v := .bool _) rfl rfl) rfl (zBk (fun g7 => ?_) (fun g7 => ?_))))
  ·
   try simp only [zS] at g7
   refine zAg rfl rfl rfl ?_
   refine zAg rfl rfl rfl ?_
   refine zAg rfl rfl rfl ?_
   refine zAg rfl rfl rfl ?_
   refine zAg rfl rfl rfl ?_
   refine w_p (zAx (v := _) rfl rfl rfl rfl) rfl (w_p (zAm (v := .bool _) rfl rfl) rfl (zAe (zAc (gj _ _ (zCh rfl rfl ?_)))))
   refine zAf (fun gQ gw => (zAa (zBg rfl rfl (zAe (zAc (gw _ _ (zA2 (zAt (zAk (zA9 (l := [.tmp 6]) (vs := [_]) rfl ⟨⟨rfl, (rfl : _ = Value.int _ _)⟩, trivial⟩ ?_))))))))))
   try simp only [List.any_cons, List.any_nil, Bool.or_false, Bool.or_eq_false_iff] at g0 g4 g5 g6 g7
   first
     | exact ⟨congrArg (Value.int .i64) (zH5 (by assumption)).symm, g9.tail.tail.tail⟩
     | exact ⟨congrArg (Value.int .i64) (zH4 (by assumption) (by assumption)).symm, g9.tail.tail.tail⟩
     | exact ⟨congrArg (Value.int .i64) (zH3 (by assumption) (by assumption) (by simp [g0, g4, g5, g6, g7]; done) (by omega)).symm, g9.tail.tail.tail⟩
     | exact ⟨congrArg (Value.int .i64) (by rw [zH2 (by assumption) (by assumption) (by simp [g0, g4, g5, g6, g7]; done) (by omega)]; simp [g0, g4, g5, g6, g7]), g9.tail.tail.tail⟩
     | exact ⟨congrArg (Value.int .i64) (by rw [zGr (by assumption) (by assumption)]; simp [g0, g4, g5, g6, g7]), g9.tail.tail.tail⟩
  try simp only [zS] at g7
  refine w_y rfl rfl rfl (zAd (o := 5) (i := 5) underlying43 rfl sizeOf34 rfl rfl rfl) rfl ?_
  refine w_y rfl rfl rfl (zAj isAgg34 g9 rfl rfl (zAh (i := 2) (vs := [_]) rfl rfl)) rfl ?_
  refine w_y rfl rfl rfl (zBm underlying34 rfl rfl) rfl ?_
  refine w_y rfl rfl rfl (zAj isAgg3 g9.tail.tail.tail rfl rfl hn) rfl ?_
  refine w_y rfl rfl rfl (zCt rfl rfl rfl rfl) rfl ?_
  refine w_p (zBd (v := .bool _) rfl rfl rfl rfl) rfl (w_p (zAm (v := .bool _) rfl rfl) rfl (zAe (zAc (gj _ _ (zAy rfl rfl (fun g8 => ?_) (fun g8 => ?_))))))
  ·
   try simp only [zS] at g8
   refine zAf (fun gR gx => (zAa (zBg rfl rfl (zAe (zAc (gx _ _ (zA2 (zAt (zAk (zA9 (l := [.tmp 6]) (vs := [_]) rfl ⟨⟨rfl, (rfl : _ = Value.int _ _)⟩, trivial⟩ ?_))))))))))
   try simp only [List.any_cons, List.any_nil, Bool.or_false, Bool.or_eq_false_iff] at g0 g4 g5 g6 g7 g8
   first
     | exact ⟨congrArg (Value.int .i64) (zH5 (by assumption)).symm, g9.tail.tail.tail⟩
     | exact ⟨congrArg (Value.int .i64) (zH4 (by assumption) (by assumption)).symm, g9.tail.tail.tail⟩
     | exact ⟨congrArg (Value.int .i64) (zH3 (by assumption) (by assumption) (by simp [g0, g4, g5, g6, g7, g8]; done) (by omega)).symm, g9.tail.tail.tail⟩
     | exact ⟨congrArg (Value.int .i64) (by rw [zH2 (by assumption) (by assumption) (by simp [g0, g4, g5, g6, g7, g8]; done) (by omega)]; simp [g0, g4, g5, g6, g7, g8]), g9.tail.tail.tail⟩
     | exact ⟨congrArg (Value.int .i64) (by rw [zGr (by assumption) (by assumption)]; simp [g0, g4, g5, g6, g7, g8]), g9.tail.tail.tail⟩
  try simp only [zS] at g8
  refine zAf (fun gT gk => (zAa (w_p (zAd (o := 4) (i := 4) underlying43 rfl sizeOf34 rfl rfl rfl) rfl (w_p (zAj isAgg34 g9 rfl rfl (zAh (i := 2) (vs := [_]) rfl rfl)) rfl (zAs zAb call73 rfl rfl rfl rfl (c73 _ _ _ (b.ctrs[i]'hi).zero _ (by omega) (hm.z i hi).cons.cons.cons g9) ?_)))))
  rintro _ gU ⟨rfl, gg⟩
  refine w_p (zAi (v := .bool _) rfl rfl) rfl (zBk (fun ga => ?_) (fun ga => ?_))
  ·
   try simp only [zS] at ga
   refine zAg rfl rfl rfl ?_
   refine zAg rfl rfl rfl ?_
   refine zAg rfl rfl rfl ?_
   refine w_p (zAx (v := _) rfl rfl rfl rfl) rfl (w_p (zAm (v := .bool _) rfl rfl) rfl (zAe (zAc (gk _ _ (zCh rfl rfl ?_)))))
   refine zAf (fun gV gy => (zAa (zBg rfl rfl (zAe (zAc (gy _ _ (zA2 (zAt (zAk (zA9 (l := [.tmp 6]) (vs := [_]) rfl ⟨⟨rfl, (rfl : _ = Value.int _ _)⟩, trivial⟩ ?_))))))))))
   try simp only [List.any_cons, List.any_nil, Bool.or_false, Bool.or_eq_false_iff] at g0 g4 g5 g6 g7 g8 ga
   first
     | exact ⟨congrArg (Value.int .i64) (zH5 (by assumption)).symm, gg.tail.tail.tail⟩
     | exact ⟨congrArg (Value.int .i64) (zH4 (by assumption) (by assumption)).symm, gg.tail.tail.tail⟩
     | exact ⟨congrArg (Value.int .i64) (zH3 (by assumption) (by assumption) (by simp [g0, g4, g5, g6, g7, g8, ga]; done) (by omega)).symm, gg.tail.tail.tail⟩
     | exact ⟨congrArg (Value.int .i64) (by rw [zH2 (by assumption) (by assumption) (by simp [g0, g4, g5, g6, g7, g8, ga]; done) (by omega)]; simp [g0, g4, g5, g6, g7, g8, ga]), gg.tail.tail.tail⟩
     | exact ⟨congrArg (Value.int .i64) (by rw [zGr (by assumption) (by assumption)]; simp [g0, g4, g5, g6, g7, g8, ga]), gg.tail.tail.tail⟩
  try simp only [zS] at ga
  refine w_y rfl rfl rfl (zAd (o := 5) (i := 5) underlying43 rfl sizeOf34 rfl rfl rfl) rfl ?_
  refine w_y rfl rfl rfl (zAj isAgg34 gg rfl rfl (zAh (i := 2) (vs := [_]) rfl rfl)) rfl ?_
  refine zAs (zAp rfl rfl rfl) call73 rfl rfl rfl rfl (c73 _ _ _ (b.ctrs[i]'hi).shown _ (by omega) (hm.s i hi).cons.cons.cons gg) ?_
  rintro _ gW ⟨rfl, gc⟩
  refine w_p (zBd (v := .bool _) rfl rfl rfl rfl) rfl (w_p (zAm (v := .bool _) rfl rfl) rfl (zAe (zAc (gk _ _ (zAy rfl rfl (fun gb => ?_) (fun gb => ?_))))))
  ·
   try simp only [zS] at gb
   refine zAf (fun gX gz => (zAa (zBg rfl rfl (zAe (zAc (gz _ _ (zA2 (zAt (zAk (zA9 (l := [.tmp 6]) (vs := [_]) rfl ⟨⟨rfl, (rfl : _ = Value.int _ _)⟩, trivial⟩ ?_))))))))))
   try simp only [List.any_cons, List.any_nil, Bool.or_false, Bool.or_eq_false_iff] at g0 g4 g5 g6 g7 g8 ga gb
   first
     | exact ⟨congrArg (Value.int .i64) (zH5 (by assumption)).symm, gc.tail.tail.tail⟩
     | exact ⟨congrArg (Value.int .i64) (zH4 (by assumption) (by assumption)).symm, gc.tail.tail.tail⟩
     | exact ⟨congrArg (Value.int .i64) (zH3 (by assumption) (by assumption) (by simp [g0, g4, g5, g6, g7, g8, ga, gb]; done) (by omega)).symm, gc.tail.tail.tail⟩
     | exact ⟨congrArg (Value.int .i64) (by rw [zH2 (by assumption) (by assumption) (by simp [g0, g4, g5, g6, g7, g8, ga, gb]; done) (by omega)]; simp [g0, g4, g5, g6, g7, g8, ga, gb]), gc.tail.tail.tail⟩
     | exact ⟨congrArg (Value.int .i64) (by rw [zGr (by assumption) (by assumption)]; simp [g0, g4, g5, g6, g7, g8, ga, gb]), gc.tail.tail.tail⟩
  try simp only [zS] at gb
  refine zAv (zAl (zAc (gm _ _ (zAf (fun gY gA => (zAa (zBg rfl rfl (zAe (zAc (gA _ _ (zA2 (zA9 (l := [.tmp 6]) (vs := [_]) rfl ⟨⟨rfl, (rfl : _ = Value.int _ _)⟩, trivial⟩ ?_))))))))))))
  try simp only [List.any_cons, List.any_nil, Bool.or_false, Bool.or_eq_false_iff] at g0 g4 g5 g6 g7 g8 ga gb
  first
    | exact ⟨congrArg (Value.int .i64) (zH5 (by assumption)).symm, gc.tail.tail.tail⟩
    | exact ⟨congrArg (Value.int .i64) (zH4 (by assumption) (by assumption)).symm, gc.tail.tail.tail⟩
    | exact ⟨congrArg (Value.int .i64) (zH3 (by assumption) (by assumption) (by simp [g0, g4, g5, g6, g7, g8, ga, gb]; done) (by omega)).symm, gc.tail.tail.tail⟩
    | exact ⟨congrArg (Value.int .i64) (by rw [zH2 (by assumption) (by assumption) (by simp [g0, g4, g5, g6, g7, g8, ga, gb]; done) (by omega)]; simp [g0, g4, g5, g6, g7, g8, ga, gb]), gc.tail.tail.tail⟩
    | exact ⟨congrArg (Value.int .i64) (by rw [zGr (by assumption) (by assumption)]; simp [g0, g4, g5, g6, g7, g8, ga, gb]), gc.tail.tail.tail⟩

end Go.Proofs.Kb
/- Plain words of the chain layer: ways, step by step; what counters make of loads, as sets of numbers. No conditions. -/
namespace Go.Rt.Ch
open Go.Rt.Ha
def wrows (l : List Way) : List (List Value) := l.map Way.cells
def hourOf (b : Board) (a : Nat) : Hour := b.hours.getD a ⟨0,0,0⟩
def waysAt (b : Board) (c a : Nat) (s : Int) : List Way := waysC (ctrOf b c) (hourOf b a) a s
theorem ctr_at {b : Board} {c : Nat} (h : c < b.ctrs.length) : ctrOf b c = b.ctrs[c] := by simp [ctrOf, List.getD, h]
theorem zDy {b : Board} {a : Nat} (h : a < b.hours.length) : hourOf b a = b.hours[a] := by simp [hourOf, List.getD, h]
def wTo (c : Ctr) (h : Hour) (a : Nat) (s : Int) : Nat → List Way
  | 0 => []
  | n + 1 => wTo c h a s n ++ waysZ c h a s (decide (n = 1))
theorem wTo_two (c : Ctr) (h : Hour) (a : Nat) (s : Int) : wTo c h a s 2 = waysC c h a s := by
  show ([] ++ waysZ c h a s (decide (0 = 1))) ++ waysZ c h a s (decide (1 = 1)) = _
  rfl
theorem wTo_no {c : Ctr} {h : Hour} {a : Nat} {s : Int} {n : Nat} (hz : canZ c a (decide (n = 1)) = false) : wTo c h a s (n + 1) = wTo c h a s n := by
  rw [wTo, waysZ, hz]; simp
def wPart (c : Ctr) (a : Nat) (s : Int) (z : Bool) (lo : Int) (q : Nat) : List Way := (upto lo q).flatMap (wayR c a s z)
theorem upto_end : ∀ (n : Nat) (lo : Int), upto lo (n + 1) = upto lo n ++ [lo + n]
  | 0, lo => by simp [upto]
  | n + 1, lo => by
    rw [upto, upto_end n (lo + 1), upto]
    simp only [List.cons_append]
    rw [show lo + 1 + (n : Int) = lo + (n + 1 : Nat) by omega]
theorem zFm {c : Ctr} {a : Nat} {s lo : Int} {z : Bool} {q : Nat} (h : c.shown.getD a 0 = -1 ∨ c.shown.getD a 0 = shOf s z (lo + q)) : wPart c a s z lo (q + 1) = wPart c a s z lo q ++ [⟨lo + q, shOf s z (lo + q), z⟩] := by
  unfold wPart
  rw [upto_end, List.flatMap_append]
  simp only [List.flatMap_cons, List.flatMap_nil, List.append_nil, wayR, if_pos h]
theorem wPart_n {c : Ctr} {a : Nat} {s lo : Int} {z : Bool} {q : Nat} (h : ¬ (c.shown.getD a 0 = -1 ∨ c.shown.getD a 0 = shOf s z (lo + q))) : wPart c a s z lo (q + 1) = wPart c a s z lo q := by
  unfold wPart
  rw [upto_end, List.flatMap_append]
  simp only [List.flatMap_cons, List.flatMap_nil, List.append_nil, wayR, if_neg h]
theorem zFb (c : Ctr) (a : Nat) (s lo : Int) (z : Bool) : ∀ q, (wPart c a s z lo q).length ≤ q
  | 0 => by simp [wPart, upto]
  | q + 1 => by
    have ih := zFb c a s lo z q
    by_cases h : c.shown.getD a 0 = -1 ∨ c.shown.getD a 0 = shOf s z (lo + q)
    · rw [zFm h, List.length_append]; simp; omega
    · rw [wPart_n h]; omega
theorem zEu {c : Ctr} {h : Hour} {a : Nat} {s : Int} {n q : Nat} (hz : canZ c a (decide (n = 1)) = true) (hq : q = (h.hi + c.twice + 1 - max 0 (h.lo - c.skip)).toNat) : wTo c h a s (n + 1) = wTo c h a s n ++ wPart c a s (decide (n = 1)) (max 0 (h.lo - c.skip)) q := by
  subst hq
  rw [wTo, waysZ, hz]; rfl
theorem waysZ_len {c : Ctr} {h : Hour} {a : Nat} {s : Int} {z : Bool} {n : Nat} (hc : c.Ok n) {k : Int} (hh : h.Ok k) : (waysZ c h a s z).length ≤ 10 := by
  unfold waysZ
  split
  · have := zFb c a s (max 0 (h.lo - c.skip)) z (h.hi + c.twice + 1 - max 0 (h.lo - c.skip)).toNat
    have h1 := hc.skip
    have h2 := hc.twice
    have h3 := hh.w
    have h4 := hh.lo
    have h5 := hh.le
    refine Nat.le_trans this ?_
    omega
  · simp
theorem wTo_len {c : Ctr} {h : Hour} {a : Nat} {s : Int} {n : Nat} (hc : c.Ok n) {k : Int} (hh : h.Ok k) : ∀ m, (wTo c h a s m).length ≤ 10 * m
  | 0 => by simp [wTo]
  | m + 1 => by
    have ih := wTo_len (a := a) (s := s) hc hh m
    have := waysZ_len (a := a) (s := s) (z := decide (m = 1)) hc hh
    rw [wTo, List.length_append]; omega
theorem canZ_n {c : Ctr} {a n : Nat} (hn : n < 2) (h : (n = 0 ∧ c.zero.getD a 0 = 1) ∨ (n = 1 ∧ c.zero.getD a 0 = 0)) : canZ c a (decide (n = 1)) = false := by
  unfold canZ
  rcases h with ⟨h1, h2⟩ | ⟨h1, h2⟩
  · subst h1; simp only [show decide (0 = 1) = false from rfl, Bool.false_eq_true, if_false]; simp only [h2]; rfl
  · subst h1; simp only [show decide (1 = 1) = true from rfl, if_true]; simp only [h2]; rfl
theorem canZ_y {c : Ctr} {a n : Nat} (hn : n < 2) (h : ¬ ((n = 0 ∧ c.zero.getD a 0 = 1) ∨ (n = 1 ∧ c.zero.getD a 0 = 0))) : canZ c a (decide (n = 1)) = true := by
  unfold canZ
  by_cases e : n = 1
  · subst e
    rw [decide_eq_true rfl, if_pos rfl, decide_eq_true_eq]
    intro h2; exact h (.inr ⟨rfl, h2⟩)
  · rw [decide_eq_false e, if_neg (by simp), decide_eq_true_eq]
    intro h2; exact h (.inl ⟨by omega, h2⟩)
theorem sh_mul {s k : Int} {n : Nat} (hn : n < 2) : (s * (1 - (n : Int)) + k) % 100 = shOf s (decide (n = 1)) k := by
  unfold shOf
  by_cases e : n = 1
  · subst e; simp
  · have : n = 0 := by omega
    subst this; simp
theorem mul_in {s : Int} {n : Nat} (hn : n < 2) (hs : 0 ≤ s ∧ s < 100) : 0 ≤ s * (1 - (n : Int)) ∧ s * (1 - (n : Int)) < 100 := by
  by_cases e : n = 1
  · subst e; simp
  · have : n = 0 := by omega
    subst this; simp; omega
end Go.Rt.Ch
/- Plain words of the chain layer: what counters make of loads, as sets of numbers. No conditions. -/
namespace Go.Rt.Ch
open Go.Rt.Ha
def kOne (l : List Int) (q : Quest) (k : Nat) (t : Int) (w : Way) : Int := w.shows + if decide (100 ≤ t) || q k (ld l k) w then 100 else 0
def kFit (c : Ctr) (l : List Int) (k : Nat) (w : Way) : Prop := 0 - c.skip ≤ w.counts - ld l k ∧ w.counts - ld l k ≤ c.twice
def GoodL (c : Ctr) (l : List Int) (q : Quest) (k : Nat) (t : Int) (ws : List Way) (z : Int) : Prop := ∃ w ∈ ws, kFit c l k w ∧ z = kOne l q k t w
def Good (c : Ctr) (h : Hour) (l : List Int) (q : Quest) (k : Nat) (z t : Int) : Prop := GoodL c l q k t (waysC c h k (t % 100)) z
def KeysOf (ks : List Int) (xs : List (Int × Bool)) : Prop := ∀ z, z ∈ ks ↔ ∃ x ∈ xs, enc x = z
theorem good_zero (c : Ctr) (l : List Int) (q : Quest) (k : Nat) (t : Int) (ws : List Way) (z : Int) : ¬ GoodL c l q k t (ws.take 0) z := by rintro ⟨w, h, _⟩; simp at h
theorem good_no {c : Ctr} {l : List Int} {q : Quest} {k : Nat} {t : Int} {ws : List Way} {j : Nat} (hj : j < ws.length) (h : ¬ kFit c l k ws[j]) (z : Int) : GoodL c l q k t (ws.take (j + 1)) z ↔ GoodL c l q k t (ws.take j) z := by
  rw [List.take_succ_eq_append_getElem hj]
  unfold GoodL
  constructor
  · rintro ⟨w, hw, h1, h2⟩
    rcases List.mem_append.1 hw with hw | hw
    · exact ⟨w, hw, h1, h2⟩
    · rw [List.mem_singleton] at hw; subst hw; exact absurd h1 h
  · rintro ⟨w, hw, h1, h2⟩; exact ⟨w, List.mem_append_left _ hw, h1, h2⟩
theorem good_yes {c : Ctr} {l : List Int} {q : Quest} {k : Nat} {t : Int} {ws : List Way} {j : Nat} (hj : j < ws.length) (h : kFit c l k ws[j]) (z : Int) : GoodL c l q k t (ws.take (j + 1)) z ↔ GoodL c l q k t (ws.take j) z ∨ z = kOne l q k t ws[j] := by
  rw [List.take_succ_eq_append_getElem hj]
  unfold GoodL
  constructor
  · rintro ⟨w, hw, h1, h2⟩
    rcases List.mem_append.1 hw with hw | hw
    · exact .inl ⟨w, hw, h1, h2⟩
    · rw [List.mem_singleton] at hw; subst hw; exact .inr h2
  · rintro (⟨w, hw, h1, h2⟩ | h2)
    · exact ⟨w, List.mem_append_left _ hw, h1, h2⟩
    · exact ⟨_, List.mem_append_right _ (.head _), h, h2⟩
theorem good_all (c : Ctr) (l : List Int) (q : Quest) (k : Nat) (t : Int) (ws : List Way) (z : Int) {j : Nat} (hj : ws.length ≤ j) : GoodL c l q k t (ws.take j) z ↔ GoodL c l q k t ws z := by rw [List.take_of_length_le hj]
theorem keys_zero (c : Ctr) (l : List Int) (q : Quest) : KeysOf [c.start] (fareTo c l q 0) := by
  intro z
  rw [List.mem_singleton]
  constructor
  · rintro rfl; exact ⟨_, .head _, by unfold enc; simp⟩
  · rintro ⟨x, hx, rfl⟩
    simp only [fareTo, List.mem_singleton] at hx
    subst hx; unfold enc; simp
theorem keys_next {c : Ctr} {n : Nat} (hc : c.Ok n) {h : Hour} {l : List Int} {q : Quest} {k : Nat} (hl : h.lo ≤ ld l k ∧ ld l k ≤ h.hi) (h0 : 0 ≤ h.lo) {ks nx : List Int} (hk : KeysOf ks (fareTo c l q k)) (hn : ∀ z, z ∈ nx ↔ ∃ t ∈ ks, Good c h l q k z t) : KeysOf nx (fareTo c l q (k + 1)) := by
  intro z
  rw [hn]
  constructor
  · rintro ⟨t, ht, w, hw, h1, h2⟩
    obtain ⟨x, hx, rfl⟩ := (hk t).1 ht
    have hr := zHa hc k hx
    rw [enc_mod hr] at hw
    refine ⟨(w.shows, x.2 || q k (ld l k) w), ?_, ?_⟩
    · simp only [fareTo, List.mem_flatMap, List.mem_map]
      exact ⟨x, hx, w, (steps_ways hl h0).2 ⟨hw, h1⟩, rfl⟩
    · rw [h2]
      unfold kOne enc
      simp only
      have : decide (100 ≤ x.1 + if x.2 = true then 100 else 0) = x.2 := by
        have := enc_ge hr
        unfold enc at this
        rw [Bool.eq_iff_iff, decide_eq_true_eq]; exact this
      rw [this]
  · rintro ⟨x, hx, rfl⟩
    simp only [fareTo, List.mem_flatMap, List.mem_map] at hx
    obtain ⟨y, hy, w, hw, rfl⟩ := hx
    have hr := zHa hc k hy
    have hsw := (steps_ways (c := c) (h := h) (a := k) (s := y.1) hl h0).1 hw
    refine ⟨enc y, (hk _).2 ⟨y, hy, rfl⟩, w, by rw [enc_mod hr]; exact hsw.1, hsw.2, ?_⟩
    unfold kOne
    have : decide (100 ≤ enc y) = y.2 := by rw [Bool.eq_iff_iff, decide_eq_true_eq]; exact enc_ge hr
    rw [this]
    rfl
theorem keys_in {c : Ctr} {n : Nat} (hc : c.Ok n) {l : List Int} {q : Quest} {k : Nat} {ks : List Int} (hk : KeysOf ks (fareTo c l q k)) {z : Int} (hz : z ∈ ks) : 0 ≤ z ∧ z < 200 := by
  obtain ⟨x, hx, rfl⟩ := (hk z).1 hz
  have := zHa hc k hx
  unfold enc
  split <;> omega
theorem keys_not {c : Ctr} {n : Nat} (hc : c.Ok n) {l : List Int} {q : Quest} {k : Nat} {ks : List Int} (hk : KeysOf ks (fareTo c l q k)) : (ks.any fun z => decide (z < 100)) = notF c l q k := by
  unfold notF
  rw [Bool.eq_iff_iff, List.any_eq_true, List.any_eq_true]
  constructor
  · rintro ⟨z, hz, h⟩
    obtain ⟨x, hx, rfl⟩ := (hk z).1 hz
    have h2 := enc_ge (zHa hc k hx)
    refine ⟨x, hx, ?_⟩
    cases hb : x.2 with
    | false => rfl
    | true => have := h2.2 hb; simp at h; omega
  · rintro ⟨x, hx, h⟩
    have h2 := enc_ge (zHa hc k hx)
    refine ⟨enc x, (hk _).2 ⟨x, hx, rfl⟩, ?_⟩
    simp only [decide_eq_true_eq]
    refine Int.not_le.1 fun h3 => ?_
    rw [h2.1 h3] at h; cases h
theorem keys_met {c : Ctr} {n : Nat} (hc : c.Ok n) {l : List Int} {q : Quest} {k : Nat} {ks : List Int} (hk : KeysOf ks (fareTo c l q k)) : (ks.any fun z => decide (100 ≤ z)) = metF c l q k := by
  unfold metF
  rw [Bool.eq_iff_iff, List.any_eq_true, List.any_eq_true]
  constructor
  · rintro ⟨z, hz, h⟩
    obtain ⟨x, hx, rfl⟩ := (hk z).1 hz
    exact ⟨x, hx, (enc_ge (zHa hc k hx)).1 (by simpa using h)⟩
  · rintro ⟨x, hx, h⟩
    exact ⟨enc x, (hk _).2 ⟨x, hx, rfl⟩, by simpa using (enc_ge (zHa hc k hx)).2 h⟩
theorem ways_len {c : Ctr} {h : Hour} {a : Nat} {s : Int} {n : Nat} (hc : c.Ok n) {k : Int} (hh : h.Ok k) : (waysC c h a s).length ≤ 20 := by
  have := wTo_len (a := a) (s := s) hc hh 2
  rw [wTo_two] at this; exact this
end Go.Rt.Ch
/- Plain laws of the hand layer: Check as the reference has it; a lot that is told by a way. No conditions. -/
namespace Go.Rt.Ha
def bunchR (b : Bunch) : Int := if ends b.lo b.hi 1 12 = 7 ∨ ends b.slo b.shi 0 9 = 7 then 7 else if ends b.lo b.hi 1 12 ≠ 0 ∨ ends b.slo b.shi 0 9 ≠ 0 ∨ 3 < b.hi - b.lo then 2 else 0
def allN : Nat → Int
  | 0 => 0
  | k + 1 => 2 * allN k + 1
def toldC (h : List Int) (c : Count) : Count := { c with hands := counted c.bits.toNat 0 h }
def told (l : Lot) (h : List Int) : Lot := { l with counts := l.counts.map (toldC h) }
theorem zHw {α : Type} {err : List α → α → Int} {lo most : Int} {l : List α} : (failE err lo most l).2 = 0 ↔ (lo ≤ l.length ∧ (l.length : Int) ≤ most) ∧ ∀ k (h : k < l.length), err (l.take k) l[k] = 0 := by
  constructor
  · exact zEq
  · rintro ⟨h1, h2⟩
    unfold failE
    rw [if_neg (by unfold out; simp; omega)]
    have key : ∀ (r b : List α) (i : Int), b ++ r = l → (firstE err b i r).2 = 0 := by
      intro r
      induction r with
      | nil => intro b i _; rfl
      | cons x r ih =>
        intro b i hb
        have h3 := h2 b.length (by rw [← hb]; simp)
        have e1 : l.take b.length = b := by rw [← hb]; simp
        have e2 : l[b.length]'(by rw [← hb]; simp) = x := by subst hb; simp
        rw [e1, e2] at h3
        unfold firstE
        rw [if_pos h3]
        exact ih (b ++ [x]) _ (by rw [← hb]; simp)
    exact key l [] 0 rfl
theorem zEg {l : Lot} : (check l).2.2 = 0 ↔ (failE gradeE 1 4 l.grades).2 = 0 ∧ (failE bunchE 0 6 l.bunches).2 = 0 ∧ (failE (countE l.bunches.length) 0 4 l.counts).2 = 0 := by
  constructor
  · exact zF0
  · rintro ⟨h1, h2, h3⟩
    unfold check
    rw [if_neg (by simp [h1]), if_neg (by simp [h2]), if_neg (by simp [h3])]
end Go.Rt.Ha
/- Plain words of the hand layer: all ways, as they are yielded one after the other, filled up to six numbers. No conditions. -/
namespace Go.Rt.Ha
def pad6 (h : List Int) : List Int := h ++ List.replicate (6 - h.length) 0
def segW (l : Lot) (but d : Nat) (pre : List Int) : List (List Int) := (((felt (l.bunches.drop d)).map (pre ++ ·)).filter fun h => soFrom but h 0 l.counts).map pad6
def restW (l : Lot) (but d : Nat) (pre : List Int) (xs : List Int) : List (List Int) := xs.flatMap fun x => segW l but (d + 1) (pre ++ [x])
theorem upto_step {lo : Int} {k n : Nat} (h : k < n) : upto (lo + k) (n - k) = (lo + k) :: upto (lo + (k + 1 : Nat)) (n - (k + 1)) := by
  rw [show n - k = (n - (k + 1)) + 1 by omega, upto, show lo + (k : Int) + 1 = lo + (k + 1 : Nat) by omega]
theorem upto_nodup : ∀ (n : Nat) (lo : Int), (upto lo n).Nodup
  | 0, _ => by simp [upto]
  | n + 1, lo => by
    simp only [upto, List.nodup_cons]
    exact ⟨fun h => by have := (upto_mem n (lo + 1) lo).1 h; omega, upto_nodup n (lo + 1)⟩
theorem felt_nodup : ∀ bs : List Bunch, (felt bs).Nodup
  | [] => by simp [felt]
  | b :: bs => by
    have ih := felt_nodup bs
    have key : ∀ xs : List Int, xs.Nodup → (xs.flatMap fun n => (felt bs).map (n :: ·)).Nodup := by
      intro xs
      induction xs with
      | nil => intro _; simp
      | cons x xs ihx =>
        intro hn
        rw [List.nodup_cons] at hn
        rw [List.flatMap_cons, List.nodup_append]
        refine ⟨by unfold List.Nodup; rw [List.pairwise_map]; exact List.Pairwise.imp (fun h e => h (by simpa using e)) ih, ihx hn.2, ?_⟩
        intro a ha b hb hab
        obtain ⟨u, _, rfl⟩ := List.mem_map.1 ha
        obtain ⟨y, hy, hb⟩ := List.mem_flatMap.1 hb
        obtain ⟨v, _, rfl⟩ := List.mem_map.1 hb
        injection hab with h1 h2
        subst h1
        exact hn.1 hy
    exact key _ (upto_nodup _ _)
theorem zCo {α : Type} {l : List α} {i : Nat} {x : α} {r : List α} (h : l.drop i = x :: r) : i < l.length := by
  rcases Nat.lt_or_ge i l.length with h1 | h1
  · exact h1
  · rw [List.drop_of_length_le h1] at h; cases h
theorem zDg {α : Type} {l : List α} {i : Nat} {x : α} {r : List α} (h : l.drop i = x :: r) : l[i]'(zCo h) = x := by
  rw [List.drop_eq_getElem_cons (zCo h)] at h
  injection h
theorem zCb {α : Type} {l : List α} {i : Nat} {x : α} {r : List α} (h : l.drop i = x :: r) : l.drop (i + 1) = r := by
  rw [List.drop_eq_getElem_cons (zCo h)] at h
  injection h
theorem zCx {α : Type} {l : List α} {i : Nat} (hi : i ≤ l.length) (h : l.drop i = []) : i = l.length := by
  have := congrArg List.length h; simp at this; omega
theorem zCj {α : Type} {l : List α} {i : Nat} {x : α} {r : List α} (hn : l.Nodup) (h : l.drop i = x :: r) : x ∉ r := by
  have h1 : (l.drop i).Nodup := List.Sublist.nodup (List.drop_sublist _ _) hn
  rw [h, List.nodup_cons] at h1; exact h1.1
theorem zC5 {cur pre : List Int} {d : Nat} {x : Int} (hk : cur.take d = pre) (hd : d < cur.length) : (cur.set d x).take (d + 1) = pre ++ [x] := by
  rw [List.take_succ_eq_append_getElem (by simpa using hd), List.take_set_of_le (Nat.le_refl _), hk]; simp
theorem zCv {cur : List Int} {d n : Nat} {x : Int} (hd : d < n) (hz : ∀ j, n ≤ j → cur.getD j 0 = 0) : ∀ j, n ≤ j → (cur.set d x).getD j 0 = 0 := by
  intro j hj
  have := hz j hj
  simp only [List.getD, List.getElem?_set_ne (show d ≠ j by omega)] at this ⊢; exact this
theorem zB2 {cur pre : List Int} {d : Nat} {x : Int} (hk : cur.take (d + 1) = pre ++ [x]) (hp : pre.length = d) : cur.take d = pre := by
  have h := congrArg (List.take d) hk
  rw [List.take_take, Nat.min_eq_left (by omega)] at h
  rw [h, ← hp]; simp
end Go.Rt.Ha
/- Plain words of the hand layer: grades as bits, one number of scars after the other. No conditions. -/
namespace Go.Rt.Ha
end Go.Rt.Ha
/- Plain words of the hand layer: sums of hands, step by step. No conditions. -/
namespace Go.Rt.Ha
def oftL (b : Nat) (ws : List (List Int)) : List Int := (List.range 13).map fun n : Nat => often b (n : Int) ws
theorem ways_max : (4 : Nat) ^ 6 = 4096 := by decide
theorem felt_len {bs : List Bunch} (h : ∀ b ∈ bs, b.hi + 1 - b.lo ≤ 4) : (felt bs).length ≤ 4 ^ bs.length := by
  induction bs with
  | nil => simp [felt]
  | cons b bs ih =>
    have ih := ih fun x hx => h x (.tail _ hx)
    have hb := h b (.head _)
    have hl : (spanL b.lo b.hi).length ≤ 4 := by
      have : ∀ n lo, (upto lo n).length = n := by intro n; induction n with
        | zero => intro lo; rfl
        | succ n ih => intro lo; simp [upto, ih]
      unfold spanL; rw [this]; omega
    have key : ∀ xs : List Int, (xs.flatMap fun n => (felt bs).map (n :: ·)).length = xs.length * (felt bs).length := by
      intro xs
      induction xs with
      | nil => simp
      | cons x xs ih => rw [List.flatMap_cons, List.length_append, ih, List.length_map, List.length_cons, Nat.succ_mul]; omega
    simp only [felt]
    rw [key, List.length_cons, Nat.pow_succ, Nat.mul_comm]
    exact Nat.mul_le_mul ih hl
theorem ways_len {l : Lot} (hok : l.Ok) (but : Nat) : (ways l but).length ≤ 4096 := by
  have h1 := List.length_filter_le (fun h => soFrom but h 0 l.counts) (felt l.bunches)
  have h2 := felt_len (bs := l.bunches) (fun b hb => by have := hok.bunch b hb; omega)
  have h3 : 4 ^ l.bunches.length ≤ 4 ^ 6 := Nat.pow_le_pow_right (by omega) hok.lb
  have h4 := ways_max
  unfold ways; omega
end Go.Rt.Ha
/- Plain words of the hand layer: what the document's functions do, step by step. No conditions. -/
namespace Go.Rt.Ha
def feltTo (l : Lot) (i : Nat) : List (List Int) := felt (l.bunches.take i)
def fNext (b : Bunch) (h : List Int) : List (List Int) := (spanL b.lo b.hi).map fun n => h ++ [n]
def fTo (b : Bunch) (ws : List (List Int)) (k : Nat) : List (List Int) := (ws.take k).flatMap (fNext b)
def fPart (b : Bunch) (h : List Int) (q : Nat) : List (List Int) := (upto b.lo q).map fun n => h ++ [n]
def kE (l : Lot) (e : Int) : Int := if e ≠ 0 then e else if ways l 0 = [] then 8 else 0
def idxC (l : Lot) (n : Int) (b : Nat) : Int := if (check l).2.2 = 0 then idxE n b else (check l).2.2
end Go.Rt.Ha
/- Plain words of the chain layer: what the document's functions do, step by step: errors, loads, steps. No conditions. -/
namespace Go.Rt.Ch
open Go.Rt.Ha
theorem zEc (a b lo hi : Int) : (ends a b lo hi = 7 ∧ (out lo hi a || out lo hi b) = true) ∨ (ends a b lo hi = 2 ∧ (out lo hi a || out lo hi b) = false ∧ b < a) ∨ (ends a b lo hi = 0 ∧ (out lo hi a || out lo hi b) = false ∧ ¬ b < a) := by
  unfold ends
  cases h : (out lo hi a || out lo hi b)
  · by_cases h2 : b < a
    · exact .inr (.inl ⟨by simp [h2], rfl, h2⟩)
    · exact .inr (.inr ⟨by simp [h2], rfl, h2⟩)
  · exact .inl ⟨rfl, rfl⟩
theorem out_y {lo hi n : Int} : out lo hi n = true ↔ ¬ (lo ≤ n ∧ n ≤ hi) := by rw [← zD9]; simp
theorem hour_4 {holds : Int} {bf : List Hour} {h : Hour} (e : ¬ (0 ≤ h.hold ∧ h.hold ≤ holds - 1)) : hourE holds bf h = 4 := by unfold hourE; rw [if_pos (out_y.2 e)]
theorem hour_e {holds : Int} {bf : List Hour} {h : Hour} (e : 0 ≤ h.hold ∧ h.hold ≤ holds - 1) (e2 : ends h.lo h.hi 0 40 ≠ 0) : hourE holds bf h = ends h.lo h.hi 0 40 := by
  unfold hourE
  rw [zD9.2 e, if_neg (by simp)]
  rcases zEc h.lo h.hi 0 40 with ⟨h1, h2⟩ | ⟨h1, h2, h3⟩ | ⟨h1, _⟩
  · rw [if_pos h2, h1]
  · rw [h2, if_neg (by simp), if_pos (out_y.2 (by omega)), h1]
  · exact absurd h1 e2
theorem hour_2 {holds : Int} {bf : List Hour} {h : Hour} (e : 0 ≤ h.hold ∧ h.hold ≤ holds - 1) (e2 : ends h.lo h.hi 0 40 = 0) (e3 : 3 < h.hi - h.lo) : hourE holds bf h = 2 := by
  unfold hourE
  rw [zD9.2 e, if_neg (by simp)]
  rcases zEc h.lo h.hi 0 40 with ⟨h1, h2⟩ | ⟨h1, h2, h3⟩ | ⟨h1, h2, _⟩
  · omega
  · omega
  · rw [h2, if_neg (by simp), if_pos (out_y.2 (by omega))]
theorem hour_0 {holds : Int} {bf : List Hour} {h : Hour} (e : 0 ≤ h.hold ∧ h.hold ≤ holds - 1) (e2 : ends h.lo h.hi 0 40 = 0) (e3 : ¬ 3 < h.hi - h.lo) : hourE holds bf h = 0 := by
  unfold hourE
  rw [zD9.2 e, if_neg (by simp)]
  rcases zEc h.lo h.hi 0 40 with ⟨h1, h2⟩ | ⟨h1, h2, h3⟩ | ⟨h1, h2, h3⟩
  · omega
  · omega
  · rw [h2, if_neg (by simp), if_neg (by rw [zD9.2 (by omega)]; simp)]
def ctrOwn (n : Nat) (c : Ctr) : Int := if (out 0 3 c.skip || out 0 3 c.twice) || out 0 99 c.start then 7 else if c.zero.length ≠ n ∨ c.shown.length ≠ n then 3 else if c.zero.any (out 0 2) || c.shown.any (out (-1) 99) then 7 else 0
theorem nameE_ref (b : List ByteArray) (s : ByteArray) : nameE b s = (if nmOk s = false then (6 : Int) else if has b s then 5 else 0) := by unfold nameE; cases nmOk s <;> cases has b s <;> simp
theorem ctrE_0 {n : Nat} {b : List Ctr} {c : Ctr} (h : (if nmOk c.name = false then (6 : Int) else if has (b.map (·.name)) c.name then 5 else 0) = 0) : ctrE n b c = ctrOwn n c := by unfold ctrE; rw [nameE_ref, h, if_neg (by simp)]; rfl
theorem ctrE_n {n : Nat} {b : List Ctr} {c : Ctr} (h : ¬ (if nmOk c.name = false then (6 : Int) else if has (b.map (·.name)) c.name then 5 else 0) = 0) : ctrE n b c = (if nmOk c.name = false then (6 : Int) else if has (b.map (·.name)) c.name then 5 else 0) := by unfold ctrE; rw [nameE_ref, if_pos h]
theorem zEn {n : Nat} {c : Ctr} (h : ¬ (0 ≤ c.skip ∧ c.skip ≤ 3) ∨ ¬ (0 ≤ c.twice ∧ c.twice ≤ 3) ∨ ¬ (0 ≤ c.start ∧ c.start ≤ 99)) : ctrOwn n c = 7 := by
  unfold ctrOwn
  rw [if_pos]
  rw [Bool.or_eq_true, Bool.or_eq_true, out_y, out_y, out_y]
  rcases h with h | h | h
  · exact .inl (.inl h)
  · exact .inl (.inr h)
  · exact .inr h
theorem own_go {n : Nat} {c : Ctr} (h1 : 0 ≤ c.skip ∧ c.skip ≤ 3) (h2 : 0 ≤ c.twice ∧ c.twice ≤ 3) (h3 : 0 ≤ c.start ∧ c.start ≤ 99) : ctrOwn n c = if c.zero.length ≠ n ∨ c.shown.length ≠ n then 3 else if c.zero.any (out 0 2) || c.shown.any (out (-1) 99) then 7 else 0 := by
  unfold ctrOwn
  rw [if_neg]
  rw [zD9.2 h1, zD9.2 h2, zD9.2 h3]; simp
theorem own_3 {n : Nat} {c : Ctr} (h1 : 0 ≤ c.skip ∧ c.skip ≤ 3) (h2 : 0 ≤ c.twice ∧ c.twice ≤ 3) (h3 : 0 ≤ c.start ∧ c.start ≤ 99) (h : c.zero.length ≠ n ∨ c.shown.length ≠ n) : ctrOwn n c = 3 := by rw [own_go h1 h2 h3, if_pos h]
theorem zG3 {n : Nat} {c : Ctr} (h1 : 0 ≤ c.skip ∧ c.skip ≤ 3) (h2 : 0 ≤ c.twice ∧ c.twice ≤ 3) (h3 : 0 ≤ c.start ∧ c.start ≤ 99) (hz : c.zero.length = n) (hs : c.shown.length = n) {i : Nat} (hi : i < n) (h : ¬ (0 ≤ c.zero[i] ∧ c.zero[i] ≤ 2) ∨ ¬ (-1 ≤ c.shown[i] ∧ c.shown[i] ≤ 99)) : ctrOwn n c = 7 := by
  rw [own_go h1 h2 h3, if_neg (by omega), if_pos]
  rw [Bool.or_eq_true, List.any_eq_true, List.any_eq_true]
  rcases h with h | h
  · exact .inl ⟨_, List.getElem_mem _, out_y.2 h⟩
  · exact .inr ⟨_, List.getElem_mem _, out_y.2 h⟩
theorem own_0 {n : Nat} {c : Ctr} (h1 : 0 ≤ c.skip ∧ c.skip ≤ 3) (h2 : 0 ≤ c.twice ∧ c.twice ≤ 3) (h3 : 0 ≤ c.start ∧ c.start ≤ 99) (hz : c.zero.length = n) (hs : c.shown.length = n) (h : (c.zero.take n).any (out 0 2) = false ∧ (c.shown.take n).any (out (-1) 99) = false) : ctrOwn n c = 0 := by
  rw [own_go h1 h2 h3, if_neg (by omega), if_neg]
  rw [List.take_of_length_le (by omega), List.take_of_length_le (by omega)] at h
  rw [h.1, h.2]; simp
theorem any_snoc {lo hi : Int} {l : List Int} {i : Nat} (hi2 : i < l.length) (h : (l.take i).any (out lo hi) = false) (h2 : lo ≤ l[i] ∧ l[i] ≤ hi) : (l.take (i + 1)).any (out lo hi) = false := by
  rw [List.take_succ_eq_append_getElem hi2, List.any_append, h]; simp [zD9.2 h2]
theorem chk_1 {b : Board} (h : ¬ (1 ≤ b.holds ∧ b.holds ≤ 3)) : check b = (1,0,7) := by unfold check; rw [if_pos (out_y.2 h)]
theorem zH6 {b : Board} {a e : Int} (h0 : 1 ≤ b.holds ∧ b.holds ≤ 3) (h : failE (hourE b.holds) 0 4 b.hours = (a, e)) (he : ¬ e = 0) : check b = (2, a, e) := by unfold check; rw [zD9.2 h0, if_neg (by simp), if_pos (by rw [h]; exact he), h]
theorem zE9 {b : Board} {a e : Int} (h0 : 1 ≤ b.holds ∧ b.holds ≤ 3) (h1 : (failE (hourE b.holds) 0 4 b.hours).2 = 0) (h : failE (ctrE b.hours.length) 0 2 b.ctrs = (a, e)) (he : ¬ e = 0) : check b = (3, a, e) := by unfold check; rw [zD9.2 h0, if_neg (by simp), if_neg (by simp [h1]), if_pos (by rw [h]; exact he), h]
theorem chk_0 {b : Board} (h0 : 1 ≤ b.holds ∧ b.holds ≤ 3) (h1 : (failE (hourE b.holds) 0 4 b.hours).2 = 0) (h2 : (failE (ctrE b.hours.length) 0 2 b.ctrs).2 = 0) : check b = (0,0,0) := by unfold check; rw [zD9.2 h0, if_neg (by simp), if_neg (by simp [h1]), if_neg (by simp [h2])]
theorem zC7 {α : Type} {err : List α → α → Int} {most : Int} {l : List α} (h : most < l.length) : failE err 0 most l = (0,3) := by unfold failE; rw [if_pos (out_y.2 (by omega))]
theorem zBn {α : Type} {err : List α → α → Int} {most : Int} {l : List α} (h : ¬ most < l.length) : failE err 0 most l = firstE err [] 0 l := by unfold failE; rw [zD9.2 (by omega), if_neg (by simp)]
def fb (b : Board) : Lot := ⟨[], bun b, []⟩
theorem bun_len (b : Board) : (bun b).length = b.hours.length := by simp [bun]
def srow (load : Int) (w : Way) : List Value := [.int .i64 w.shows, .int .i64 (w.counts - load), .bool w.zero]
def srows (load : Int) (l : List Way) : List (List Value) := l.map (srow load)
def sTo (c : Ctr) (a : Nat) (s load : Int) : Nat → List Way
  | 0 => []
  | n + 1 => sTo c a s load n ++ stepsZ c a s load (decide (n = 1))
def sOne (c : Ctr) (a : Nat) (s load : Int) (z : Bool) (e : Int) : List Way := if 0 ≤ load + e then wayR c a s z (load + e) else []
def sPart (c : Ctr) (a : Nat) (s load : Int) (z : Bool) (q : Nat) : List Way := (upto (0 - c.skip) q).flatMap (sOne c a s load z)
def qOf (h : Int) : Quest := fun a load w => (decide (h = -1) && decide (w.counts - load ≠ 0)) || (decide (h = (a : Int)) && w.zero)
end Go.Rt.Ch
/- Plain words of the chain layer: what the document's functions do, step by step: how counters fare, by tables; truths, spans. No conditions. -/
namespace Go.Rt.Ch
open Go.Rt.Ha
def Tab (l : List Bool) (P : Int → Prop) : Prop := l.length = 100 ∧ ∀ n : Nat, n < 100 → (l.getD n false = true ↔ P n)
def Nt (xs : List (Int × Bool)) (n : Int) : Prop := (n, false) ∈ xs
def Mt (xs : List (Int × Bool)) (n : Int) : Prop := (n, true) ∈ xs
def NS (c : Ctr) (l : List Int) (q : Quest) (a : Nat) (s n : Int) : Prop := ∃ x ∈ fareTo c l q a, x.1 < s ∧ x.2 = false ∧ ∃ w ∈ stepsC c a x.1 (ld l a), q a (ld l a) w = false ∧ n = w.shows
def MS (c : Ctr) (l : List Int) (q : Quest) (a : Nat) (s n : Int) : Prop := ∃ x ∈ fareTo c l q a, x.1 < s ∧ ∃ w ∈ stepsC c a x.1 (ld l a), (x.2 || q a (ld l a) w) = true ∧ n = w.shows
def NP (c : Ctr) (l : List Int) (q : Quest) (a : Nat) (s : Int) (k : Nat) (n : Int) : Prop := NS c l q a s n ∨ ((s, false) ∈ fareTo c l q a ∧ ∃ w ∈ (stepsC c a s (ld l a)).take k, q a (ld l a) w = false ∧ n = w.shows)
def MP (c : Ctr) (l : List Int) (q : Quest) (a : Nat) (s : Int) (k : Nat) (n : Int) : Prop := MS c l q a s n ∨ ∃ w ∈ (stepsC c a s (ld l a)).take k, ((s, true) ∈ fareTo c l q a ∨ ((s, false) ∈ fareTo c l q a ∧ q a (ld l a) w = true)) ∧ n = w.shows
end Go.Rt.Ch
set_option maxRecDepth 20000
namespace Go.Proofs.Kb
open Go.Proofs.Tryz
open Go.Rt Go.Rt.Ch
open Go.Rt.Ha (firstE zBv zBf zBo failE nameE felt spanL upto zCi listL fewest fewTo bit before fewStep zCo zDg zCb zCx zCj zC5 zCv zB2)
attribute [local irreducible] WL WC Con Yd At Ats Sl Agree DW
theorem Try_KS_fb4 (x0 : ByteArray) (w : World) : (Instr.buildSlice 60 1 [(0, .string x0)].toArray).run Tryz.prog w = .ok (.slice (some ⟨w.heap.size, 0, none⟩) 1 1) (w.alloc (Go.Rt.blk 9 [.string x0])) := by kernel_rfl
theorem Try_info9 : Tryz.prog.info? 9 = some Tryz.t9 := by kernel_rfl
theorem ends_ok {a b lo hi : Int} (h : ends a b lo hi = 0) : lo ≤ a ∧ a ≤ hi ∧ lo ≤ b ∧ b ≤ hi ∧ a ≤ b := by
  unfold ends out at h
  split at h
  · cases h
  · rename_i h1
    simp only [Bool.or_eq_true, decide_eq_true_eq, not_or] at h1
    split at h
    · cases h
    · omega
def freshE (s : ByteArray) (l : List ByteArray) : Int := if nmOk s = false then 6 else if has l s then 5 else 0
theorem zDh {n : Nat} {bf : List Ctr} {c : Ctr} (h : freshE c.name (bf.map (·.name)) = 0) : ctrE n bf c = ctrOwn n c := ctrE_0 h
theorem zD7 {n : Nat} {bf : List Ctr} {c : Ctr} (h : ¬ freshE c.name (bf.map (·.name)) = 0) : ctrE n bf c = freshE c.name (bf.map (·.name)) := ctrE_n h
theorem knames_snoc {l : List Ctr} {i : Nat} (hi : i < l.length) : ((l.take i).map (·.name)).map Value.string ++ [Value.string l[i].name] = ((l.take (i + 1)).map (·.name)).map Value.string := by
  rw [List.take_succ_eq_append_getElem hi]; simp only [List.map_append, List.map_cons, List.map_nil]
theorem knames_len {l : List Ctr} {i : Nat} (hi : i ≤ l.length) : ((l.take i).map (·.name)).length = i := by simp; omega
theorem c35 {w0 w : World} {F : List (Nat × Obj)} (b : Board) (p : AtB) (hh : 1 ≤ b.holds ∧ b.holds ≤ 3) (h : Hour) (bf : List Hour) (hs : St w0 w F) :
  Con Tryz.prog 35 [.agg (b.cells p).toArray, .agg h.cells.toArray] w fun v w' => v = .int .i64 (hourE b.holds bf h) ∧ St w0 w' F := by
  refine zAu (n := 29) func35 rfl rfl (zNl rfl) ?_
  refine zAf (fun K2 gb => (zAa (zCa (v := .agg #[.int _ _, .slice _ _ _, .slice _ _ _]) (cs := [_,_,_]) zAb rfl rfl rfl hs (fun b3 w4 gc => ?_))))
  refine zCa (v := .agg #[.int _ _, .int _ _, .int _ _]) (cs := [_,_,_]) zAb rfl rfl rfl gc (fun b6 w7 g5 => ?_)
  refine zBg rfl rfl (zAe (zAc (gb _ _ (zAf (fun gk gd => (zAf (fun gl ge => (zAa (w_p (zAd (o := 0) (i := 0) underlying48 rfl sizeOf3 rfl rfl rfl) rfl ?_)))))))))
  refine w_p (zAj isAgg3 g5 rfl rfl (zAh (i := 0) (vs := [_]) rfl rfl)) rfl (w_p (zAd (o := 0) (i := 0) underlying41 rfl sizeOf3 rfl rfl rfl) rfl (w_p (zAj isAgg3 g5 rfl rfl (zAh (i := 1) (vs := [_]) rfl rfl)) rfl ?_))
  refine w_p (zEi rfl rfl rfl rfl (by omega) (by omega)) rfl (zAs zAb call15 rfl rfl rfl rfl (c15 _ _ _ g5) ?_)
  rintro _ gm ⟨rfl, g4⟩
  refine w_p (zDi rfl rfl) rfl (zAe (zAc (ge _ _ (zAy rfl rfl (fun g6 => ?_) (fun g6 => ?_)))))
  ·
   try simp only [zS] at g6
   refine zAf (fun gn gf => (zAa (zBg rfl rfl (zAe (zAc (gf _ _ (zA2 (zAk (zA9 (l := [.tmp 4]) (vs := [_]) rfl ⟨⟨rfl, (rfl : _ = Value.int _ _)⟩, trivial⟩ ?_)))))))))
   first
     | exact ⟨congrArg (Value.int .i64) (hour_4 (by assumption)).symm, g4.tail.tail⟩
     | exact ⟨congrArg (Value.int .i64) (hour_2 (by assumption) (by assumption) (by omega)).symm, g4.tail.tail⟩
     | exact ⟨congrArg (Value.int .i64) (by rw [hour_0 (by assumption) (by assumption) (by omega)]; assumption), g4.tail.tail⟩
     | exact ⟨congrArg (Value.int .i64) (hour_e (by assumption) (by assumption)).symm, g4.tail.tail⟩
  try simp only [zS] at g6
  refine zAv (zAc (gd _ _ (zAf (fun go gg => (zAa (w_p (zAd (o := 1) (i := 1) underlying48 rfl sizeOf23 rfl rfl rfl) rfl (w_p (zA7 (vs := [_,_]) isAgg23 sizeOf23 g4 rfl rfl (zAh (i := 0) (vs := [_,_]) rfl rfl)) rfl ?_)))))))
  refine zAs zAb call14 rfl rfl rfl rfl (c14 _ _ _ _ g4) ?_
  rintro _ gp ⟨rfl, g0⟩
  refine zBl rfl rfl (zAe (zAc (gg _ _ (zAf (fun gq g7 => (zAf (fun gr ga => (zAa (zBa rfl rfl (w_p (zBw rfl rfl rfl rfl) rfl (w_p (zAi (v := .bool _) rfl rfl) rfl ?_)))))))))))
  refine zBk (fun g8 => ?_) (fun g8 => ?_)
  ·
   try simp only [zS] at g8
   have he1 := ends_ok (by assumption : ends h.lo h.hi 0 40 = 0)
   refine w_y rfl rfl rfl (zAd (o := 1) (i := 1) underlying48 rfl sizeOf23 rfl rfl rfl) rfl ?_
   refine w_y rfl rfl rfl (zAd (o := 1) (i := 1) underlying23 rfl sizeOf3 rfl rfl rfl) rfl ?_
   refine w_y rfl rfl rfl (zAj isAgg3 g0 rfl rfl (zAh (i := 0) (vs := [_]) rfl rfl)) rfl ?_
   refine w_y rfl rfl rfl (zAd (o := 1) (i := 1) underlying48 rfl sizeOf23 rfl rfl rfl) rfl ?_
   refine w_y rfl rfl rfl (zAd (o := 0) (i := 0) underlying23 rfl sizeOf3 rfl rfl rfl) rfl ?_
   refine w_y rfl rfl rfl (zAj isAgg3 g0 rfl rfl (zAh (i := 0) (vs := [_]) rfl rfl)) rfl ?_
   refine w_y rfl rfl rfl (zEi rfl rfl rfl rfl (by omega) (by omega)) rfl ?_
   refine w_y rfl rfl rfl (zFa rfl rfl rfl rfl) rfl ?_
   refine w_p (zAx (v := .bool _) rfl rfl rfl rfl) rfl (zAe (zAc (ga _ _ (zAy rfl rfl (fun g9 => ?_) (fun g9 => ?_)))))
   ·
    try simp only [zS] at g9
    refine zAa (zBg rfl rfl (zAe (zAc (g7 _ _ (zAf (fun gt gh => (zAa (zBa rfl rfl (zBl rfl rfl (zAe (zAc (gh _ _ (zA2 (zA9 (l := [.tmp 4]) (vs := [_]) rfl ⟨⟨rfl, (rfl : _ = Value.int _ _)⟩, trivial⟩ ?_))))))))))))))
    first
      | exact ⟨congrArg (Value.int .i64) (hour_4 (by assumption)).symm, g0.tail.tail⟩
      | exact ⟨congrArg (Value.int .i64) (hour_2 (by assumption) (by assumption) (by omega)).symm, g0.tail.tail⟩
      | exact ⟨congrArg (Value.int .i64) (by rw [hour_0 (by assumption) (by assumption) (by omega)]; assumption), g0.tail.tail⟩
      | exact ⟨congrArg (Value.int .i64) (hour_e (by assumption) (by assumption)).symm, g0.tail.tail⟩
   try simp only [zS] at g9
   refine zAv (zAc (g7 _ _ (zAf (fun gu gi => (zAa (zBa rfl rfl (zBl rfl rfl (zAe (zAc (gi _ _ (zA2 (zA9 (l := [.tmp 4]) (vs := [_]) rfl ⟨⟨rfl, (rfl : _ = Value.int _ _)⟩, trivial⟩ ?_))))))))))))
   first
     | exact ⟨congrArg (Value.int .i64) (hour_4 (by assumption)).symm, g0.tail.tail⟩
     | exact ⟨congrArg (Value.int .i64) (hour_2 (by assumption) (by assumption) (by omega)).symm, g0.tail.tail⟩
     | exact ⟨congrArg (Value.int .i64) (by rw [hour_0 (by assumption) (by assumption) (by omega)]; assumption), g0.tail.tail⟩
     | exact ⟨congrArg (Value.int .i64) (hour_e (by assumption) (by assumption)).symm, g0.tail.tail⟩
  try simp only [zS] at g8
  refine zAg rfl rfl rfl ?_
  refine zAg rfl rfl rfl ?_
  refine zAg rfl rfl rfl ?_
  refine zAg rfl rfl rfl ?_
  refine zAg rfl rfl rfl ?_
  refine zAg rfl rfl rfl ?_
  refine zAg rfl rfl rfl ?_
  refine zAg rfl rfl rfl ?_
  refine w_p (zBd (v := _) rfl rfl rfl rfl) rfl (zAe (zAc (ga _ _ (zCc rfl rfl ?_))))
  refine zAv (zAc (g7 _ _ (zAf (fun gv gj => (zAa (zBa rfl rfl (zBl rfl rfl (zAe (zAc (gj _ _ (zA2 (zA9 (l := [.tmp 4]) (vs := [_]) rfl ⟨⟨rfl, (rfl : _ = Value.int _ _)⟩, trivial⟩ ?_))))))))))))
  first
    | exact ⟨congrArg (Value.int .i64) (hour_4 (by assumption)).symm, g0.tail.tail⟩
    | exact ⟨congrArg (Value.int .i64) (hour_2 (by assumption) (by assumption) (by omega)).symm, g0.tail.tail⟩
    | exact ⟨congrArg (Value.int .i64) (by rw [hour_0 (by assumption) (by assumption) (by omega)]; assumption), g0.tail.tail⟩
    | exact ⟨congrArg (Value.int .i64) (hour_e (by assumption) (by assumption)).symm, g0.tail.tail⟩

theorem c36 {w0 w : World} {F : List (Nat × Obj)} (b : Board) (p : AtB) (c : Ctr) (pc : AtC) (hlh : b.hours.length ≤ 9223372036854775807) (hlz : c.zero.length ≤ 9223372036854775807) (hls : c.shown.length ≤ 9223372036854775807) (hz : Sl w0 F pc.az 1 (c.zero.map fun x => [Value.int .i64 x])) (hw : Sl w0 F pc.as 1 (c.shown.map fun x => [Value.int .i64 x])) (hs : St w0 w F) :
  Con Tryz.prog 36 [.agg (b.cells p).toArray, .agg (c.cells pc).toArray] w fun v w' => v = .int .i64 (ctrOwn b.hours.length c) ∧ St w0 w' F := by
  refine zAu (n := 61) func36 rfl rfl (zNl rfl) ?_
  refine zAf (fun K2 gk => (zAa (zCa (v := .agg #[.int _ _, .slice _ _ _, .slice _ _ _]) (cs := [_,_,_]) zAb rfl rfl rfl hs (fun b3 w4 gl => ?_))))
  refine zCa (v := .agg #[.string _, .int _ _, .int _ _, .int _ _, .slice _ _ _, .slice _ _ _]) (cs := [_,_,_,_,_,_]) zAb rfl rfl rfl gl (fun b6 w7 gh => ?_)
  refine zBg rfl rfl (zAe (zAc (gk _ _ (zAf (fun gD gm => (zAf (fun gE g8 => (zAa (w_p (zAd (o := 1) (i := 1) underlying43 rfl sizeOf3 rfl rfl rfl) rfl ?_)))))))))
  refine w_p (zAj isAgg3 gh rfl rfl (zAh (i := 0) (vs := [_]) rfl rfl)) rfl (zAs zAb call15 rfl rfl rfl rfl (c15 _ _ _ gh) ?_)
  rintro _ gF ⟨rfl, g5⟩
  refine w_p (zDi rfl rfl) rfl (w_p (zAi (v := .bool _) rfl rfl) rfl (zBk (fun g9 => ?_) (fun g9 => ?_)))
  ·
   try simp only [zS] at g9
   refine zAg rfl rfl rfl ?_
   refine zAg rfl rfl rfl ?_
   refine zAg rfl rfl rfl ?_
   refine zAg rfl rfl rfl ?_
   refine w_p (zAx (v := _) rfl rfl rfl rfl) rfl (w_p (zAi (v := .bool _) rfl rfl) rfl (zAg rfl rfl rfl ?_))
   refine zAg rfl rfl rfl ?_
   refine zAg rfl rfl rfl ?_
   refine zAg rfl rfl rfl ?_
   refine w_p (zAx (v := _) rfl rfl rfl rfl) rfl (zAe (zAc (g8 _ _ (zCh rfl rfl ?_))))
   refine zAf (fun gG gn => (zAa (zBg rfl rfl (zAe (zAc (gn _ _ (zA2 (zAk (zA9 (l := [.tmp 4]) (vs := [_]) rfl ⟨⟨rfl, (rfl : _ = Value.int _ _)⟩, trivial⟩ ?_)))))))))
   first
     | exact ⟨congrArg (Value.int .i64) (zEn (.inl (by assumption))).symm, g5.tail.tail⟩
     | exact ⟨congrArg (Value.int .i64) (zEn (.inr (.inl (by assumption)))).symm, g5.tail.tail⟩
     | exact ⟨congrArg (Value.int .i64) (zEn (.inr (.inr (by assumption)))).symm, g5.tail.tail⟩
     | exact ⟨congrArg (Value.int .i64) (own_3 (by assumption) (by assumption) (by assumption) (by omega)).symm, g5.tail.tail⟩
     | exact ⟨congrArg (Value.int .i64) (zG3 (by assumption) (by assumption) (by assumption) (by omega) (by omega) (i := i) (by omega) (.inl (by assumption))).symm, g5.tail.tail⟩
     | exact ⟨congrArg (Value.int .i64) (zG3 (by assumption) (by assumption) (by assumption) (by omega) (by omega) (i := i) (by omega) (.inr (by assumption))).symm, g5.tail.tail⟩
     | (have hil : i = b.hours.length := by omega
        subst hil
        exact ⟨congrArg (Value.int .i64) (own_0 (by assumption) (by assumption) (by assumption) (by omega) (by omega) ⟨hnz, hns⟩).symm, g5.tail.tail⟩)
  try simp only [zS] at g9
  refine w_y rfl rfl rfl (zAd (o := 2) (i := 2) underlying43 rfl sizeOf3 rfl rfl rfl) rfl ?_
  refine w_y rfl rfl rfl (zAj isAgg3 g5 rfl rfl (zAh (i := 0) (vs := [_]) rfl rfl)) rfl ?_
  refine zAs (zAp rfl rfl rfl) call15 rfl rfl rfl rfl (c15 _ _ _ g5) ?_
  rintro _ gH ⟨rfl, g6⟩
  refine w_y rfl rfl rfl (zDi rfl rfl) rfl ?_
  refine w_p (zBd (v := .bool _) rfl rfl rfl rfl) rfl (w_p (zAi (v := .bool _) rfl rfl) rfl (zBk (fun ga => ?_) (fun ga => ?_)))
  ·
   try simp only [zS] at ga
   refine zAg rfl rfl rfl ?_
   refine zAg rfl rfl rfl ?_
   refine zAg rfl rfl rfl ?_
   refine zAg rfl rfl rfl ?_
   refine w_p (zAx (v := _) rfl rfl rfl rfl) rfl (zAe (zAc (g8 _ _ (zCh rfl rfl ?_))))
   refine zAf (fun gI go => (zAa (zBg rfl rfl (zAe (zAc (go _ _ (zA2 (zAk (zA9 (l := [.tmp 4]) (vs := [_]) rfl ⟨⟨rfl, (rfl : _ = Value.int _ _)⟩, trivial⟩ ?_)))))))))
   first
     | exact ⟨congrArg (Value.int .i64) (zEn (.inl (by assumption))).symm, g6.tail.tail⟩
     | exact ⟨congrArg (Value.int .i64) (zEn (.inr (.inl (by assumption)))).symm, g6.tail.tail⟩
     | exact ⟨congrArg (Value.int .i64) (zEn (.inr (.inr (by assumption)))).symm, g6.tail.tail⟩
     | exact ⟨congrArg (Value.int .i64) (own_3 (by assumption) (by assumption) (by assumption) (by omega)).symm, g6.tail.tail⟩
     | exact ⟨congrArg (Value.int .i64) (zG3 (by assumption) (by assumption) (by assumption) (by omega) (by omega) (i := i) (by omega) (.inl (by assumption))).symm, g6.tail.tail⟩
     | exact ⟨congrArg (Value.int .i64) (zG3 (by assumption) (by assumption) (by assumption) (by omega) (by omega) (i := i) (by omega) (.inr (by assumption))).symm, g6.tail.tail⟩
     | (have hil : i = b.hours.length := by omega
        subst hil
        exact ⟨congrArg (Value.int .i64) (own_0 (by assumption) (by assumption) (by assumption) (by omega) (by omega) ⟨hnz, hns⟩).symm, g6.tail.tail⟩)
  try simp only [zS] at ga
  refine w_y rfl rfl rfl (zAd (o := 3) (i := 3) underlying43 rfl sizeOf3 rfl rfl rfl) rfl ?_
  refine w_y rfl rfl rfl (zAj isAgg3 g6 rfl rfl (zAh (i := 0) (vs := [_]) rfl rfl)) rfl ?_
  refine zAs (zAp rfl rfl rfl) call15 rfl rfl rfl rfl (c15 _ _ _ g6) ?_
  rintro _ gJ ⟨rfl, g0⟩
  refine w_y rfl rfl rfl (zDi rfl rfl) rfl ?_
  refine w_p (zBd (v := .bool _) rfl rfl rfl rfl) rfl (zAe (zAc (g8 _ _ (zAy rfl rfl (fun gb => ?_) (fun gb => ?_)))))
  ·
   try simp only [zS] at gb
   refine zAf (fun gK gp => (zAa (zBg rfl rfl (zAe (zAc (gp _ _ (zA2 (zAk (zA9 (l := [.tmp 4]) (vs := [_]) rfl ⟨⟨rfl, (rfl : _ = Value.int _ _)⟩, trivial⟩ ?_)))))))))
   first
     | exact ⟨congrArg (Value.int .i64) (zEn (.inl (by assumption))).symm, g0.tail.tail⟩
     | exact ⟨congrArg (Value.int .i64) (zEn (.inr (.inl (by assumption)))).symm, g0.tail.tail⟩
     | exact ⟨congrArg (Value.int .i64) (zEn (.inr (.inr (by assumption)))).symm, g0.tail.tail⟩
     | exact ⟨congrArg (Value.int .i64) (own_3 (by assumption) (by assumption) (by assumption) (by omega)).symm, g0.tail.tail⟩
     | exact ⟨congrArg (Value.int .i64) (zG3 (by assumption) (by assumption) (by assumption) (by omega) (by omega) (i := i) (by omega) (.inl (by assumption))).symm, g0.tail.tail⟩
     | exact ⟨congrArg (Value.int .i64) (zG3 (by assumption) (by assumption) (by assumption) (by omega) (by omega) (i := i) (by omega) (.inr (by assumption))).symm, g0.tail.tail⟩
     | (have hil : i = b.hours.length := by omega
        subst hil
        exact ⟨congrArg (Value.int .i64) (own_0 (by assumption) (by assumption) (by assumption) (by omega) (by omega) ⟨hnz, hns⟩).symm, g0.tail.tail⟩)
  try simp only [zS] at gb
  refine zAv (zAc (gm _ _ (zAf (fun gL gq => (zAf (fun gM gi => (zAa (w_p (zAd (o := 4) (i := 4) underlying43 rfl sizeOf34 rfl rfl rfl) rfl (w_p (zAj isAgg34 g0 rfl rfl (zAh (i := 0) (vs := [_]) rfl rfl)) rfl ?_)))))))))
  refine w_p (zBm underlying34 rfl rfl) rfl (w_p (zAd (o := 1) (i := 1) underlying41 rfl sizeOf38 rfl rfl rfl) rfl (w_p (zAj isAgg38 g0 rfl rfl (zAh (i := 1) (vs := [_]) rfl rfl)) rfl (w_p (zBm underlying38 rfl rfl) rfl ?_)))
  refine w_p (zCt rfl rfl rfl rfl) rfl (w_p (zAi (v := .bool _) rfl rfl) rfl (zBk (fun gc => ?_) (fun gc => ?_)))
  ·
   try simp only [zS] at gc
   refine zAg rfl rfl rfl ?_
   refine zAg rfl rfl rfl ?_
   refine zAg rfl rfl rfl ?_
   refine zAg rfl rfl rfl ?_
   refine zAg rfl rfl rfl ?_
   refine zAg rfl rfl rfl ?_
   refine zAg rfl rfl rfl ?_
   refine w_p (zAx (v := _) rfl rfl rfl rfl) rfl (zAe (zAc (gi _ _ (zCh rfl rfl ?_))))
   refine zAf (fun gN gr => (zAa (zBg rfl rfl (zAe (zAc (gr _ _ (zA2 (zAk (zA9 (l := [.tmp 4]) (vs := [_]) rfl ⟨⟨rfl, (rfl : _ = Value.int _ _)⟩, trivial⟩ ?_)))))))))
   first
     | exact ⟨congrArg (Value.int .i64) (zEn (.inl (by assumption))).symm, g0.tail.tail⟩
     | exact ⟨congrArg (Value.int .i64) (zEn (.inr (.inl (by assumption)))).symm, g0.tail.tail⟩
     | exact ⟨congrArg (Value.int .i64) (zEn (.inr (.inr (by assumption)))).symm, g0.tail.tail⟩
     | exact ⟨congrArg (Value.int .i64) (own_3 (by assumption) (by assumption) (by assumption) (by omega)).symm, g0.tail.tail⟩
     | exact ⟨congrArg (Value.int .i64) (zG3 (by assumption) (by assumption) (by assumption) (by omega) (by omega) (i := i) (by omega) (.inl (by assumption))).symm, g0.tail.tail⟩
     | exact ⟨congrArg (Value.int .i64) (zG3 (by assumption) (by assumption) (by assumption) (by omega) (by omega) (i := i) (by omega) (.inr (by assumption))).symm, g0.tail.tail⟩
     | (have hil : i = b.hours.length := by omega
        subst hil
        exact ⟨congrArg (Value.int .i64) (own_0 (by assumption) (by assumption) (by assumption) (by omega) (by omega) ⟨hnz, hns⟩).symm, g0.tail.tail⟩)
  try simp only [zS] at gc
  refine w_y rfl rfl rfl (zAd (o := 5) (i := 5) underlying43 rfl sizeOf34 rfl rfl rfl) rfl ?_
  refine w_y rfl rfl rfl (zAj isAgg34 g0 rfl rfl (zAh (i := 0) (vs := [_]) rfl rfl)) rfl ?_
  refine w_y rfl rfl rfl (zBm underlying34 rfl rfl) rfl ?_
  refine w_y rfl rfl rfl (zAd (o := 1) (i := 1) underlying41 rfl sizeOf38 rfl rfl rfl) rfl ?_
  refine w_y rfl rfl rfl (zAj isAgg38 g0 rfl rfl (zAh (i := 1) (vs := [_]) rfl rfl)) rfl ?_
  refine w_y rfl rfl rfl (zBm underlying38 rfl rfl) rfl ?_
  refine w_y rfl rfl rfl (zCt rfl rfl rfl rfl) rfl ?_
  refine w_p (zBd (v := .bool _) rfl rfl rfl rfl) rfl (zAe (zAc (gi _ _ (zAy rfl rfl (fun gd => ?_) (fun gd => ?_)))))
  ·
   try simp only [zS] at gd
   refine zAf (fun gO gt => (zAa (zBg rfl rfl (zAe (zAc (gt _ _ (zA2 (zAk (zA9 (l := [.tmp 4]) (vs := [_]) rfl ⟨⟨rfl, (rfl : _ = Value.int _ _)⟩, trivial⟩ ?_)))))))))
   first
     | exact ⟨congrArg (Value.int .i64) (zEn (.inl (by assumption))).symm, g0.tail.tail⟩
     | exact ⟨congrArg (Value.int .i64) (zEn (.inr (.inl (by assumption)))).symm, g0.tail.tail⟩
     | exact ⟨congrArg (Value.int .i64) (zEn (.inr (.inr (by assumption)))).symm, g0.tail.tail⟩
     | exact ⟨congrArg (Value.int .i64) (own_3 (by assumption) (by assumption) (by assumption) (by omega)).symm, g0.tail.tail⟩
     | exact ⟨congrArg (Value.int .i64) (zG3 (by assumption) (by assumption) (by assumption) (by omega) (by omega) (i := i) (by omega) (.inl (by assumption))).symm, g0.tail.tail⟩
     | exact ⟨congrArg (Value.int .i64) (zG3 (by assumption) (by assumption) (by assumption) (by omega) (by omega) (i := i) (by omega) (.inr (by assumption))).symm, g0.tail.tail⟩
     | (have hil : i = b.hours.length := by omega
        subst hil
        exact ⟨congrArg (Value.int .i64) (own_0 (by assumption) (by assumption) (by assumption) (by omega) (by omega) ⟨hnz, hns⟩).symm, g0.tail.tail⟩)
  try simp only [zS] at gd
  refine zAv (zAc (gq _ _ (zAf (fun gP gu => (zAf (fun gQ gv => (zAa (zBg rfl rfl (zAe (zAc (gv _ _ (zAz ?_))))))))))))
  refine zB3 [4,5,38,39,40,41,42,43,44,45,46,47,48,49,50,51,52,53,54,55,56,57,58,59,60] [5] (fun k vs w => ∃ i : Nat, vs = [.int .i64 i] ∧ i ≤ c.zero.length ∧ k = c.zero.length - i ∧ (c.zero.take i).any (out 0 2) = false ∧ (c.shown.take i).any (out (-1) 99) = false ∧ St w0 w ((b6, blk 43 (c.cells pc)) :: (b3, blk 41 (b.cells p)) :: F)) (c.zero.length) ?_ ?_
  ·
   exact ⟨0, rfl, by omega, by omega, rfl, rfl, g0⟩
  intro k vs μ gR hI gT gw
  obtain ⟨i, rfl, hia, rfl, hnz, hns, hs⟩ := hI
  refine zAf (fun gU gx => (zAf (fun gV gy => (zAa (zBa rfl rfl (w_p (zAd (o := 4) (i := 4) underlying43 rfl sizeOf34 rfl rfl rfl) rfl (w_p (zAj isAgg34 hs rfl rfl (zAh (i := 0) (vs := [_]) rfl rfl)) rfl ?_)))))))
  refine w_p (zBm underlying34 rfl rfl) rfl (w_p (zCl rfl rfl rfl rfl) rfl (zAe (zAc (gy _ _ (zAy rfl rfl (fun ge => ?_) (fun ge => ?_))))))
  ·
   try simp only [zS] at ge
   refine zAv (zAc (gx _ _ (zAf (fun gW gz => (zAz ?_)))))
   refine zAf (fun gX gj => ?_)
   have hi2 : i < c.zero.length := by omega
   have hi3 : i < c.shown.length := by omega
   obtain ⟨bz, oz, hbz, hxz⟩ := zDk hz hi2
   obtain ⟨bw, ow, hbw, hxw⟩ := zDk hw hi3
   refine zAa (w_p (zAd (o := 4) (i := 4) underlying43 rfl sizeOf34 rfl rfl rfl) rfl (w_p (zC0 hbz (zAj isAgg34 hs rfl rfl (zAh (i := 0) (vs := [_]) rfl rfl))) rfl (zBa rfl rfl (w_p (zBc underlying34 sizeOf3 rfl rfl rfl rfl (i := i) rfl hi2) rfl ?_))))
   refine w_p (zAj isAgg3 hs.tail.tail rfl rfl hxz) rfl (zAs zAb call15 rfl rfl rfl rfl (c15 _ _ _ hs) ?_)
   rintro _ gY ⟨rfl, g4⟩
   refine w_p (zDi rfl rfl) rfl (w_p (zAi (v := .bool _) rfl rfl) rfl (zBk (fun gf => ?_) (fun gf => ?_)))
   ·
    try simp only [zS] at gf
    refine zAg rfl rfl rfl ?_
    refine zAg rfl rfl rfl ?_
    refine zAg rfl rfl rfl ?_
    refine zAg rfl rfl rfl ?_
    refine zAg rfl rfl rfl ?_
    refine zAg rfl rfl rfl ?_
    refine zAg rfl rfl rfl ?_
    refine w_p (zAx (v := _) rfl rfl rfl rfl) rfl (zAe (zAc (gj _ _ (zCh rfl rfl ?_))))
    refine zAf (fun gZ gA => (zAa (zBg rfl rfl (zAe (zAc (gA _ _ (zA2 (zAt (zAk (zAk (zAt (zAk (zA9 (l := [.tmp 4]) (vs := [_]) rfl ⟨⟨rfl, (rfl : _ = Value.int _ _)⟩, trivial⟩ ?_)))))))))))))
    first
      | exact ⟨congrArg (Value.int .i64) (zEn (.inl (by assumption))).symm, g4.tail.tail⟩
      | exact ⟨congrArg (Value.int .i64) (zEn (.inr (.inl (by assumption)))).symm, g4.tail.tail⟩
      | exact ⟨congrArg (Value.int .i64) (zEn (.inr (.inr (by assumption)))).symm, g4.tail.tail⟩
      | exact ⟨congrArg (Value.int .i64) (own_3 (by assumption) (by assumption) (by assumption) (by omega)).symm, g4.tail.tail⟩
      | exact ⟨congrArg (Value.int .i64) (zG3 (by assumption) (by assumption) (by assumption) (by omega) (by omega) (i := i) (by omega) (.inl (by assumption))).symm, g4.tail.tail⟩
      | exact ⟨congrArg (Value.int .i64) (zG3 (by assumption) (by assumption) (by assumption) (by omega) (by omega) (i := i) (by omega) (.inr (by assumption))).symm, g4.tail.tail⟩
      | (have hil : i = b.hours.length := by omega
         subst hil
         exact ⟨congrArg (Value.int .i64) (own_0 (by assumption) (by assumption) (by assumption) (by omega) (by omega) ⟨hnz, hns⟩).symm, g4.tail.tail⟩)
   try simp only [zS] at gf
   refine w_y rfl rfl rfl (zAd (o := 5) (i := 5) underlying43 rfl sizeOf34 rfl rfl rfl) rfl ?_
   refine w_y rfl rfl rfl (zC0 hbw (zAj isAgg34 g4 rfl rfl (zAh (i := 0) (vs := [_]) rfl rfl))) rfl ?_
   refine w_y rfl rfl rfl (zA1 rfl rfl) rfl ?_
   refine w_y rfl rfl rfl (zBc underlying34 sizeOf3 rfl rfl rfl rfl (i := i) rfl hi3) rfl ?_
   refine w_y rfl rfl rfl (zAj isAgg3 g4.tail.tail rfl rfl hxw) rfl ?_
   refine zAs (zAp rfl rfl rfl) call15 rfl rfl rfl rfl (c15 _ _ _ g4) ?_
   rintro _ hD ⟨rfl, g7⟩
   refine w_y rfl rfl rfl (zDi rfl rfl) rfl ?_
   refine w_p (zBd (v := .bool _) rfl rfl rfl rfl) rfl (zAe (zAc (gj _ _ (zAy rfl rfl (fun gg => ?_) (fun gg => ?_)))))
   ·
    try simp only [zS] at gg
    refine zAf (fun hO gB => (zAa (zBg rfl rfl (zAe (zAc (gB _ _ (zA2 (zAt (zAk (zAk (zAt (zAk (zA9 (l := [.tmp 4]) (vs := [_]) rfl ⟨⟨rfl, (rfl : _ = Value.int _ _)⟩, trivial⟩ ?_)))))))))))))
    first
      | exact ⟨congrArg (Value.int .i64) (zEn (.inl (by assumption))).symm, g7.tail.tail⟩
      | exact ⟨congrArg (Value.int .i64) (zEn (.inr (.inl (by assumption)))).symm, g7.tail.tail⟩
      | exact ⟨congrArg (Value.int .i64) (zEn (.inr (.inr (by assumption)))).symm, g7.tail.tail⟩
      | exact ⟨congrArg (Value.int .i64) (own_3 (by assumption) (by assumption) (by assumption) (by omega)).symm, g7.tail.tail⟩
      | exact ⟨congrArg (Value.int .i64) (zG3 (by assumption) (by assumption) (by assumption) (by omega) (by omega) (i := i) (by omega) (.inl (by assumption))).symm, g7.tail.tail⟩
      | exact ⟨congrArg (Value.int .i64) (zG3 (by assumption) (by assumption) (by assumption) (by omega) (by omega) (i := i) (by omega) (.inr (by assumption))).symm, g7.tail.tail⟩
      | (have hil : i = b.hours.length := by omega
         subst hil
         exact ⟨congrArg (Value.int .i64) (own_0 (by assumption) (by assumption) (by assumption) (by omega) (by omega) ⟨hnz, hns⟩).symm, g7.tail.tail⟩)
   try simp only [zS] at gg
   refine zAv (zAl (zAc (gz _ _ (zAa (zBa rfl rfl (w_p (zBj rfl rfl rfl rfl (by omega) (by omega)) rfl (zBl rfl rfl (zAe (zAc (gw _ _ (nxI (c.zero.length - (i + 1)) (by omega) ?_)))))))))))
   exact ⟨i + 1, rfl, by omega, rfl, any_snoc hi2 hnz (by assumption), any_snoc hi3 hns (by assumption), g7⟩
  try simp only [zS] at ge
  refine zBq (zAo (zAo (zA8 (zAc (gu _ _ (zAf (fun hP gC => (zAa (zBg rfl rfl (zAe (zAc (gC _ _ (zA2 (zA9 (l := [.tmp 4]) (vs := [_]) rfl ⟨⟨rfl, (rfl : _ = Value.int _ _)⟩, trivial⟩ ?_))))))))))))))
  first
    | exact ⟨congrArg (Value.int .i64) (zEn (.inl (by assumption))).symm, hs.tail.tail⟩
    | exact ⟨congrArg (Value.int .i64) (zEn (.inr (.inl (by assumption)))).symm, hs.tail.tail⟩
    | exact ⟨congrArg (Value.int .i64) (zEn (.inr (.inr (by assumption)))).symm, hs.tail.tail⟩
    | exact ⟨congrArg (Value.int .i64) (own_3 (by assumption) (by assumption) (by assumption) (by omega)).symm, hs.tail.tail⟩
    | exact ⟨congrArg (Value.int .i64) (zG3 (by assumption) (by assumption) (by assumption) (by omega) (by omega) (i := i) (by omega) (.inl (by assumption))).symm, hs.tail.tail⟩
    | exact ⟨congrArg (Value.int .i64) (zG3 (by assumption) (by assumption) (by assumption) (by omega) (by omega) (i := i) (by omega) (.inr (by assumption))).symm, hs.tail.tail⟩
    | (have hil : i = b.hours.length := by omega
       subst hil
       exact ⟨congrArg (Value.int .i64) (own_0 (by assumption) (by assumption) (by assumption) (by omega) (by omega) ⟨hnz, hns⟩).symm, hs.tail.tail⟩)

theorem c10 {w0 w : World} {F : List (Nat × Obj)} (b : Board) (p : AtB) (hm : BIn w0 F b p)  (hs : St w0 w F) :
  Con Tryz.prog 10 [.agg (b.cells p).toArray] w fun v w' => v = .tuple #[.int .i64 (check b).1, .int .i64 (check b).2.1, .int .i64 (check b).2.2] ∧ St w0 w' F := by
  refine zAu (n := 77) func10 rfl rfl (zNl rfl) ?_
  have hlh := hm.lh
  have hlc := hm.lc
  refine zAf (fun K2 go => (zAa (zCa (v := .agg #[.int _ _, .slice _ _ _, .slice _ _ _]) (cs := [_,_,_]) zAb rfl rfl rfl hs (fun b3 w4 gj => ?_))))
  refine zBg rfl rfl (zBg rfl rfl (zBg rfl rfl (zAe (zAc (go _ _ (zAf (fun K7 gp => (zAf (fun K9 gq => (zAa (w_p (zAd (o := 0) (i := 0) underlying41 rfl sizeOf3 rfl rfl rfl) rfl ?_)))))))))))
  refine w_p (zAj isAgg3 gj rfl rfl (zAh (i := 0) (vs := [_]) rfl rfl)) rfl (zAs zAb call15 rfl rfl rfl rfl (c15 _ _ _ gj) ?_)
  rintro _ gZ ⟨rfl, g0⟩
  refine w_p (zDi rfl rfl) rfl (zAe (zAc (gq _ _ (zAy rfl rfl (fun g9 => ?_) (fun g9 => ?_)))))
  ·
   try simp only [zS] at g9
   refine zAf (fun hD gr => (zAa (zBg rfl rfl (zBg rfl rfl (zBg rfl rfl (zAe (zAc (gr _ _ (zA2 (zAk (zA9 (l := [.tmp 2, .tmp 3, .tmp 4]) (vs := [_,_,_]) rfl ⟨⟨rfl, (rfl : _ = Value.int _ _)⟩, ⟨rfl, (rfl : _ = Value.int _ _)⟩, ⟨rfl, (rfl : _ = Value.int _ _)⟩, trivial⟩ ?_)))))))))))
   first
     | contradiction
     | exact ⟨tup3 (chk_1 (by assumption)), g0.tail⟩
     | exact ⟨tup3 (zH6 (by assumption) (zC7 (by omega)) (by decide)), g0.tail⟩
     | (refine ⟨tup3 (zH6 (by assumption) ((zBn (by omega)).trans (hinv.trans (zBf hi2 (by assumption)))) (by assumption)), g0.tail⟩)
     | exact ⟨tup3 (zE9 (by assumption) (by rw [zBn (by omega), hhe]) (zC7 (by omega)) (by decide)), g0.tail⟩
     | (refine ⟨tup3 (zE9 (by assumption) (by rw [zBn (by omega), hhe]) ((zBn (by omega)).trans (hinv.trans ((zBf hi2 ?_).trans ?_))) ?_), g0.tail⟩
        · rw [zD7 (by assumption)]; assumption
        · rw [zD7 (by assumption)]
        · assumption)
     | (refine ⟨tup3 (zE9 (by assumption) (by rw [zBn (by omega), hhe]) ((zBn (by omega)).trans (hinv.trans ((zBf hi2 ?_).trans ?_))) ?_), g0.tail⟩
        · rw [zDh (by assumption)]; assumption
        · rw [zDh (by assumption)]
        · assumption)
     | exact ⟨tup3 (chk_0 (by assumption) (by rw [zBn (by omega), hhe]) (by rw [zBn (by omega), hinv.trans (zBo (by omega) _)])), g0.tail⟩
  try simp only [zS] at g9
  refine zAv (zAc (gp _ _ (zAf (fun hO gt => (zAf (fun hP gu => (zAa (w_p (zAd (o := 1) (i := 1) underlying41 rfl sizeOf38 rfl rfl rfl) rfl (w_p (zAj isAgg38 g0 rfl rfl (zAh (i := 0) (vs := [_]) rfl rfl)) rfl ?_)))))))))
  refine w_p (zBm underlying38 rfl rfl) rfl (w_p (zFa rfl rfl rfl rfl) rfl (zAe (zAc (gu _ _ (zAy rfl rfl (fun ga => ?_) (fun ga => ?_))))))
  ·
   try simp only [zS] at ga
   refine zAf (fun hX gv => (zAa (zBg rfl rfl (zBg rfl rfl (zBg rfl rfl (zAe (zAc (gv _ _ (zA2 (zAk (zA9 (l := [.tmp 2, .tmp 3, .tmp 4]) (vs := [_,_,_]) rfl ⟨⟨rfl, (rfl : _ = Value.int _ _)⟩, ⟨rfl, (rfl : _ = Value.int _ _)⟩, ⟨rfl, (rfl : _ = Value.int _ _)⟩, trivial⟩ ?_)))))))))))
   first
     | contradiction
     | exact ⟨tup3 (chk_1 (by assumption)), g0.tail⟩
     | exact ⟨tup3 (zH6 (by assumption) (zC7 (by omega)) (by decide)), g0.tail⟩
     | (refine ⟨tup3 (zH6 (by assumption) ((zBn (by omega)).trans (hinv.trans (zBf hi2 (by assumption)))) (by assumption)), g0.tail⟩)
     | exact ⟨tup3 (zE9 (by assumption) (by rw [zBn (by omega), hhe]) (zC7 (by omega)) (by decide)), g0.tail⟩
     | (refine ⟨tup3 (zE9 (by assumption) (by rw [zBn (by omega), hhe]) ((zBn (by omega)).trans (hinv.trans ((zBf hi2 ?_).trans ?_))) ?_), g0.tail⟩
        · rw [zD7 (by assumption)]; assumption
        · rw [zD7 (by assumption)]
        · assumption)
     | (refine ⟨tup3 (zE9 (by assumption) (by rw [zBn (by omega), hhe]) ((zBn (by omega)).trans (hinv.trans ((zBf hi2 ?_).trans ?_))) ?_), g0.tail⟩
        · rw [zDh (by assumption)]; assumption
        · rw [zDh (by assumption)]
        · assumption)
     | exact ⟨tup3 (chk_0 (by assumption) (by rw [zBn (by omega), hhe]) (by rw [zBn (by omega), hinv.trans (zBo (by omega) _)])), g0.tail⟩
  try simp only [zS] at ga
  refine zAv (zAc (gt _ _ (zAf (fun hY gw => (zAf (fun j0 gx => (zAa (zBg rfl rfl (zAe (zAc (gx _ _ (zAz ?_))))))))))))
  refine zB3 [2,3,4,5,6,18,19,20,21,22,23,24,25,26,27,28,29,30,31,32,33,34,35] [5] (fun k vs w => ∃ (i : Nat), vs = [.int .i64 i] ∧ i ≤ b.hours.length ∧ k = b.hours.length - i ∧ firstE (hourE b.holds) [] 0 b.hours = firstE (hourE b.holds) (b.hours.take i) i (b.hours.drop i) ∧ St w0 w ((b3, blk 41 (b.cells p)) :: F)) (b.hours.length) ?_ ?_
  ·
   exact ⟨0, rfl, by omega, by omega, rfl, g0⟩
  intro k vs μ j1 hI j2 gy
  obtain ⟨i, rfl, hia, rfl, hinv, hs⟩ := hI
  refine zAf (fun j3 gz => (zAf (fun j4 gA => (zAa (zBa rfl rfl (w_p (zAd (o := 1) (i := 1) underlying41 rfl sizeOf38 rfl rfl rfl) rfl (w_p (zAj isAgg38 hs rfl rfl (zAh (i := 0) (vs := [_]) rfl rfl)) rfl ?_)))))))
  refine w_p (zBm underlying38 rfl rfl) rfl (w_p (zCl rfl rfl rfl rfl) rfl (zAe (zAc (gA _ _ (zAy rfl rfl (fun gb => ?_) (fun gb => ?_))))))
  ·
   try simp only [zS] at gb
   refine zAv (zAc (gz _ _ (zAf (fun j5 gB => (zAz ?_)))))
   refine zAf (fun j6 gC => ?_)
   have hi2 : i < b.hours.length := by omega
   obtain ⟨bx, ox, hbx, hx⟩ := zHl hm.h hi2
   refine zCs [] [(0,1),(1,0),(2,1),(3,0),(4,0),(5,1),(6,2),(7,0)] zCg (zC8 (by kernel_rfl)) hs (fun j7 g7 => ?_)
   refine zBh rfl zAb rfl g7 (fun _ hq => (zA7 (vs := [_,_,_]) isAgg41 sizeOf41 hq rfl rfl (zAh (i := 0) (vs := [_,_,_]) rfl rfl))) ?_
   refine d_w rfl (fun _ => zAd (o := 1) (i := 1) underlying41 rfl sizeOf38 rfl rfl rfl) rfl ?_
   refine zBh rfl zAb rfl g7 (fun _ hq => (zC0 hbx (zAj isAgg38 hq rfl rfl (zAh (i := 0) (vs := [_]) rfl rfl)))) ?_
   refine d_w rfl (fun _ => zA1 rfl rfl) rfl ?_
   refine d_w rfl (fun _ => zBc underlying38 sizeOf48 rfl rfl rfl rfl (i := i) rfl hi2) rfl ?_
   refine zBh rfl zAb rfl g7 (fun _ hq => (zA7 (vs := [_,_,_]) isAgg48 sizeOf48 hq.tail rfl rfl hx)) ?_
   refine zC9 rfl ?_
   refine zAs zAb call35 rfl rfl rfl rfl (c35 b p (by assumption) b.hours[i] (b.hours.take i) g7) ?_
   rintro _ j8 ⟨rfl, g5⟩
   refine zAe (qn ⟨g5, ?_⟩)
   refine d_w rfl (fun _ => zD3 rfl rfl) rfl ?_
   refine zB0 ?_
   refine zAc (gC _ _ (zAf (fun j9 gD => (zAa (zBa rfl rfl (w_p (zCt rfl rfl rfl rfl) rfl (zAe (zAc (gD _ _ (zAy rfl rfl (fun gc => ?_) (fun gc => ?_)))))))))))
   ·
    try simp only [zS] at gc
    refine zAf (fun ja gE => (zAa (zBa rfl rfl (zBa rfl rfl (zBg rfl rfl (zBl rfl rfl (zBl rfl rfl (zAe (zAc (gE _ _ (zA2 (zAt (zAk (zAk (zAt (zAk (zA9 (l := [.tmp 2, .tmp 3, .tmp 4]) (vs := [_,_,_]) rfl ⟨⟨rfl, (rfl : _ = Value.int _ _)⟩, ⟨rfl, (rfl : _ = Value.int _ _)⟩, ⟨rfl, (rfl : _ = Value.int _ _)⟩, trivial⟩ ?_)))))))))))))))))
    first
      | contradiction
      | exact ⟨tup3 (chk_1 (by assumption)), g5.tail⟩
      | exact ⟨tup3 (zH6 (by assumption) (zC7 (by omega)) (by decide)), g5.tail⟩
      | (refine ⟨tup3 (zH6 (by assumption) ((zBn (by omega)).trans (hinv.trans (zBf hi2 (by assumption)))) (by assumption)), g5.tail⟩)
      | exact ⟨tup3 (zE9 (by assumption) (by rw [zBn (by omega), hhe]) (zC7 (by omega)) (by decide)), g5.tail⟩
      | (refine ⟨tup3 (zE9 (by assumption) (by rw [zBn (by omega), hhe]) ((zBn (by omega)).trans (hinv.trans ((zBf hi2 ?_).trans ?_))) ?_), g5.tail⟩
         · rw [zD7 (by assumption)]; assumption
         · rw [zD7 (by assumption)]
         · assumption)
      | (refine ⟨tup3 (zE9 (by assumption) (by rw [zBn (by omega), hhe]) ((zBn (by omega)).trans (hinv.trans ((zBf hi2 ?_).trans ?_))) ?_), g5.tail⟩
         · rw [zDh (by assumption)]; assumption
         · rw [zDh (by assumption)]
         · assumption)
      | exact ⟨tup3 (chk_0 (by assumption) (by rw [zBn (by omega), hhe]) (by rw [zBn (by omega), hinv.trans (zBo (by omega) _)])), g5.tail⟩
   try simp only [zS] at gc
   refine zAv (zAl (zAc (gB _ _ (zAa (zBa rfl rfl (w_p (zBj rfl rfl rfl rfl (by omega) (by omega)) rfl (zBl rfl rfl (zAe (zAc (gy _ _ (nxI (b.hours.length - (i + 1)) (by omega) ?_)))))))))))
   exact ⟨i + 1, rfl, by omega, rfl, hinv.trans (zBv hi2 (by assumption)), g5⟩
  try simp only [zS] at gb
  refine zBq (zAo (zAo (zA8 (zAc (gw _ _ (zAf (fun jb gF => (zAf (fun jc gG => ?_)))))))))
  have hhe : firstE (hourE b.holds) [] 0 b.hours = (0,0) := hinv.trans (zBo (by omega) _)
  clear hinv
  refine zAa (w_p (zAd (o := 2) (i := 2) underlying41 rfl sizeOf39 rfl rfl rfl) rfl (w_p (zAj isAgg39 hs rfl rfl (zAh (i := 0) (vs := [_]) rfl rfl)) rfl (w_p (zBm underlying39 rfl rfl) rfl (w_p (zFa rfl rfl rfl rfl) rfl ?_))))
  refine zAe (zAc (gG _ _ (zAy rfl rfl (fun gd => ?_) (fun gd => ?_))))
  ·
   try simp only [zS] at gd
   refine zAf (fun jd gH => (zAa (zBg rfl rfl (zBg rfl rfl (zBg rfl rfl (zAe (zAc (gH _ _ (zA2 (zAk (zA9 (l := [.tmp 2, .tmp 3, .tmp 4]) (vs := [_,_,_]) rfl ⟨⟨rfl, (rfl : _ = Value.int _ _)⟩, ⟨rfl, (rfl : _ = Value.int _ _)⟩, ⟨rfl, (rfl : _ = Value.int _ _)⟩, trivial⟩ ?_)))))))))))
   first
     | contradiction
     | exact ⟨tup3 (chk_1 (by assumption)), hs.tail⟩
     | exact ⟨tup3 (zH6 (by assumption) (zC7 (by omega)) (by decide)), hs.tail⟩
     | (refine ⟨tup3 (zH6 (by assumption) ((zBn (by omega)).trans (hinv.trans (zBf hi2 (by assumption)))) (by assumption)), hs.tail⟩)
     | exact ⟨tup3 (zE9 (by assumption) (by rw [zBn (by omega), hhe]) (zC7 (by omega)) (by decide)), hs.tail⟩
     | (refine ⟨tup3 (zE9 (by assumption) (by rw [zBn (by omega), hhe]) ((zBn (by omega)).trans (hinv.trans ((zBf hi2 ?_).trans ?_))) ?_), hs.tail⟩
        · rw [zD7 (by assumption)]; assumption
        · rw [zD7 (by assumption)]
        · assumption)
     | (refine ⟨tup3 (zE9 (by assumption) (by rw [zBn (by omega), hhe]) ((zBn (by omega)).trans (hinv.trans ((zBf hi2 ?_).trans ?_))) ?_), hs.tail⟩
        · rw [zDh (by assumption)]; assumption
        · rw [zDh (by assumption)]
        · assumption)
     | exact ⟨tup3 (chk_0 (by assumption) (by rw [zBn (by omega), hhe]) (by rw [zBn (by omega), hinv.trans (zBo (by omega) _)])), hs.tail⟩
  try simp only [zS] at gd
  refine zAv (zAc (gF _ _ (zAf (fun je gI => (zAa (zBg rfl rfl (zAe (zAc (gI _ _ (zAf (fun jf gJ => (zAf (fun jg gK => (zAa (zBg rfl rfl ?_)))))))))))))))
  refine zAe (zAc (gK _ _ (zAz ?_)))
  refine zB3 [2,3,4,7,8,9,40,41,42,43,44,45,46,47,48,49,50,51,52,53,54,55,56,57,58,59,60,61,62,63,64,65,66,67,68,69,70,71,72,73,74,75,76] [7,8] (fun k vs w => ∃ (i : Nat) (v : Value) (B : List (Nat × Obj)), vs = [v, .int .i64 i] ∧ i ≤ b.ctrs.length ∧ k = b.ctrs.length - i ∧ firstE (ctrE b.hours.length) [] 0 b.ctrs = firstE (ctrE b.hours.length) (b.ctrs.take i) i (b.ctrs.drop i) ∧ Rt.Own v 9 1 i (((b.ctrs.take i).map (·.name)).map Value.string) B ∧ St w0 w ((b3, blk 41 (b.cells p)) :: (B ++ F))) (b.ctrs.length) ?_ ?_
  ·
   exact ⟨0, _, [], rfl, by omega, by omega, rfl, zD4 9 1, hs⟩
  intro k vs μ jh hI ji gk
  clear hia
  obtain ⟨i, v, B, rfl, hia, rfl, hinv, hown, hs⟩ := hI
  refine zAf (fun jj gL => (zAf (fun jk gM => (zAa (zBa rfl rfl (w_p (zAd (o := 2) (i := 2) underlying41 rfl sizeOf39 rfl rfl rfl) rfl (w_p (zAj isAgg39 hs rfl rfl (zAh (i := 0) (vs := [_]) rfl rfl)) rfl ?_)))))))
  refine w_p (zBm underlying39 rfl rfl) rfl (w_p (zCl rfl rfl rfl rfl) rfl (zAe (zAc (gM _ _ (zAy rfl rfl (fun ge => ?_) (fun ge => ?_))))))
  ·
   try simp only [zS] at ge
   refine zAv (zAc (gL _ _ (zAf (fun jl gl => (zAz ?_)))))
   refine zAf (fun jm gN => ?_)
   have hi2 : i < b.ctrs.length := by omega
   have hn2 := knames_len hia
   obtain ⟨bx, ox, hbx, hx⟩ := zGt hm.c hi2
   obtain ⟨an, cn, rfl, hsn⟩ := zIl (w0 := w0) hown hn2 F
   have hnl : ((b.ctrs.take i).map (·.name)).length ≤ 1000000 := by omega
   refine zAa (w_p (zAd (o := 2) (i := 2) underlying41 rfl sizeOf39 rfl rfl rfl) rfl (w_p (zC0 hbx (zAj isAgg39 hs rfl rfl (zAh (i := 0) (vs := [_]) rfl rfl))) rfl (zBa rfl rfl (w_p (zBc underlying39 sizeOf43 rfl rfl rfl rfl (i := i) rfl hi2) rfl ?_))))
   refine w_p (zAd (o := 0) (i := 0) underlying43 rfl sizeOf9 rfl rfl rfl) rfl (w_p (zAj isAgg9 hs.tail.drop rfl rfl (show Ats _ _ _ _ [_] from Ats.part hx 0 1)) rfl (w_p (zAi (v := .slice _ _ _) rfl rfl) rfl (zAs zAb call16 rfl rfl rfl rfl ((c16 _ _ _ _ (hm.nm _ (List.getElem_mem hi2)) (by omega) hsn.cons hs).mono (fun v w2 h => (show v = .int .i64 (freshE b.ctrs[i].name ((b.ctrs.take i).map (·.name))) ∧ _ from h))) ?_)))
   rintro _ jn ⟨rfl, gf⟩
   refine zBl rfl rfl (zAe (zAc (gN _ _ (zAf (fun jo gO => (zAa (w_p (zAi (v := .slice _ _ _) rfl rfl) rfl (w_p (zAd (o := 2) (i := 2) underlying41 rfl sizeOf39 rfl rfl rfl) rfl ?_))))))))
   refine w_p (zC0 hbx (zAj isAgg39 gf rfl rfl (zAh (i := 0) (vs := [_]) rfl rfl))) rfl (zBa rfl rfl (w_p (zBc underlying39 sizeOf43 rfl rfl rfl rfl (i := i) rfl hi2) rfl (w_p (zAd (o := 0) (i := 0) underlying43 rfl sizeOf9 rfl rfl rfl) rfl ?_)))
   refine w_p (zAj isAgg9 gf.tail.drop rfl rfl (show Ats _ _ _ _ [_] from Ats.part hx 0 1)) rfl (zA0 (ps := [(0, _)]) (pv := [(0, .string _)]) (cs := [_]) zAb rfl rfl (fun w => Try_KS_fb4 _ w) gf (fun jp jq gP => ?_))
   refine zBu (X := (_ :: _ :: [])) (B := B) (rows := [[_]]) (sz := 1) (bytes := 16) zAb underlying60 Try_info9 rfl rfl rfl rfl rfl rfl rfl rfl rfl gP hown (zBp (i := 0) rfl (by simp) rfl) rfl (by simp) (by simp [Value.oneCell']) (by simp only [maxLen]; omega) (by omega) (fun gQ jr gR gm g4 => ?_)
   replace g4 := (show St _ _ (_ :: _ :: gR ++ (F)) from g4)
   refine w_p (zAm (v := gQ) rfl rfl) rfl (zAe (zAc (gO _ _ (zAf (fun js gn => (zAf (fun jt gT => (zAa (zBa rfl rfl (w_p (zBw rfl rfl rfl rfl) rfl ?_))))))))))
   refine zAe (zAc (gT _ _ (zAy rfl rfl (fun gg => ?_) (fun gg => ?_))))
   ·
    try simp only [zS] at gg
    refine zCs [] [(0,1),(1,0),(2,1),(3,0),(4,0),(5,1),(6,2),(7,0)] zCg (zC8 (by kernel_rfl)) g4 (fun ju g8 => ?_)
    refine zBh rfl zAb rfl g8 (fun _ hq => (zA7 (vs := [_,_,_]) isAgg41 sizeOf41 hq rfl rfl (zAh (i := 1) (vs := [_,_,_]) rfl rfl))) ?_
    refine d_w rfl (fun _ => zAd (o := 2) (i := 2) underlying41 rfl sizeOf39 rfl rfl rfl) rfl ?_
    refine zBh rfl zAb rfl g8 (fun _ hq => (zC0 hbx (zAj isAgg39 hq rfl rfl (zAh (i := 1) (vs := [_]) rfl rfl)))) ?_
    refine d_w rfl (fun _ => zA1 rfl rfl) rfl ?_
    refine d_w rfl (fun _ => zBc underlying39 sizeOf43 rfl rfl rfl rfl (i := i) rfl hi2) rfl ?_
    refine zBh rfl zAb rfl g8 (fun _ hq => (zA7 (vs := [_,_,_,_,_,_]) isAgg43 sizeOf43 hq.tail.tail.drop rfl rfl hx)) ?_
    refine zC9 rfl ?_
    refine zAs zAb call36 rfl rfl rfl rfl (c36 b p b.ctrs[i] (p.pc i) (by omega) (hm.lz i hi2).1 (hm.ls i hi2).1 (hm.z i hi2).app.cons.cons (hm.s i hi2).app.cons.cons g8) ?_
    rintro _ jv ⟨rfl, g6⟩
    refine zAe (qn ⟨g6, ?_⟩)
    refine d_w rfl (fun _ => zD3 rfl rfl) rfl ?_
    refine zB0 ?_
    refine zAc (gn _ _ (zAf (fun jw gU => (zAa (zBa rfl rfl (w_p (zCt rfl rfl rfl rfl) rfl (zAe (zAc (gU _ _ (zAy rfl rfl (fun gh => ?_) (fun gh => ?_)))))))))))
    ·
     try simp only [zS] at gh
     refine zAf (fun jx gV => (zAa (zBa rfl rfl (zBa rfl rfl (zBg rfl rfl (zBl rfl rfl (zBl rfl rfl (zAe (zAc (gV _ _ (zA2 (zAt (zAk (zAk (zAt (zAk (zA9 (l := [.tmp 2, .tmp 3, .tmp 4]) (vs := [_,_,_]) rfl ⟨⟨rfl, (rfl : _ = Value.int _ _)⟩, ⟨rfl, (rfl : _ = Value.int _ _)⟩, ⟨rfl, (rfl : _ = Value.int _ _)⟩, trivial⟩ ?_)))))))))))))))))
     first
       | contradiction
       | exact ⟨tup3 (chk_1 (by assumption)), g6.tail.tail.drop⟩
       | exact ⟨tup3 (zH6 (by assumption) (zC7 (by omega)) (by decide)), g6.tail.tail.drop⟩
       | (refine ⟨tup3 (zH6 (by assumption) ((zBn (by omega)).trans (hinv.trans (zBf hi2 (by assumption)))) (by assumption)), g6.tail.tail.drop⟩)
       | exact ⟨tup3 (zE9 (by assumption) (by rw [zBn (by omega), hhe]) (zC7 (by omega)) (by decide)), g6.tail.tail.drop⟩
       | (refine ⟨tup3 (zE9 (by assumption) (by rw [zBn (by omega), hhe]) ((zBn (by omega)).trans (hinv.trans ((zBf hi2 ?_).trans ?_))) ?_), g6.tail.tail.drop⟩
          · rw [zD7 (by assumption)]; assumption
          · rw [zD7 (by assumption)]
          · assumption)
       | (refine ⟨tup3 (zE9 (by assumption) (by rw [zBn (by omega), hhe]) ((zBn (by omega)).trans (hinv.trans ((zBf hi2 ?_).trans ?_))) ?_), g6.tail.tail.drop⟩
          · rw [zDh (by assumption)]; assumption
          · rw [zDh (by assumption)]
          · assumption)
       | exact ⟨tup3 (chk_0 (by assumption) (by rw [zBn (by omega), hhe]) (by rw [zBn (by omega), hinv.trans (zBo (by omega) _)])), g6.tail.tail.drop⟩
    try simp only [zS] at gh
    refine zAv (zAl (zAc (gl _ _ (zAa (zBa rfl rfl (w_p (zBj rfl rfl rfl rfl (by omega) (by omega)) rfl (zBl rfl rfl (zAe (zAc (gk _ _ (nxI (b.ctrs.length - (i + 1)) (by omega) ?_)))))))))))
    first
      | contradiction
      | exact ⟨i + 1, _,_, rfl, by omega, rfl, hinv.trans (zBv hi2 (by rw [zDh (by assumption)]; assumption)), by rw [← knames_snoc hi2]; exact gm, g6.tail⟩
   try simp only [zS] at gg
   refine zAv (zAc (gn _ _ (zAf (fun jy gW => (zAa (zBa rfl rfl (w_p (zCt rfl rfl rfl rfl) rfl (zAe (zAc (gW _ _ (zAy rfl rfl (fun gi => ?_) (fun gi => ?_))))))))))))
   ·
    try simp only [zS] at gi
    refine zAf (fun jz gX => (zAa (zBa rfl rfl (zBa rfl rfl (zBg rfl rfl (zBl rfl rfl (zBl rfl rfl (zAe (zAc (gX _ _ (zA2 (zAt (zAk (zAk (zAt (zAk (zA9 (l := [.tmp 2, .tmp 3, .tmp 4]) (vs := [_,_,_]) rfl ⟨⟨rfl, (rfl : _ = Value.int _ _)⟩, ⟨rfl, (rfl : _ = Value.int _ _)⟩, ⟨rfl, (rfl : _ = Value.int _ _)⟩, trivial⟩ ?_)))))))))))))))))
    first
      | contradiction
      | exact ⟨tup3 (chk_1 (by assumption)), g4.tail.tail.drop⟩
      | exact ⟨tup3 (zH6 (by assumption) (zC7 (by omega)) (by decide)), g4.tail.tail.drop⟩
      | (refine ⟨tup3 (zH6 (by assumption) ((zBn (by omega)).trans (hinv.trans (zBf hi2 (by assumption)))) (by assumption)), g4.tail.tail.drop⟩)
      | exact ⟨tup3 (zE9 (by assumption) (by rw [zBn (by omega), hhe]) (zC7 (by omega)) (by decide)), g4.tail.tail.drop⟩
      | (refine ⟨tup3 (zE9 (by assumption) (by rw [zBn (by omega), hhe]) ((zBn (by omega)).trans (hinv.trans ((zBf hi2 ?_).trans ?_))) ?_), g4.tail.tail.drop⟩
         · rw [zD7 (by assumption)]; assumption
         · rw [zD7 (by assumption)]
         · assumption)
      | (refine ⟨tup3 (zE9 (by assumption) (by rw [zBn (by omega), hhe]) ((zBn (by omega)).trans (hinv.trans ((zBf hi2 ?_).trans ?_))) ?_), g4.tail.tail.drop⟩
         · rw [zDh (by assumption)]; assumption
         · rw [zDh (by assumption)]
         · assumption)
      | exact ⟨tup3 (chk_0 (by assumption) (by rw [zBn (by omega), hhe]) (by rw [zBn (by omega), hinv.trans (zBo (by omega) _)])), g4.tail.tail.drop⟩
   try simp only [zS] at gi
   refine zAv (zAl (zAc (gl _ _ (zAa (zBa rfl rfl (w_p (zBj rfl rfl rfl rfl (by omega) (by omega)) rfl (zBl rfl rfl (zAe (zAc (gk _ _ (nxI (b.ctrs.length - (i + 1)) (by omega) ?_)))))))))))
   first
     | contradiction
     | exact ⟨i + 1, _,_, rfl, by omega, rfl, hinv.trans (zBv hi2 (by rw [zDh (by assumption)]; assumption)), by rw [← knames_snoc hi2]; exact gm, g4.tail⟩
  try simp only [zS] at ge
  refine zBq (zAo (zAo (zA8 (zAc (gJ _ _ (zAf (fun jA gY => (zAa (zBg rfl rfl (zBg rfl rfl (zBg rfl rfl (zAe (zAc (gY _ _ (zA2 (zA9 (l := [.tmp 2, .tmp 3, .tmp 4]) (vs := [_,_,_]) rfl ⟨⟨rfl, (rfl : _ = Value.int _ _)⟩, ⟨rfl, (rfl : _ = Value.int _ _)⟩, ⟨rfl, (rfl : _ = Value.int _ _)⟩, trivial⟩ ?_))))))))))))))))
  first
    | contradiction
    | exact ⟨tup3 (chk_1 (by assumption)), hs.tail.drop⟩
    | exact ⟨tup3 (zH6 (by assumption) (zC7 (by omega)) (by decide)), hs.tail.drop⟩
    | (refine ⟨tup3 (zH6 (by assumption) ((zBn (by omega)).trans (hinv.trans (zBf hi2 (by assumption)))) (by assumption)), hs.tail.drop⟩)
    | exact ⟨tup3 (zE9 (by assumption) (by rw [zBn (by omega), hhe]) (zC7 (by omega)) (by decide)), hs.tail.drop⟩
    | (refine ⟨tup3 (zE9 (by assumption) (by rw [zBn (by omega), hhe]) ((zBn (by omega)).trans (hinv.trans ((zBf hi2 ?_).trans ?_))) ?_), hs.tail.drop⟩
       · rw [zD7 (by assumption)]; assumption
       · rw [zD7 (by assumption)]
       · assumption)
    | (refine ⟨tup3 (zE9 (by assumption) (by rw [zBn (by omega), hhe]) ((zBn (by omega)).trans (hinv.trans ((zBf hi2 ?_).trans ?_))) ?_), hs.tail.drop⟩
       · rw [zDh (by assumption)]; assumption
       · rw [zDh (by assumption)]
       · assumption)
    | exact ⟨tup3 (chk_0 (by assumption) (by rw [zBn (by omega), hhe]) (by rw [zBn (by omega), hinv.trans (zBo (by omega) _)])), hs.tail.drop⟩

end Go.Proofs.Kb
