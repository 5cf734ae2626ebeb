/- Own texts of this claim, joined. No conditions. -/
import Derived.Maps.RangeRun
import Derived.Test.YtgndnnpadkoagaaRows
import Derived.OpenShut
import Derived.Test.YtgndnnpadkoagaaHChainOnea
import Derived.Test.YtgndnnpadkoagaaHChainOneb
/- The walking engine, part 18: maps as lists of keys and values; ranges over maps. No conditions. -/
set_option linter.unusedSimpArgs false
set_option linter.unusedVariables false
set_option linter.unusedSectionVars false
namespace Go.Rt
open Go.RowKit
section
variable {α : Type} [DecidableEq α]
/-- A map's entries: key, value, when it was laid. -/
def ents (kv : α → Value) (l : List (α × Value × Nat)) : List MapEntry := l.map fun q => { key := kv q.1, val := q.2.1, born := q.2.2 }
def idxA (a : α) : List (α × Value × Nat) → Nat → Option (Nat × Value)
  | [], _ => none
  | q :: l, i => if q.1 = a then some (i, q.2.1) else idxA a l (i + 1)
def getA (a : α) : List (α × Value × Nat) → Option Value
  | [] => none
  | q :: l => if q.1 = a then some q.2.1 else getA a l
def putA (a : α) (v : Value) (ck : Nat) : List (α × Value × Nat) → List (α × Value × Nat)
  | [] => [(a, v, ck)]
  | q :: l => if q.1 = a then (a, v, q.2.2) :: l else q :: putA a v ck l
/-- What a key's type has to be like. -/
structure KeyG (P : Program) (t : TypeId) (kv : α → Value) (ok : α → Prop) : Prop where
  chk : ∀ (em : Bool) (a : α) (w : World), ok a → (Instr.checkKey em 10000 t (kv a)).run P w = .ok () w
  find : ∀ (a : α) (l : List (α × Value × Nat)) (w : World), ok a → (∀ q ∈ l, ok q.1) → (Instr.findKey t (kv a) (ents kv l)).run P w = .ok (idxA a l 0) w
  stay : ∀ a : α, ok a → Instr.sameBits 10000 (kv a) (kv a) = true
theorem getA_none {a : α} : ∀ {l : List (α × Value × Nat)}, getA a l = none ↔ ∀ q ∈ l, q.1 ≠ a
  | [] => by simp [getA]
  | q :: l => by
    by_cases h : q.1 = a
    · simp [getA, h]
    · simp [getA, h, getA_none (l := l)]
theorem idxA_get {a : α} : ∀ (l : List (α × Value × Nat)) (i : Nat), (idxA a l i).map (·.2) = getA a l
  | [], _ => rfl
  | q :: l, i => by
    by_cases h : q.1 = a
    · simp [idxA, getA, h]
    · simp [idxA, getA, h, idxA_get l]
theorem idxA_off {a : α} : ∀ (l : List (α × Value × Nat)) (i : Nat), idxA a l (i + 1) = (idxA a l i).map fun p => (p.1 + 1, p.2)
  | [], _ => rfl
  | q :: l, i => by
    by_cases h : q.1 = a
    · simp [idxA, h]
    · simp [idxA, h, idxA_off l]
theorem putA_none {a : α} {v : Value} {ck : Nat} : ∀ {l : List (α × Value × Nat)}, idxA a l 0 = none → putA a v ck l = l ++ [(a, v, ck)]
  | [], _ => rfl
  | q :: l, h => by
    by_cases e : q.1 = a
    · simp [idxA, e] at h
    · simp only [idxA, if_neg e] at h
      rw [idxA_off] at h
      simp only [putA, if_neg e, List.cons_append]
      rw [putA_none (by simpa using h)]
theorem putA_some {kv : α → Value} {a : α} {v : Value} {ck : Nat} : ∀ {l : List (α × Value × Nat)} {i : Nat} {u : Value}, idxA a l 0 = some (i, u) → ents kv (putA a v ck l) = (ents kv l).modify i (fun e => { e with key := kv a, val := v })
  | [], _, _, h => by simp [idxA] at h
  | q :: l, i, u, h => by
    by_cases e : q.1 = a
    · simp only [idxA, if_pos e] at h
      injection h with h; injection h with h1 h2
      subst h1
      simp [putA, e, ents]
    · simp only [idxA, if_neg e] at h
      rw [idxA_off] at h
      cases hq : idxA a l 0 with
      | none => rw [hq] at h; cases h
      | some p =>
        rw [hq] at h
        injection h with h; injection h with h1 h2
        subst h1
        have ih := putA_some (kv := kv) (v := v) (ck := ck) (show idxA a l 0 = some (p.1, p.2) from hq)
        have e1 : ents kv (putA a v ck (q :: l)) = { key := kv q.1, val := q.2.1, born := q.2.2 } :: ents kv (putA a v ck l) := by simp [putA, e, ents]
        rw [e1, ih]
        show _ = (_ :: ents kv l).modify (p.1 + 1) _
        simp
theorem idxA_at {kv : α → Value} {a : α} : ∀ {l : List (α × Value × Nat)} {i : Nat} {u : Value}, idxA a l 0 = some (i, u) → ((ents kv l)[i]?).map (·.key) = some (kv a)
  | [], _, _, h => by simp [idxA] at h
  | q :: l, i, u, h => by
    by_cases e : q.1 = a
    · simp only [idxA, if_pos e] at h
      injection h with h; injection h with h1 h2
      subst h1
      simp [ents, e]
    · simp only [idxA, if_neg e] at h
      rw [idxA_off] at h
      cases hq : idxA a l 0 with
      | none => rw [hq] at h; cases h
      | some p =>
        rw [hq] at h
        injection h with h; injection h with h1 h2
        subst h1
        have ih := idxA_at (kv := kv) (show idxA a l 0 = some (p.1, p.2) from hq)
        show ((_ :: ents kv l)[p.1 + 1]?).map _ = _
        simpa using ih
theorem mem_putA {a : α} {v : Value} {ck : Nat} {q : α × Value × Nat} : ∀ {l : List (α × Value × Nat)}, q ∈ putA a v ck l → (q.1 = a ∧ q.2.1 = v) ∨ q ∈ l
  | [], h => by simp [putA] at h; subst h; exact .inl ⟨rfl, rfl⟩
  | x :: l, h => by
    by_cases e : x.1 = a
    · simp only [putA, if_pos e] at h
      cases h with
      | head => exact .inl ⟨rfl, rfl⟩
      | tail _ h => exact .inr (.tail _ h)
    · simp only [putA, if_neg e] at h
      cases h with
      | head => exact .inr (.head _)
      | tail _ h =>
        rcases mem_putA h with h | h
        · exact .inl h
        · exact .inr (.tail _ h)
theorem keys_putA {a : α} {v : Value} {ck : Nat} : ∀ {l : List (α × Value × Nat)} {b : α}, b ∈ (putA a v ck l).map (·.1) ↔ b = a ∨ b ∈ l.map (·.1)
  | [], b => by simp [putA]
  | x :: l, b => by
    by_cases e : x.1 = a
    · simp [putA, e]
    · simp only [putA, if_neg e, List.map_cons, List.mem_cons, keys_putA (l := l)]
      constructor
      · rintro (h | h | h)
        · exact .inr (.inl h)
        · exact .inl h
        · exact .inr (.inr h)
      · rintro (h | h | h)
        · exact .inr (.inl h)
        · exact .inl h
        · exact .inr (.inr h)
/-- A map's entries are laid one after the other, each key once. -/
structure MOk (l : List (α × Value × Nat)) (ck : Nat) : Prop where
  born : ∀ q ∈ l, q.2.2 < ck
  bnd : (l.map (·.2.2)).Nodup
  key : (l.map (·.1)).Nodup
theorem mok_nil : MOk ([] : List (α × Value × Nat)) 0 := ⟨by simp, by simp, by simp⟩
theorem borns_putA {a : α} {v : Value} {ck : Nat} : ∀ {l : List (α × Value × Nat)}, (idxA a l 0 ≠ none ∧ (putA a v ck l).map (·.2.2) = l.map (·.2.2) ∧ (putA a v ck l).map (·.1) = l.map (·.1)) ∨ (idxA a l 0 = none ∧ (putA a v ck l).map (·.2.2) = l.map (·.2.2) ++ [ck] ∧ (putA a v ck l).map (·.1) = l.map (·.1) ++ [a] ∧ a ∉ l.map (·.1))
  | [] => .inr ⟨rfl, rfl, rfl, by simp⟩
  | x :: l => by
    by_cases e : x.1 = a
    · left; simp [idxA, putA, e]
    · have hx : idxA a (x :: l) 0 = (idxA a l 0).map fun p => (p.1 + 1, p.2) := by simp only [idxA, if_neg e]; exact idxA_off l 0
      rcases borns_putA (a := a) (v := v) (ck := ck) (l := l) with ⟨h1, h2, h3⟩ | ⟨h1, h2, h3, h4⟩
      · left
        refine ⟨by rw [hx]; intro h; simp at h; exact h1 h, by simp [putA, e, h2], by simp [putA, e, h3]⟩
      · right
        refine ⟨by rw [hx, h1]; rfl, by simp [putA, e, h2], by simp [putA, e, h3], ?_⟩
        rw [List.map_cons, List.mem_cons, not_or]
        exact ⟨fun h => e h.symm, h4⟩
theorem MOk.put {l : List (α × Value × Nat)} {ck : Nat} (h : MOk l ck) (a : α) (v : Value) : MOk (putA a v ck l) (if idxA a l 0 = none then ck + 1 else ck) := by
  have hb : ∀ z ∈ l.map (·.2.2), z < ck := by intro z hz; obtain ⟨q, hq, rfl⟩ := List.mem_map.1 hz; exact h.born q hq
  rcases borns_putA (a := a) (v := v) (ck := ck) (l := l) with ⟨h1, h2, h3⟩ | ⟨h1, h2, h3, h4⟩
  · rw [if_neg h1]
    exact ⟨fun q hq => hb _ (by rw [← h2]; exact List.mem_map_of_mem hq), by rw [h2]; exact h.bnd, by rw [h3]; exact h.key⟩
  · rw [if_pos h1]
    refine ⟨fun q hq => ?_, ?_, ?_⟩
    · have : q.2.2 ∈ (putA a v ck l).map (·.2.2) := List.mem_map_of_mem (f := fun q : α × Value × Nat => q.2.2) hq
      rw [h2, List.mem_append, List.mem_singleton] at this
      rcases this with h5 | h5
      · have := hb _ h5; omega
      · omega
    · rw [h2, List.nodup_append]
      refine ⟨h.bnd, by simp, fun x hx y hy => ?_⟩
      rw [List.mem_singleton] at hy
      subst hy
      have := hb _ hx; omega
    · rw [h3, List.nodup_append]
      refine ⟨h.key, by simp, fun x hx y hy e => ?_⟩
      rw [List.mem_singleton] at hy
      subst hy e
      exact h4 hx
end
section
variable {r : Option Nat} {P : Program} {ops : Array Oper} {Q : Exit → Act → World → Prop} {rest : List Oper} {n : Nat} {ρ : Nat → Value} {ds : List Deferred} {w w0 : World} {L : List (Nat × Obj)}
  {d : Option Tmp} {ty : TypeId} {p : String} {e : Array Edge} {g : Option (Nat × Bool)} {α : Type} [DecidableEq α] {kv : α → Value} {ok : α → Prop}
theorem G_lookS {mt kt el : TypeId} {x y : Operand} {a : α} {l : List (α × Value × Nat)} {m i ck : Nat} {v : Value} (hU : P.underlying mt = some (.map kt el)) (hK : KeyG P kt kv ok) (hok : ok a) (hall : ∀ q ∈ l, ok q.1)
    (hst : St w0 w L) (ho : okO n x = true) (ho1 : okO n y = true) (hx : ev ρ x = .map (some m)) (hy : ev ρ y = kv a) (hi : L[i]? = some (m, .map (ents kv l).toArray ck)) (hf : getA a l = some v) (both : Bool) :
    Yd P (A n ρ ds) ⟨d, .lookup mt x y both, ty, p, e, g⟩ w (if both then .tuple #[v, .bool true] else v) := by
  have hc := hK.chk (ents kv l).toArray.isEmpty a w hok
  have hg := hK.find a l w hok hall
  have hv := idxA_get (a := a) l 0
  rw [hf] at hv
  cases hq : idxA a l 0 with
  | none => rw [hq] at hv; cases hv
  | some q =>
    rw [hq] at hg hv
    obtain ⟨j, u⟩ := q
    have hu : u = v := by simpa using hv
    subst hu
    unfold Yd
    have : (Instr.lookup mt (.map (some m)) (kv a) both).run P w = .ok (if both then .tuple #[u, .bool true] else u) w := by
      simp only [Instr.lookup, Sem.run_bind, run_underlying hU, Result.andThen_ok, hst.obj hi, Sem.run_pure, hc, hg]
    simp only [execOp, ev_eq ho, ev_eq ho1, hx, hy, Sem.run_bind, this]
    rfl
theorem G_lookN {mt kt el : TypeId} {x y : Operand} {a : α} {l : List (α × Value × Nat)} {m i ck : Nat} {z : Value} (hU : P.underlying mt = some (.map kt el)) (hK : KeyG P kt kv ok) (hok : ok a) (hall : ∀ q ∈ l, ok q.1)
    (hz : ∀ w, (zeroValue el).run P w = .ok z w) (hst : St w0 w L) (ho : okO n x = true) (ho1 : okO n y = true) (hx : ev ρ x = .map (some m)) (hy : ev ρ y = kv a) (hi : L[i]? = some (m, .map (ents kv l).toArray ck)) (hf : getA a l = none) (both : Bool) :
    Yd P (A n ρ ds) ⟨d, .lookup mt x y both, ty, p, e, g⟩ w (if both then .tuple #[z, .bool false] else z) := by
  have hc := hK.chk (ents kv l).toArray.isEmpty a w hok
  have hg := hK.find a l w hok hall
  have hv := idxA_get (a := a) l 0
  rw [hf] at hv
  cases hq : idxA a l 0 with
  | some q => rw [hq] at hv; cases hv
  | none =>
    rw [hq] at hg
    unfold Yd
    have : (Instr.lookup mt (.map (some m)) (kv a) both).run P w = .ok (if both then .tuple #[z, .bool false] else z) w := by
      simp only [Instr.lookup, Sem.run_bind, run_underlying hU, Result.andThen_ok, hst.obj hi, Sem.run_pure, hc, hg, hz]
    simp only [execOp, ev_eq ho, ev_eq ho1, hx, hy, Sem.run_bind, this]
    rfl
theorem G_look2S {mt kt el : TypeId} {x y : Operand} {a : α} {l : List (α × Value × Nat)} {m i ck : Nat} {v : Value} (hU : P.underlying mt = some (.map kt el)) (hK : KeyG P kt kv ok) (hok : ok a) (hall : ∀ q ∈ l, ok q.1)
    (hst : St w0 w L) (ho : okO n x = true) (ho1 : okO n y = true) (hx : ev ρ x = .map (some m)) (hy : ev ρ y = kv a) (hi : L[i]? = some (m, .map (ents kv l).toArray ck)) (hf : getA a l = some v) :
    Yd P (A n ρ ds) ⟨d, .lookup mt x y true, ty, p, e, g⟩ w (.tuple #[v, .bool true]) := G_lookS hU hK hok hall hst ho ho1 hx hy hi hf true
theorem G_look1S {mt kt el : TypeId} {x y : Operand} {a : α} {l : List (α × Value × Nat)} {m i ck : Nat} {v : Value} (hU : P.underlying mt = some (.map kt el)) (hK : KeyG P kt kv ok) (hok : ok a) (hall : ∀ q ∈ l, ok q.1)
    (hst : St w0 w L) (ho : okO n x = true) (ho1 : okO n y = true) (hx : ev ρ x = .map (some m)) (hy : ev ρ y = kv a) (hi : L[i]? = some (m, .map (ents kv l).toArray ck)) (hf : getA a l = some v) :
    Yd P (A n ρ ds) ⟨d, .lookup mt x y false, ty, p, e, g⟩ w v := G_lookS hU hK hok hall hst ho ho1 hx hy hi hf false
theorem G_look2N {mt kt el : TypeId} {x y : Operand} {a : α} {l : List (α × Value × Nat)} {m i ck : Nat} {z : Value} (hU : P.underlying mt = some (.map kt el)) (hK : KeyG P kt kv ok) (hok : ok a) (hall : ∀ q ∈ l, ok q.1)
    (hz : ∀ w, (zeroValue el).run P w = .ok z w) (hst : St w0 w L) (ho : okO n x = true) (ho1 : okO n y = true) (hx : ev ρ x = .map (some m)) (hy : ev ρ y = kv a) (hi : L[i]? = some (m, .map (ents kv l).toArray ck)) (hf : getA a l = none) :
    Yd P (A n ρ ds) ⟨d, .lookup mt x y true, ty, p, e, g⟩ w (.tuple #[z, .bool false]) := G_lookN hU hK hok hall hz hst ho ho1 hx hy hi hf true
theorem G_look1N {mt kt el : TypeId} {x y : Operand} {a : α} {l : List (α × Value × Nat)} {m i ck : Nat} {z : Value} (hU : P.underlying mt = some (.map kt el)) (hK : KeyG P kt kv ok) (hok : ok a) (hall : ∀ q ∈ l, ok q.1)
    (hz : ∀ w, (zeroValue el).run P w = .ok z w) (hst : St w0 w L) (ho : okO n x = true) (ho1 : okO n y = true) (hx : ev ρ x = .map (some m)) (hy : ev ρ y = kv a) (hi : L[i]? = some (m, .map (ents kv l).toArray ck)) (hf : getA a l = none) :
    Yd P (A n ρ ds) ⟨d, .lookup mt x y false, ty, p, e, g⟩ w z := G_lookN hU hK hok hall hz hst ho ho1 hx hy hi hf false
theorem G_put {mt kt el : TypeId} {x y z : Operand} {a : α} {v : Value} {l : List (α × Value × Nat)} {m i ck : Nat} (hw : Want ops (A n ρ ds) ⟨none, .mapUpdate mt x y z, ty, p, e, g⟩) (hU : P.underlying mt = some (.map kt el)) (hK : KeyG P kt kv ok) (hok : ok a) (hall : ∀ q ∈ l, ok q.1)
    (ho : okO n x = true) (ho1 : okO n y = true) (ho2 : okO n z = true) (hx : ev ρ x = .map (some m)) (hy : ev ρ y = kv a) (hz : ev ρ z = v) (hst : St w0 w L) (hi : L[i]? = some (m, .map (ents kv l).toArray ck))
    (hk2 : ∀ w', St w0 w' (L.set i (m, .map (ents kv (putA a v ck l)).toArray (if idxA a l 0 = none then ck + 1 else ck))) → WL r P ops Q rest (A n ρ ds) w') :
    WL r P ops Q (⟨none, .mapUpdate mt x y z, ty, p, e, g⟩ :: rest) (A n ρ ds) w := by
  refine w_unit hw (w' := w.putObj m (.map (ents kv (putA a v ck l)).toArray (if idxA a l 0 = none then ck + 1 else ck))) ?_ rfl (hk2 _ (hst.putObj hi _))
  have hc := hK.chk false a w hok
  have hg := hK.find a l w hok hall
  have hs : ∀ o, (setObj m o).run P w = .ok () (w.putObj m o) := by intro o; simp [setObj, Sem.run, hst.get hi, World.putObj]
  have : (Instr.mapUpdate mt (.map (some m)) (kv a) v).run P w = .ok () (w.putObj m (.map (ents kv (putA a v ck l)).toArray (if idxA a l 0 = none then ck + 1 else ck))) := by
    simp only [Instr.mapUpdate, Sem.run_bind, run_underlying hU, Result.andThen_ok, hst.obj hi, Sem.run_pure, hc, hg]
    cases hq : idxA a l 0 with
    | none =>
      simp only [hs, if_true]
      rw [putA_none hq]
      simp [ents]
    | some q =>
      obtain ⟨j, u⟩ := q
      have h1 := putA_some (kv := kv) (v := v) (ck := ck) hq
      have h2 := idxA_at (kv := kv) hq
      have h3 : (((ents kv l).toArray[j]?).map (·.key)).getD (kv a) = kv a := by rw [List.getElem?_toArray, h2]; rfl
      simp only [h3, Instr.keyThatStays, hK.stay a hok, if_true, Sem.run_bind, Sem.run_pure, Result.andThen_ok, hs]
      rw [h1, if_neg (by simp)]
      congr 3
      apply Array.toList_inj.1
      simp
  simp only [execOp, ev_eq ho, ev_eq ho1, ev_eq ho2, hx, hy, hz, Sem.run_bind, this]
  rfl
theorem G_insert {mt kt el : TypeId} {x y z : Operand} {a : α} {v : Value} {l : List (α × Value × Nat)} {m i ck : Nat} (hw : Want ops (A n ρ ds) ⟨none, .insert mt x y z, ty, p, e, g⟩) (hU : P.underlying mt = some (.map kt el)) (hK : KeyG P kt kv ok) (hok : ok a) (hall : ∀ q ∈ l, ok q.1)
    (ho : okO n x = true) (ho1 : okO n y = true) (ho2 : okO n z = true) (hx : ev ρ x = .map (some m)) (hy : ev ρ y = kv a) (hz : ev ρ z = v) (hst : St w0 w L) (hi : L[i]? = some (m, .map (ents kv l).toArray ck))
    (hk2 : ∀ w', St w0 w' (L.set i (m, .map (ents kv (putA a v ck l)).toArray (if idxA a l 0 = none then ck + 1 else ck))) → WL r P ops Q rest (A n ρ ds) w') :
    WL r P ops Q (⟨none, .insert mt x y z, ty, p, e, g⟩ :: rest) (A n ρ ds) w := by
  refine w_unit hw (w' := w.putObj m (.map (ents kv (putA a v ck l)).toArray (if idxA a l 0 = none then ck + 1 else ck))) ?_ rfl (hk2 _ (hst.putObj hi _))
  have hc := hK.chk false a w hok
  have hg := hK.find a l w hok hall
  have hs : ∀ o, (setObj m o).run P w = .ok () (w.putObj m o) := by intro o; simp [setObj, Sem.run, hst.get hi, World.putObj]
  have : (Instr.mapUpdate mt (.map (some m)) (kv a) v).run P w = .ok () (w.putObj m (.map (ents kv (putA a v ck l)).toArray (if idxA a l 0 = none then ck + 1 else ck))) := by
    simp only [Instr.mapUpdate, Sem.run_bind, run_underlying hU, Result.andThen_ok, hst.obj hi, Sem.run_pure, hc, hg]
    cases hq : idxA a l 0 with
    | none =>
      simp only [hs, if_true]
      rw [putA_none hq]
      simp [ents]
    | some q =>
      obtain ⟨j, u⟩ := q
      have h1 := putA_some (kv := kv) (v := v) (ck := ck) hq
      have h2 := idxA_at (kv := kv) hq
      have h3 : (((ents kv l).toArray[j]?).map (·.key)).getD (kv a) = kv a := by rw [List.getElem?_toArray, h2]; rfl
      simp only [h3, Instr.keyThatStays, hK.stay a hok, if_true, Sem.run_bind, Sem.run_pure, Result.andThen_ok, hs]
      rw [h1, if_neg (by simp)]
      congr 3
      apply Array.toList_inj.1
      simp
  simp only [execOp, ev_eq ho, ev_eq ho1, ev_eq ho2, hx, hy, hz, Sem.run_bind, this]
  rfl
theorem w_rangeMap {d : Nat} {t kt el : TypeId} {x : Operand} {m i : Nat} {es : Array MapEntry} {ck : Nat} (hw : Want ops (A n ρ ds) ⟨some d, .range t x, ty, p, e, g⟩) (hU : P.underlying t = some (.map kt el)) (ho : okO n x = true) (hx : ev ρ x = .map (some m)) (hst : St w0 w L) (hi : L[i]? = some (m, .map es ck))
    (hk : ∀ b w', St w0 w' ((b, .mapIter (some m) ck #[] ck) :: L) → WL r P ops Q rest (A n (upd ρ d (.pointer (some ⟨b, 0, none⟩))) ds) w') :
    WL r P ops Q (⟨some d, .range t x, ty, p, e, g⟩ :: rest) (A n ρ ds) w := by
  refine w_val (v := .pointer (some ⟨w.heap.size, 0, none⟩)) (w' := w.alloc (.mapIter (some m) ck #[] ck)) hw ?_ rfl (hk _ _ (hst.alloc _))
  simp [execOp, Instr.range, ev_eq ho, hx, Sem.run_bind, run_underlying hU, Result.andThen, hst.obj hi]
/-- One more entry, in whatever order, or none is left. -/
theorem w_nextMap {d : Nat} {x : Operand} {m i j b since last ck : Nat} {seen : Array Nat} {l : List (α × Value × Nat)} (hw : Want ops (A n ρ ds) ⟨some d, .next x false, ty, p, e, g⟩) (ho : okO n x = true) (hx : ev ρ x = .pointer (some ⟨b, 0, none⟩)) (hst : St w0 w L)
    (hi : L[i]? = some (b, .mapIter (some m) since seen last)) (hj : L[j]? = some (m, .map (ents kv l).toArray ck)) (hold : ∀ q ∈ l, q.2.2 < since) (hsc : since ≤ last)
    (hk1 : ∀ q ∈ l, q.2.2 ∉ seen.toList → ∀ w', St w0 w' (L.set i (b, .mapIter (some m) since (seen.push q.2.2) ck)) → WL r P ops Q rest (A n (upd ρ d (.tuple #[.bool true, kv q.1, q.2.1])) ds) w')
    (hk2 : (∀ q ∈ l, q.2.2 ∈ seen.toList) → WL r P ops Q rest (A n (upd ρ d (.tuple #[.bool false])) ds) w) :
    WL r P ops Q (⟨some d, .next x false, ty, p, e, g⟩ :: rest) (A n ρ ds) w := by
  have h := run_next_at (P := P) w ty b m since last seen (ents kv l).toArray ck (hst.get hi) (hst.get hj) (fun x hx => by
    simp only [ents, List.mem_map] at hx
    obtain ⟨q, hq, rfl⟩ := hx
    exact hold q hq) hsc
  rcases h with ⟨h1, h2⟩ | ⟨e1, he, w1, hw1, h2⟩
  · refine w_val (v := .tuple #[.bool false]) (w' := w) hw ?_ rfl (hk2 fun q hq => ?_)
    · simp only [execOp, ev_eq ho, hx, Sem.run_bind, h2]; rfl
    · refine Decidable.byContradiction fun hn => ?_
      have hm : ({ key := kv q.1, val := q.2.1, born := q.2.2 } : MapEntry) ∈ leftOf (ents kv l).toArray seen := by
        unfold leftOf
        rw [Array.mem_filter]
        refine ⟨by simp [ents]; exact ⟨q.1, q.2.1, q.2.2, hq, rfl, rfl, rfl⟩, by simpa using hn⟩
      have := Array.size_pos_of_mem hm
      omega
  · have he2 : e1 ∈ (leftOf (ents kv l).toArray seen) := by simpa using he
    unfold leftOf at he2
    rw [Array.mem_filter] at he2
    obtain ⟨q, hq, rfl⟩ : ∃ q ∈ l, ({ key := kv q.1, val := q.2.1, born := q.2.2 } : MapEntry) = e1 := by
      have := he2.1
      simp only [ents, List.mem_toArray, List.mem_map] at this
      exact this
    have hst1 : St w0 w1 L := by rcases hw1 with rfl | rfl; exact hst; exact hst.drew
    refine w_val (v := .tuple #[.bool true, kv q.1, q.2.1]) (w' := w1.putObj b (.mapIter (some m) since (seen.push q.2.2) ck)) hw ?_ rfl (hk1 q hq (by simpa using he2.2) _ (hst1.putObj hi _))
    simp only [execOp, ev_eq ho, hx, Sem.run_bind, h2]; rfl
theorem y_entryG {x : Operand} {m i j b since ck : Nat} {seen : Array Nat} {l : List (α × Value × Nat)} {q : α × Value × Nat} (ho : okO n x = true) (hx : ev ρ x = .pointer (some ⟨b, 0, none⟩)) (hst : St w0 w L)
    (hi : L[i]? = some (b, .mapIter (some m) since (seen.push q.2.2) ck)) (hj : L[j]? = some (m, .map (ents kv l).toArray ck)) (hq : q ∈ l) (hn : (l.map (·.2.2)).Nodup) :
    Yd P (A n ρ ds) ⟨d, .entry x, ty, p, e, g⟩ w (.tuple #[kv q.1, q.2.1]) := by
  have hb : ((ents kv l).toArray.toList.map (·.born)) = l.map (·.2.2) := by simp [ents]
  have h := run_entry_at (P := P) w b m since seen (ents kv l).toArray ck { key := kv q.1, val := q.2.1, born := q.2.2 } (hst.get hi) (hst.get hj) (by simp [ents]; exact ⟨q.1, q.2.1, q.2.2, hq, rfl, rfl, rfl⟩) (by rw [hb]; exact hn)
  unfold Yd
  simp only [execOp, ev_eq ho, hx, Sem.run_bind, h]; rfl
theorem y_neg {t : TypeId} {x : Operand} {a : Int} (ho : okO n x = true) (hx : ev ρ x = .int .i64 a) (h0 : -9223372036854775807 ≤ a) (h1 : a ≤ 9223372036854775807) : Yd P (A n ρ ds) ⟨d, .unOp .neg t x, ty, p, e, g⟩ w (.int .i64 (-a)) := by
  have hw : IntKind.i64.wrap (-a) = -a := wrap_in (by omega) (by omega)
  simp [Yd, execOp, ev_eq ho, hx, Sem.run_bind, Op.unary, Op.intArith, Result.andThen, hw]
end
theorem idx_findNow {t : TypeId} {u : TypeDesc} (hu : ∃ k, u = .int k) (z : Int) : ∀ (l : List (Int × Value × Nat)) (i : Nat), Instr.findNow u (.int .i64 z) (ents (fun z : Int => Value.int .i64 z) l) i = some (idxA z l i)
  | [], i => rfl
  | q :: l, i => by
    obtain ⟨k, rfl⟩ := hu
    have h1 : Instr.sameNow (.int k) (.int .i64 z) (.int .i64 q.1) = some (z == q.1) := by simp [Instr.sameNow]
    show Instr.findNow (.int k) (.int .i64 z) (_ :: ents _ l) i = _
    by_cases e : q.1 = z
    · subst e
      simp [Instr.findNow, h1, idxA]
    · have h2 : (z == q.1) = false := by simpa using fun h => e h.symm
      simp only [Instr.findNow, h1, h2, idxA, if_neg e]
      exact idx_findNow (t := t) ⟨k, rfl⟩ z l (i + 1)
/-- Keys that are ints. -/
theorem keyG_int {P : Program} {t : TypeId} (hu : P.underlying t = some (.int .i64)) : KeyG P t (fun z : Int => Value.int .i64 z) (fun _ => True) where
  chk := fun em a w _ => by
    rw [show (10000 : Nat) = 9999 + 1 from rfl, Instr.checkKey]
    simp only [Sem.run_bind, run_underlying hu, Result.andThen_ok]
    rfl
  find := fun a l w _ _ => by
    simp only [Instr.findKey, Sem.run_bind, run_underlying hu, Result.andThen_ok, idx_findNow (t := t) ⟨_, rfl⟩ a l 0]
    rfl
  stay := fun a _ => by simp [Instr.sameBits]
/-- Keys that are arrays of ints, or structs of ints. -/
theorem keyG_ia {P : Program} {t : TypeId} {k : Nat} (hK : KeyTy P t k) : KeyG P t (fun l : List Int => ia l) (fun l => l.length = k) where
  chk := fun em a w h => hK.chk em a w h
  find := fun a l w h hall => by
    obtain ⟨u, hu, hn, h0⟩ := hK.desc
    have key : ∀ (l : List (List Int × Value × Nat)) (i : Nat), (∀ q ∈ l, q.1.length = k) → (Instr.findAsking t (ia a) (ents (fun l : List Int => ia l) l) i).run P w = .ok (idxA a l i) w := by
      intro l
      induction l with
      | nil => intro i _; simp [Instr.findAsking, ents, idxA]
      | cons q l ih =>
        intro i hq
        have h1 := hK.eq a q.1 w h (hq q (.head _))
        show (Instr.findAsking t (ia a) (_ :: ents _ l) i).run P w = _
        by_cases e : q.1 = a
        · rw [decide_eq_true e.symm] at h1
          simp only [Instr.findAsking, Sem.run_bind, h1, Result.andThen_ok, idxA, if_pos e]
          rfl
        · rw [decide_eq_false (fun z => e z.symm)] at h1
          simp only [Instr.findAsking, Sem.run_bind, h1, Result.andThen_ok, idxA, if_neg e]
          exact ih (i + 1) fun x hx => hq x (.tail _ hx)
    cases l with
    | nil => exact h0 a w
    | cons q l =>
      have h1 := hn a { key := ia q.1, val := q.2.1, born := q.2.2 } (ents (fun l : List Int => ia l) l)
      have h2 := key (q :: l) 0 hall
      have h3 : ents (fun l : List Int => ia l) (q :: l) = { key := ia q.1, val := q.2.1, born := q.2.2 } :: ents (fun l : List Int => ia l) l := rfl
      rw [h3] at h2 ⊢
      simp only [Instr.findKey, Sem.run_bind, run_underlying hu, Result.andThen_ok, h1]
      exact h2
  stay := fun a _ => by
    show Instr.sameBits (9999 + 1) (.agg (iv a).toArray) (.agg (iv a).toArray) = true
    have : ∀ l : List Int, ((iv l).zip (iv l)).all (fun x => Instr.sameBits 9999 x.1 x.2) = true := by
      intro l
      induction l with
      | nil => rfl
      | cons z l ih => simp only [iv, List.map_cons, List.zip_cons_cons, List.all_cons]; rw [show Instr.sameBits 9999 (.int .i64 z) (.int .i64 z) = true by simp [Instr.sameBits]]; exact ih
    simp [Instr.sameBits]
    simpa using this a
end Go.Rt
/- The walking engine, part 19: structs of two ints and a bool compared; slices of bools that are made. No conditions. -/
set_option linter.unusedSimpArgs false
set_option linter.unusedVariables false
namespace Go.Rt
open Go.RowKit
variable {r : Option Nat} {P : Program} {ops : Array Oper} {Q : Exit → Act → World → Prop} {rest : List Oper} {n : Nat} {ρ : Nat → Value} {ds : List Deferred} {w w0 : World} {L : List (Nat × Obj)}
  {d : Option Tmp} {ty : TypeId} {p : String} {e : Array Edge} {g : Option (Nat × Bool)}
theorem run_part_bool {t : TypeId} (h : P.underlying t = some .bool) {xs : Array Value} {i : Nat} {v : Value} (hi : xs[i]? = some v) : (part t xs i).run P w = .ok v w := by
  simp [part, isAgg, Sem.run_bind, run_underlying h, hi, Result.andThen]
/-- A struct of two ints and a bool. -/
structure IIB (P : Program) (t : TypeId) (f0 f1 f2 : Field) : Prop where
  u : P.underlying t = some (.struct #[f0, f1, f2])
  s : P.stoodInHeld t = false
  g : P.eqGuardType P.depth t = false
  n0 : f0.name ≠ "_" ∧ f0.offset = 0 ∧ P.underlying f0.type = some (.int .i64)
  n1 : f1.name ≠ "_" ∧ f1.offset = 1 ∧ P.underlying f1.type = some (.int .i64)
  n2 : f2.name ≠ "_" ∧ f2.offset = 2 ∧ P.underlying f2.type = some .bool
theorem y_eqIIB {t t2 : TypeId} {f0 f1 f2 : Field} {x y : Operand} {a b c d' : Int} {u v : Bool} (hT : IIB P t f0 f1 f2) (ho : okO n x = true) (ho1 : okO n y = true) (hx : ev ρ x = .agg #[.int .i64 a, .int .i64 b, .bool u]) (hy : ev ρ y = .agg #[.int .i64 c, .int .i64 d', .bool v]) :
    Yd P (A n ρ ds) ⟨d, .binOp .eql t x y t2, ty, p, e, g⟩ w (.bool (decide (a = c ∧ b = d' ∧ u = v))) := by
  have hfs : P.fieldsOf t = #[f0, f1, f2] := by simp [Program.fieldsOf, hT.u]
  have h1 : (Op.equalIn (9998 + 2) t (.agg #[.int .i64 a, .int .i64 b, .bool u]) (.agg #[.int .i64 c, .int .i64 d', .bool v])).run P w = .ok (decide (a = c ∧ b = d' ∧ u = v)) w := by
    rw [run_equalIn_struct w (9998 + 1) t _ _ (by rw [hfs]; exact hT.u) hT.s, hfs]
    obtain ⟨n0, o0, u0⟩ := hT.n0
    obtain ⟨n1, o1, u1⟩ := hT.n1
    obtain ⟨n2, o2, u2⟩ := hT.n2
    have k0 : ∀ x y : Int, (Op.equalIn (9998 + 1) f0.type (.int .i64 x) (.int .i64 y)).run P w = .ok (x == y) w := fun x y => run_equalIn_int w 9998 f0.type .i64 .i64 _ _ u0
    have k1 : ∀ x y : Int, (Op.equalIn (9998 + 1) f1.type (.int .i64 x) (.int .i64 y)).run P w = .ok (x == y) w := fun x y => run_equalIn_int w 9998 f1.type .i64 .i64 _ _ u1
    have k2 : (Op.equalIn (9998 + 1) f2.type (.bool u) (.bool v)).run P w = .ok (u == v) w := by
      rw [Op.equalIn]
      simp only [Sem.run_bind, run_underlying u2, Result.andThen_ok]
      rfl
    have p0 : ∀ (x y : Int) (z : Bool), (part f0.type #[.int .i64 x, .int .i64 y, .bool z] 0).run P w = .ok (.int .i64 x) w := fun x y z => run_part_int u0 rfl
    have p1 : ∀ (x y : Int) (z : Bool), (part f1.type #[.int .i64 x, .int .i64 y, .bool z] 1).run P w = .ok (.int .i64 y) w := fun x y z => run_part_int u1 rfl
    have p2 : ∀ (x y : Int) (z : Bool), (part f2.type #[.int .i64 x, .int .i64 y, .bool z] 2).run P w = .ok (.bool z) w := fun x y z => run_part_bool u2 rfl
    simp only [Op.eqFields, n0, n1, n2, o0, o1, o2, ne_eq, not_false_eq_true, if_true, Sem.run_bind, p0, p1, p2, k0, k1, k2, Result.andThen_ok]
    by_cases e0 : a = c
    · subst e0
      rw [beq_self_eq_true]
      simp only [Bool.not_true, Bool.false_eq_true, if_false, true_and, Sem.run_bind, p1, k1, Result.andThen_ok]
      by_cases e1 : b = d'
      · subst e1
        rw [beq_self_eq_true]
        simp only [Bool.not_true, Bool.false_eq_true, if_false, true_and, Sem.run_bind, k2, p2, Result.andThen_ok]
        cases u <;> cases v <;> simp [Sem.run_pure, Op.eqFields]
      · rw [beq_false_of_ne e1]
        simp [e1, Sem.run_pure]
    · rw [beq_false_of_ne e0]
      simp [e0, Sem.run_pure]
  have h2 := run_eqGuard_flat (P := P) (w := w) (op := .eql) (x := x) (y := y) (a := #[.int .i64 a, .int .i64 b, .bool u]) (b := #[.int .i64 c, .int .i64 d', .bool v]) hT.g
  unfold Yd
  simp only [execOp, ev_eq ho, ev_eq ho1, hx, hy, Sem.run_bind]
  have h3 : (binOp .eql t (.agg #[.int .i64 a, .int .i64 b, .bool u]) (.agg #[.int .i64 c, .int .i64 d', .bool v])).run P w = .ok (.bool (decide (a = c ∧ b = d' ∧ u = v))) w := by
    rw [run_eql_struct, h1]
    rfl
  rw [h2]
  simp only [Result.andThen_ok]
  rw [h3]
  rfl
/-! ### Slices of bools -/
def bvs (l : List Bool) : List Value := l.map Value.bool
end Go.Rt
/- Walks of this seat, printed by gen.py over the engine: what each function returns, in whatever world. No conditions but those of each contract. -/
set_option linter.unusedVariables false
set_option linter.unusedSimpArgs false
set_option maxRecDepth 20000
namespace Go.Proofs
open Go.Rt Go.Rt.Ch
open Go.Rt.Ha (firstE firstE_step firstE_stop firstE_end failE nameE felt spanL upto span_mem listL fewest fewTo bit)
attribute [local irreducible] WL WC Con Yd At Ats Sl Agree DW
theorem Try_info3 : Try.prog.info? 3 = some Try.t3 := by kernel_rfl
theorem Try_C_fb1 (x0 : Int) (w : World) : (Instr.buildSlice 39 1 [(0, .int .i64 x0)].toArray).run Try.prog w = .ok (.slice (some ⟨w.heap.size, 0, none⟩) 1 1) (w.alloc (Go.Rt.blk 3 [.int .i64 x0])) := by kernel_rfl
theorem Try_C_fb2 (x0 : Int) (x1 : Int) (w : World) : (Instr.buildSlice 39 2 [(0, .int .i64 x0), (1, .int .i64 x1)].toArray).run Try.prog w = .ok (.slice (some ⟨w.heap.size, 0, none⟩) 2 2) (w.alloc (Go.Rt.blk 3 [.int .i64 x0, .int .i64 x1])) := by kernel_rfl
theorem sl_hrows {w0 : World} {F : List (Nat × Obj)} {a : Option Addr} {l : List Hour} {i : Nat} (h : Sl w0 F a 3 (hrows l)) (hi : i < l.length) : ∃ b off, a = some ⟨b, off, none⟩ ∧ Ats w0 F b (off + i * 3) l[i].cells := by
  obtain ⟨b, off, ha, _, hat⟩ := h.at (i := i) (row := l[i].cells) (by simp [hrows, hi])
  exact ⟨b, off, ha, hat⟩
theorem krows_at {l : List Ctr} {q : Nat → AtC} {i : Nat} (hi : i < l.length) : (krows l q)[i]? = some (l[i].cells (q i)) := by simp [krows, hi]
theorem krows_len (l : List Ctr) (q : Nat → AtC) : (krows l q).length = l.length := by simp [krows]
theorem krows_row (l : List Ctr) (q : Nat → AtC) : ∀ row ∈ krows l q, row.length = 6 := by
  intro row h
  obtain ⟨i, hi, rfl⟩ := List.getElem_of_mem h
  simp [krows, Ctr.cells]
theorem sl_krows {w0 : World} {F : List (Nat × Obj)} {a : Option Addr} {l : List Ctr} {q : Nat → AtC} {i : Nat} (h : Sl w0 F a 6 (krows l q)) (hi : i < l.length) : ∃ b off, a = some ⟨b, off, none⟩ ∧ Ats w0 F b (off + i * 6) (l[i].cells (q i)) := by
  obtain ⟨b, off, ha, _, hat⟩ := h.at (i := i) (row := l[i].cells (q i)) (krows_at hi)
  exact ⟨b, off, ha, hat⟩
/-- What is known of a board that comes in. -/
structure BIn (w0 : World) (F : List (Nat × Obj)) (b : Board) (p : AtB) : Prop where
  h : Sl w0 F p.ah 3 (hrows b.hours)
  c : Sl w0 F p.ac 6 (krows b.ctrs p.pc)
  z : ∀ i (hi : i < b.ctrs.length), Sl w0 F (p.pc i).az 1 (b.ctrs[i].zero.map fun x => [Value.int .i64 x])
  s : ∀ i (hi : i < b.ctrs.length), Sl w0 F (p.pc i).as 1 (b.ctrs[i].shown.map fun x => [Value.int .i64 x])
  lh : b.hours.length ≤ 9223372036854775807
  lc : b.ctrs.length ≤ 9223372036854775807
  ch : b.hours.length ≤ p.ch
  cc : b.ctrs.length ≤ p.cc
  lz : ∀ i (hi : i < b.ctrs.length), b.ctrs[i].zero.length ≤ 9223372036854775807 ∧ b.ctrs[i].zero.length ≤ (p.pc i).cz
  ls : ∀ i (hi : i < b.ctrs.length), b.ctrs[i].shown.length ≤ 9223372036854775807 ∧ b.ctrs[i].shown.length ≤ (p.pc i).cs
  nm : ∀ x ∈ b.ctrs, x.name.size ≤ 9223372036854775807
theorem BIn.mono {w0 : World} {F F' : List (Nat × Obj)} {b : Board} {p : AtB} (h : BIn w0 F b p) (hs : ∀ w, St w0 w F' → St w0 w F) : BIn w0 F' b p := ⟨h.h.mono hs, h.c.mono hs, fun i hi => (h.z i hi).mono hs, fun i hi => (h.s i hi).mono hs, h.lh, h.lc, h.ch, h.cc, h.lz, h.ls, h.nm⟩
theorem BIn.cons {w0 : World} {F : List (Nat × Obj)} {x : Nat × Obj} {b : Board} {p : AtB} (h : BIn w0 F b p) : BIn w0 (x :: F) b p := h.mono fun _ h => h.tail
theorem BIn.app {w0 : World} {F B : List (Nat × Obj)} {b : Board} {p : AtB} (h : BIn w0 F b p) : BIn w0 (B ++ F) b p := h.mono fun _ h => h.drop
theorem tup3 {x : Int × Int × Int} {a b c : Int} (h : x = (a, b, c)) : Value.tuple #[.int .i64 a, .int .i64 b, .int .i64 c] = .tuple #[.int .i64 x.1, .int .i64 x.2.1, .int .i64 x.2.2] := by subst h; rfl
theorem out_nat (k : Int) (n : Nat) : out 0 k (n : Int) = decide (k < (n : Int)) := by unfold out; rw [Bool.eq_iff_iff]; simp; intro h; omega
theorem yd_cast {P : Program} {a : Act} {o : Oper} {w : World} {k : IntKind} {z z' : Int} (h : z = z') (hy : Yd P a o w (.int k z)) : Yd P a o w (.int k z') := h ▸ hy
theorem iv1 {a b : Int} (h : a = b) : [Value.int .i64 a] = [Value.int .i64 b] := by rw [h]
theorem iv2 {a b c d : Int} (h : a = b) (h2 : c = d) : [Value.int .i64 a, Value.int .i64 c] = [Value.int .i64 b, Value.int .i64 d] := by rw [h, h2]
theorem own_rows0 {w0 : World} {v : Value} {t : TypeId} {sz n : Nat} {xs : List Value} {B : List (Nat × Obj)} {rows : List (List Value)} (h : Rt.Own v t sz n xs B) (hr : ∀ row ∈ rows, row.length = sz) (hn : rows.length = n) (hx : xs = rows.flatten) : ∃ a c, v = .slice a n c ∧ Sl w0 B a sz rows ∧ n ≤ c ∧ (a = none → c = 0) := by
  subst hx
  rcases h.2 with ⟨h2, h0, rfl⟩ | ⟨b, cap, cs, h2, rfl, h4, _, _, h5⟩
  · have : rows = [] := List.length_eq_zero_iff.1 (by omega)
    subst this
    exact ⟨none, 0, by rw [h2, ← hn]; rfl, Sl.nil _ _, by omega, fun _ => rfl⟩
  · exact ⟨some ⟨b, 0, none⟩, cap, h2, sl_own (i := 0) rfl hr (by rw [hn]; exact h5), by omega, fun h => by cases h⟩
theorem _root_.Go.Rt.Sl.top {w0 : World} {B F : List (Nat × Obj)} {a : Option Addr} {sz : Nat} {rows : List (List Value)} (h : Sl w0 B a sz rows) : Sl w0 (B ++ F) a sz rows := h.mono fun _ h => h.front
theorem _root_.Go.Rt.Ats.top {w0 : World} {B F : List (Nat × Obj)} {b off : Nat} {vs : List Value} (h : Ats w0 B b off vs) : Ats w0 (B ++ F) b off vs := h.mono fun _ h => h.front
theorem yd_slice {P : Program} {a : Act} {o : Oper} {w : World} {x y : Option Addr} {l c : Nat} (h : x = y) (hy : Yd P a o w (.slice x l c)) : Yd P a o w (.slice y l c) := h ▸ hy
theorem swp2 {w0 w : World} {a b : Nat × Obj} {F : List (Nat × Obj)} (h : St w0 w (a :: b :: F)) : St w0 w (b :: a :: F) := h.perm (perm_mid [a] [b] F)
theorem vi {v : Value} {a b : Int} (h : a = b) : [v, Value.int .i64 a] = [v, Value.int .i64 b] := by rw [h]
/-- Where the first one with a property is. -/
def cidx (p : Ctr → Bool) : List Ctr → Int → Int
  | [], _ => -1
  | g :: l, i => if p g then i else cidx p l (i + 1)
theorem cidx_step {p : Ctr → Bool} {l : List Ctr} {i : Nat} (hi : i < l.length) (h : p l[i] = false) : cidx p (l.drop i) i = cidx p (l.drop (i + 1)) (i + 1 : Nat) := by
  rw [List.drop_eq_getElem_cons hi]; simp only [cidx, h]; rfl
theorem cidx_here {p : Ctr → Bool} {l : List Ctr} {i : Nat} (hi : i < l.length) (h : p l[i] = true) : cidx p (l.drop i) i = i := by
  rw [List.drop_eq_getElem_cons hi]; simp only [cidx, h]; rfl
theorem cidx_end {p : Ctr → Bool} {l : List Ctr} {i : Nat} (hi : l.length ≤ i) : cidx p (l.drop i) i = -1 := by
  rw [List.drop_of_length_le hi]; rfl
theorem cidx_any (p : Ctr → Bool) : ∀ (l : List Ctr) (i : Int), 0 ≤ i → decide (0 ≤ cidx p l i) = l.any p
  | [], i, h => by simp [cidx]
  | g :: l, i, h => by
    rw [List.any_cons, ← cidx_any p l (i + 1) (by omega), Bool.eq_iff_iff]
    by_cases hp : p g = true
    · simp [cidx, hp, h]
    · simp [cidx, hp]
theorem krows_take {l : List Ctr} {q : Nat → AtC} {i : Nat} : (krows l q).take i = krows (l.take i) q := by
  refine List.ext_getElem? fun k => ?_
  rw [List.getElem?_take]
  by_cases hk : k < i
  · rw [if_pos hk]; simp [krows, List.getElem?_take, hk]
  · rw [if_neg hk]; simp [krows, List.getElem?_take, hk]
theorem sl_takeK {w0 : World} {F : List (Nat × Obj)} {a : Option Addr} {l : List Ctr} {q : Nat → AtC} {i c : Nat} (h : Sl w0 F a 6 (krows l q)) (hi : i ≤ l.length) (hc : l.length ≤ c) : Sl w0 F (if c = 0 then a else a.map (·.add (0 * 6))) 6 (krows (l.take i) q) := by
  have := h.cut (l' := 0) (h' := i) (c := c) (by omega) (by rw [krows_len]; exact hi) (by rw [krows_len]; exact hc)
  simpa [krows_take] using this
theorem has_namesK (l : List Ctr) (s : ByteArray) : (l.any fun x => decide (x.name = s)) = has (l.map (·.name)) s := by
  simp [has, List.any_map, Function.comp_def]
theorem ctrE_a {n : Nat} {bf : List Ctr} {c : Ctr} (h : nmOk c.name = false) : ctrE n bf c = 6 := by unfold ctrE nameE; simp [h]
theorem ctrE_b {n : Nat} {bf : List Ctr} {c : Ctr} (h : nmOk c.name = true) (h2 : (bf.any fun x => decide (x.name = c.name)) = true) : ctrE n bf c = 5 := by
  rw [has_namesK] at h2
  unfold ctrE nameE; rw [h, h2]; rfl
theorem ctrE_c {n : Nat} {bf : List Ctr} {c : Ctr} (h : nmOk c.name = true) (h2 : (bf.any fun x => decide (x.name = c.name)) = false) : ctrE n bf c = if (out 0 3 c.skip || out 0 3 c.twice) || out 0 99 c.start then 7 else if c.zero.length ≠ n ∨ c.shown.length ≠ n then 3 else if c.zero.any (out 0 2) || c.shown.any (out (-1) 99) then 7 else 0 := by
  rw [has_namesK] at h2
  unfold ctrE nameE; rw [h, h2]; rfl
theorem ctrE_d {n : Nat} {bf : List Ctr} {c : Ctr} (h : nmOk c.name = true) (h2 : (bf.any fun x => decide (x.name = c.name)) = false) (h3 : ((out 0 3 c.skip || out 0 3 c.twice) || out 0 99 c.start) = false) (h4 : ¬ (c.zero.length = n ∧ c.shown.length = n)) : ctrE n bf c = 3 := by
  rw [ctrE_c h h2, h3, if_neg (by simp), if_pos (by omega)]
theorem ctrE_e {n : Nat} {bf : List Ctr} {c : Ctr} (h : nmOk c.name = true) (h2 : (bf.any fun x => decide (x.name = c.name)) = false) (h3 : ((out 0 3 c.skip || out 0 3 c.twice) || out 0 99 c.start) = false) (h4 : c.zero.length = n ∧ c.shown.length = n) : ctrE n bf c = if c.zero.any (out 0 2) || c.shown.any (out (-1) 99) then 7 else 0 := by
  rw [ctrE_c h h2, h3, if_neg (by simp), if_neg (by omega)]
theorem c52 {w0 w : World} {F : List (Nat × Obj)} (a : Option Addr) (c : Nat) (l : List Hour) (hl : l.length ≤ 9223372036854775807) (ha : Sl w0 F a 3 (hrows l)) (fv : Value) (err : List Hour → Hour → Int)
    (hp : ∀ (i : Nat) (hi : i < l.length) (X : List (Nat × Obj)) (w : World), St w0 w (X ++ F) → FCon Try.prog fv [.int .i64 i, .agg l[i].cells.toArray] w fun v w' => v = .int .i64 (err (l.take i) l[i]) ∧ St w0 w' (X ++ F)) (hs : St w0 w F) :
  Con Try.prog 52 [.slice a l.length c, fv] w fun v w' => v = .tuple #[.int .i64 (firstE err [] 0 l).1, .int .i64 (firstE err [] 0 l).2] ∧ St w0 w' F := by
  refine con_of_wc (n := 25) Try.func52 rfl rfl (Nat.le_of_ble_eq_true rfl) ?_
  refine w_seq (fun K2 hK1 => ?_)
  refine w_region ?_
  refine w_p (y_assign (v := _) rfl rfl) rfl ?_
  refine w_p (y_assign (v := _) rfl rfl) rfl ?_
  refine w_nil ?_
  refine q_then (hK1 _ _ ?_)
  refine w_seq (fun K4 hK3 => ?_)
  refine w_seq (fun K6 hK5 => ?_)
  refine w_region ?_
  refine w_p (y_move (v := .slice _ _ _) rfl rfl) rfl ?_
  refine w_p (y_lenS Try.underlying22 rfl rfl) rfl ?_
  refine w_p (y_move (v := _) rfl rfl) rfl ?_
  refine w_nil ?_
  refine q_then (hK5 _ _ ?_)
  refine w_block ?_
  refine w_loop [4, 5, 6, 7, 8, 11, 12, 13, 14, 15, 16, 17, 18, 19, 20, 21, 22, 23, 24] [11] (fun k vs w => ∃ (i : Nat), vs = [.int .i64 i] ∧ i ≤ l.length ∧ k = l.length - i ∧ firstE err [] 0 l = firstE err (l.take i) i (l.drop i) ∧ St w0 w F) (l.length) ?_ ?_
  ·
   exact ⟨0, rfl, by omega, by omega, by simp, hs⟩
  ·
   intro k vs μ w9 hI K8 hN7
   obtain ⟨i, rfl, hia, rfl, hinv, hs⟩ := hI
   refine w_seq (fun K11 hK10 => ?_)
   refine w_region ?_
   refine w_p (y_lss rfl rfl rfl rfl) rfl ?_
   refine w_nil ?_
   refine q_then (hK10 _ _ ?_)
   refine w_seq (fun K13 hK12 => ?_)
   refine w_cond rfl rfl (fun h14 => ?_) (fun h14 => ?_)
   ·
    try simp only [zA, zB, zC, zD, zE, zF] at h14
    refine w_skip ?_
    refine q_then (hK12 _ _ ?_)
    refine w_seq (fun K16 hK15 => ?_)
    refine w_block ?_
    refine w_seq (fun K18 hK17 => ?_)
    have hi2 : i < l.length := by omega
    obtain ⟨bx, ox, rfl, hx⟩ := sl_hrows ha hi2
    refine w_region ?_
    refine w_p (y_move (v := .int _ _) rfl rfl) rfl ?_
    refine w_p (y_indexS Try.underlying22 Try.sizeOf70 rfl rfl rfl rfl (i := _) rfl (by omega)) rfl ?_
    refine w_p (y_loadN (vs := [_, _, _]) Try.isAgg70 Try.sizeOf70 hs rfl rfl hx) rfl ?_
    refine w_alloc (cs := [_, _, _]) want_none Try.zeroValue70 rfl hs (fun b19 w20 hs21 => ?_)
    refine w_p (y_assign (v := .int _ _) rfl rfl) rfl ?_
    refine w_store (i := 0) (v := .agg #[.int _ _, .int _ _, .int _ _]) (vs := [_, _, _]) want_none Try.sizeOf70 rfl rfl rfl rfl rfl (by simp [Value.oneCell']) hs21 rfl (Nat.le_of_ble_eq_true rfl) (fun w22 hs23 => ?_)
    refine w_nil ?_
    refine q_then (hK17 _ _ ?_)
    refine w_seq (fun K25 hK24 => ?_)
    refine w_region ?_
    refine w_p (y_move (v := fv) rfl rfl) rfl ?_
    refine w_p (y_move (v := .int _ _) rfl rfl) rfl ?_
    refine w_p (y_loadN (vs := [_, _, _]) Try.isAgg70 Try.sizeOf70 hs23 rfl rfl (ats_own (i := 0) (vs := [_, _, _]) rfl rfl)) rfl ?_
    refine w_callV want_none rfl rfl rfl rfl (hp i hi2 [_] _ hs23) ?_
    rintro _ w27 ⟨rfl, hs28⟩
    refine w_p (y_assign (v := .int _ _) rfl rfl) rfl ?_
    refine w_nil ?_
    refine q_then (hK24 _ _ ?_)
    refine w_seq (fun K30 hK29 => ?_)
    refine w_region ?_
    refine w_p (y_move (v := .int _ _) rfl rfl) rfl ?_
    refine w_p (y_neq rfl rfl rfl rfl) rfl ?_
    refine w_nil ?_
    refine q_then (hK29 _ _ ?_)
    refine w_cond rfl rfl (fun h31 => ?_) (fun h31 => ?_)
    ·
     try simp only [zA, zB, zC, zD, zE, zF] at h31
     refine w_seq (fun K33 hK32 => ?_)
     refine w_region ?_
     refine w_p (y_move (v := .int _ _) rfl rfl) rfl ?_
     refine w_p (y_move (v := .int _ _) rfl rfl) rfl ?_
     refine w_p (y_assign (v := .int _ _) rfl rfl) rfl ?_
     refine w_p (y_assign (v := .int _ _) rfl rfl) rfl ?_
     refine w_nil ?_
     refine q_then (hK32 _ _ ?_)
     refine w_ret ?_
     refine q_blk_ret ?_
     refine q_then_ret ?_
     refine q_then_ret ?_
     refine q_blk_ret ?_
     refine q_then_ret ?_
     refine q_ret (l := [.tmp 4, .tmp 5]) (vs := [_, _]) rfl ⟨⟨rfl, show _ = (.int _ _ : Value) from rfl⟩, ⟨rfl, show _ = (.int _ _ : Value) from rfl⟩, trivial⟩ ?_
     first
       | (rw [hinv, firstE_stop hi2 (by assumption)]
          exact ⟨rfl, hs28.tail⟩)
       | (rw [hinv, firstE_end (by omega)]
          exact ⟨rfl, hs28⟩)
    ·
     try simp only [zA, zB, zC, zD, zE, zF] at h31
     refine w_skip ?_
     refine q_blk_normal ?_
     refine q_then (hK15 _ _ ?_)
     refine w_region ?_
     refine w_p (y_add rfl rfl rfl rfl (by omega) (by omega)) rfl ?_
     refine w_p (y_move (v := .int _ _) rfl rfl) rfl ?_
     refine w_nil ?_
     refine q_then (hN7 _ _ (Nx.intro (l.length - (i + 1)) (by omega) (by repeat (first | exact agree_mix | refine agree_upd rfl ?_ | refine agree_updL rfl ?_ _ | refine agree_mixin rfl ?_)) ?_))
     exact ⟨i + 1, rfl, by omega, rfl, hinv.trans (firstE_step hi2 (by assumption)), hs28.tail⟩
   ·
    try simp only [zA, zB, zC, zD, zE, zF] at h14
    refine w_exit ?_
    refine q_then_exit ?_
    refine q_then_exit ?_
    refine q_blk_this ?_
    refine q_then (hK3 _ _ ?_)
    refine w_seq (fun K35 hK34 => ?_)
    refine w_region ?_
    refine w_p (y_assign (v := _) rfl rfl) rfl ?_
    refine w_p (y_assign (v := _) rfl rfl) rfl ?_
    refine w_nil ?_
    refine q_then (hK34 _ _ ?_)
    refine w_ret ?_
    refine q_ret (l := [.tmp 4, .tmp 5]) (vs := [_, _]) rfl ⟨⟨rfl, show _ = (.int _ _ : Value) from rfl⟩, ⟨rfl, show _ = (.int _ _ : Value) from rfl⟩, trivial⟩ ?_
    first
      | (rw [hinv, firstE_stop hi2 (by assumption)]
         exact ⟨rfl, hs.tail⟩)
      | (rw [hinv, firstE_end (by omega)]
         exact ⟨rfl, hs⟩)

theorem c54 {w0 w : World} {F : List (Nat × Obj)} (a : Option Addr) (c : Nat) (l : List Ctr) (q : Nat → AtC) (hl : l.length ≤ 9223372036854775807) (ha : Sl w0 F a 6 (krows l q)) (fv : Value) (err : List Ctr → Ctr → Int)
    (hp : ∀ (i : Nat) (hi : i < l.length) (X : List (Nat × Obj)) (w : World), St w0 w (X ++ F) → FCon Try.prog fv [.int .i64 i, .agg (l[i].cells (q i)).toArray] w fun v w' => v = .int .i64 (err (l.take i) l[i]) ∧ St w0 w' (X ++ F)) (hs : St w0 w F) :
  Con Try.prog 54 [.slice a l.length c, fv] w fun v w' => v = .tuple #[.int .i64 (firstE err [] 0 l).1, .int .i64 (firstE err [] 0 l).2] ∧ St w0 w' F := by
  refine con_of_wc (n := 25) Try.func54 rfl rfl (Nat.le_of_ble_eq_true rfl) ?_
  refine w_seq (fun K2 hK1 => ?_)
  refine w_region ?_
  refine w_p (y_assign (v := _) rfl rfl) rfl ?_
  refine w_p (y_assign (v := _) rfl rfl) rfl ?_
  refine w_nil ?_
  refine q_then (hK1 _ _ ?_)
  refine w_seq (fun K4 hK3 => ?_)
  refine w_seq (fun K6 hK5 => ?_)
  refine w_region ?_
  refine w_p (y_move (v := .slice _ _ _) rfl rfl) rfl ?_
  refine w_p (y_lenS Try.underlying23 rfl rfl) rfl ?_
  refine w_p (y_move (v := _) rfl rfl) rfl ?_
  refine w_nil ?_
  refine q_then (hK5 _ _ ?_)
  refine w_block ?_
  refine w_loop [4, 5, 6, 7, 8, 11, 12, 13, 14, 15, 16, 17, 18, 19, 20, 21, 22, 23, 24] [11] (fun k vs w => ∃ (i : Nat), vs = [.int .i64 i] ∧ i ≤ l.length ∧ k = l.length - i ∧ firstE err [] 0 l = firstE err (l.take i) i (l.drop i) ∧ St w0 w F) (l.length) ?_ ?_
  ·
   exact ⟨0, rfl, by omega, by omega, by simp, hs⟩
  ·
   intro k vs μ w9 hI K8 hN7
   obtain ⟨i, rfl, hia, rfl, hinv, hs⟩ := hI
   refine w_seq (fun K11 hK10 => ?_)
   refine w_region ?_
   refine w_p (y_lss rfl rfl rfl rfl) rfl ?_
   refine w_nil ?_
   refine q_then (hK10 _ _ ?_)
   refine w_seq (fun K13 hK12 => ?_)
   refine w_cond rfl rfl (fun h14 => ?_) (fun h14 => ?_)
   ·
    try simp only [zA, zB, zC, zD, zE, zF] at h14
    refine w_skip ?_
    refine q_then (hK12 _ _ ?_)
    refine w_seq (fun K16 hK15 => ?_)
    refine w_block ?_
    refine w_seq (fun K18 hK17 => ?_)
    have hi2 : i < l.length := by omega
    obtain ⟨bx, ox, rfl, hx⟩ := sl_krows ha hi2
    refine w_region ?_
    refine w_p (y_move (v := .int _ _) rfl rfl) rfl ?_
    refine w_p (y_indexS Try.underlying23 Try.sizeOf76 rfl rfl rfl rfl (i := _) rfl (by omega)) rfl ?_
    refine w_p (y_loadN (vs := [_, _, _, _, _, _]) Try.isAgg76 Try.sizeOf76 hs rfl rfl hx) rfl ?_
    refine w_alloc (cs := [_, _, _, _, _, _]) want_none Try.zeroValue76 rfl hs (fun b19 w20 hs21 => ?_)
    refine w_p (y_assign (v := .int _ _) rfl rfl) rfl ?_
    refine w_store (i := 0) (v := .agg #[.string _, .int _ _, .int _ _, .int _ _, .slice _ _ _, .slice _ _ _]) (vs := [_, _, _, _, _, _]) want_none Try.sizeOf76 rfl rfl rfl rfl rfl (by simp [Value.oneCell']) hs21 rfl (Nat.le_of_ble_eq_true rfl) (fun w22 hs23 => ?_)
    refine w_nil ?_
    refine q_then (hK17 _ _ ?_)
    refine w_seq (fun K25 hK24 => ?_)
    refine w_region ?_
    refine w_p (y_move (v := fv) rfl rfl) rfl ?_
    refine w_p (y_move (v := .int _ _) rfl rfl) rfl ?_
    refine w_p (y_loadN (vs := [_, _, _, _, _, _]) Try.isAgg76 Try.sizeOf76 hs23 rfl rfl (ats_own (i := 0) (vs := [_, _, _, _, _, _]) rfl rfl)) rfl ?_
    refine w_callV want_none rfl rfl rfl rfl (hp i hi2 [_] _ hs23) ?_
    rintro _ w27 ⟨rfl, hs28⟩
    refine w_p (y_assign (v := .int _ _) rfl rfl) rfl ?_
    refine w_nil ?_
    refine q_then (hK24 _ _ ?_)
    refine w_seq (fun K30 hK29 => ?_)
    refine w_region ?_
    refine w_p (y_move (v := .int _ _) rfl rfl) rfl ?_
    refine w_p (y_neq rfl rfl rfl rfl) rfl ?_
    refine w_nil ?_
    refine q_then (hK29 _ _ ?_)
    refine w_cond rfl rfl (fun h31 => ?_) (fun h31 => ?_)
    ·
     try simp only [zA, zB, zC, zD, zE, zF] at h31
     refine w_seq (fun K33 hK32 => ?_)
     refine w_region ?_
     refine w_p (y_move (v := .int _ _) rfl rfl) rfl ?_
     refine w_p (y_move (v := .int _ _) rfl rfl) rfl ?_
     refine w_p (y_assign (v := .int _ _) rfl rfl) rfl ?_
     refine w_p (y_assign (v := .int _ _) rfl rfl) rfl ?_
     refine w_nil ?_
     refine q_then (hK32 _ _ ?_)
     refine w_ret ?_
     refine q_blk_ret ?_
     refine q_then_ret ?_
     refine q_then_ret ?_
     refine q_blk_ret ?_
     refine q_then_ret ?_
     refine q_ret (l := [.tmp 4, .tmp 5]) (vs := [_, _]) rfl ⟨⟨rfl, show _ = (.int _ _ : Value) from rfl⟩, ⟨rfl, show _ = (.int _ _ : Value) from rfl⟩, trivial⟩ ?_
     first
       | (rw [hinv, firstE_stop hi2 (by assumption)]
          exact ⟨rfl, hs28.tail⟩)
       | (rw [hinv, firstE_end (by omega)]
          exact ⟨rfl, hs28⟩)
    ·
     try simp only [zA, zB, zC, zD, zE, zF] at h31
     refine w_skip ?_
     refine q_blk_normal ?_
     refine q_then (hK15 _ _ ?_)
     refine w_region ?_
     refine w_p (y_add rfl rfl rfl rfl (by omega) (by omega)) rfl ?_
     refine w_p (y_move (v := .int _ _) rfl rfl) rfl ?_
     refine w_nil ?_
     refine q_then (hN7 _ _ (Nx.intro (l.length - (i + 1)) (by omega) (by repeat (first | exact agree_mix | refine agree_upd rfl ?_ | refine agree_updL rfl ?_ _ | refine agree_mixin rfl ?_)) ?_))
     exact ⟨i + 1, rfl, by omega, rfl, hinv.trans (firstE_step hi2 (by assumption)), hs28.tail⟩
   ·
    try simp only [zA, zB, zC, zD, zE, zF] at h14
    refine w_exit ?_
    refine q_then_exit ?_
    refine q_then_exit ?_
    refine q_blk_this ?_
    refine q_then (hK3 _ _ ?_)
    refine w_seq (fun K35 hK34 => ?_)
    refine w_region ?_
    refine w_p (y_assign (v := _) rfl rfl) rfl ?_
    refine w_p (y_assign (v := _) rfl rfl) rfl ?_
    refine w_nil ?_
    refine q_then (hK34 _ _ ?_)
    refine w_ret ?_
    refine q_ret (l := [.tmp 4, .tmp 5]) (vs := [_, _]) rfl ⟨⟨rfl, show _ = (.int _ _ : Value) from rfl⟩, ⟨rfl, show _ = (.int _ _ : Value) from rfl⟩, trivial⟩ ?_
    first
      | (rw [hinv, firstE_stop hi2 (by assumption)]
         exact ⟨rfl, hs.tail⟩)
      | (rw [hinv, firstE_end (by omega)]
         exact ⟨rfl, hs⟩)

theorem c95 {w0 w : World} {F : List (Nat × Obj)} (a : Option Addr) (l : List Ctr) (q : Nat → AtC) (c : Nat) (hla : l.length ≤ 9223372036854775807) (ha : Sl w0 F a 6 (krows l q)) {fk : FuncId} (hC : CF Try.prog fk) (first captured : Array Value) (p : Ctr → Bool)
    (hp : ∀ i (hi : i < l.length), ∀ w, St w0 w F → Con Try.prog fk (first.toList ++ ([.agg (l[i].cells (q i)).toArray] ++ captured.toList)) w fun v w' => v = .bool (p l[i]) ∧ St w0 w' F) (hs : St w0 w F) :
  Con Try.prog 95 [.slice a l.length c, .func (.func fk) first captured] w fun v w' => v = .int .i64 (cidx p l 0) ∧ St w0 w' F := by
  refine con_of_wc (n := 19) Try.func95 rfl rfl (Nat.le_of_ble_eq_true rfl) ?_
  refine w_seq (fun K2 hK1 => ?_)
  refine w_region ?_
  refine w_p (y_assign (v := _) rfl rfl) rfl ?_
  refine w_nil ?_
  refine q_then (hK1 _ _ ?_)
  refine w_seq (fun K4 hK3 => ?_)
  refine w_seq (fun K6 hK5 => ?_)
  refine w_region ?_
  refine w_p (y_move (v := .slice _ _ _) rfl rfl) rfl ?_
  refine w_p (y_lenS Try.underlying23 rfl rfl) rfl ?_
  refine w_p (y_move (v := _) rfl rfl) rfl ?_
  refine w_nil ?_
  refine q_then (hK5 _ _ ?_)
  refine w_block ?_
  refine w_loop [4, 5, 8, 9, 10, 11, 12, 13, 14, 15, 16, 17, 18] [8] (fun k vs w => ∃ i : Nat, vs = [.int .i64 i] ∧ i ≤ l.length ∧ k = l.length - i ∧ cidx p l 0 = cidx p (l.drop i) i ∧ St w0 w F) (l.length) ?_ ?_
  ·
   exact ⟨0, rfl, by omega, by omega, rfl, hs⟩
  ·
   intro k vs μ w9 hI K8 hN7
   obtain ⟨i, rfl, hia, rfl, hpre, hs⟩ := hI
   refine w_seq (fun K11 hK10 => ?_)
   refine w_region ?_
   refine w_p (y_lss rfl rfl rfl rfl) rfl ?_
   refine w_nil ?_
   refine q_then (hK10 _ _ ?_)
   refine w_seq (fun K13 hK12 => ?_)
   refine w_cond rfl rfl (fun h14 => ?_) (fun h14 => ?_)
   ·
    try simp only [zA, zB, zC, zD, zE, zF] at h14
    refine w_skip ?_
    refine q_then (hK12 _ _ ?_)
    refine w_seq (fun K16 hK15 => ?_)
    refine w_block ?_
    refine w_seq (fun K18 hK17 => ?_)
    refine w_region ?_
    refine w_p (y_move (v := .int _ _) rfl rfl) rfl ?_
    refine w_p (y_assign (v := .int _ _) rfl rfl) rfl ?_
    refine w_nil ?_
    refine q_then (hK17 _ _ ?_)
    refine w_seq (fun K20 hK19 => ?_)
    have hi2 : i < l.length := by omega
    obtain ⟨bx, ox, rfl, hx⟩ := sl_krows ha hi2
    refine w_region ?_
    refine w_p (y_move (v := .func _ _ _) rfl rfl) rfl ?_
    refine w_p (y_move (v := .slice _ _ _) rfl rfl) rfl ?_
    refine w_p (y_move (v := .int _ _) rfl rfl) rfl ?_
    refine w_p (y_indexS Try.underlying23 Try.sizeOf76 rfl rfl rfl rfl (i := _) rfl (by omega)) rfl ?_
    refine w_p (y_loadN (vs := [_, _, _, _, _, _]) Try.isAgg76 Try.sizeOf76 hs rfl rfl hx) rfl ?_
    refine w_call want_none hC rfl rfl rfl rfl (hp i hi2 _ hs) ?_
    rintro _ w22 ⟨rfl, hs23⟩
    refine w_nil ?_
    refine q_then (hK19 _ _ ?_)
    refine w_cond rfl rfl (fun h24 => ?_) (fun h24 => ?_)
    ·
     try simp only [zA, zB, zC, zD, zE, zF] at h24
     refine w_seq (fun K26 hK25 => ?_)
     refine w_region ?_
     refine w_p (y_move (v := .int _ _) rfl rfl) rfl ?_
     refine w_p (y_assign (v := .int _ _) rfl rfl) rfl ?_
     refine w_nil ?_
     refine q_then (hK25 _ _ ?_)
     refine w_ret ?_
     refine q_blk_ret ?_
     refine q_then_ret ?_
     refine q_then_ret ?_
     refine q_blk_ret ?_
     refine q_then_ret ?_
     refine q_ret (l := [.tmp 4]) (vs := [_]) rfl ⟨⟨rfl, show _ = (.int _ _ : Value) from rfl⟩, trivial⟩ ?_
     first
       | exact ⟨congrArg (Value.int .i64) (hpre.trans (cidx_end (by omega))).symm, hs23⟩
       | exact ⟨congrArg (Value.int .i64) (hpre.trans (cidx_here hi2 (by assumption))).symm, hs23⟩
    ·
     try simp only [zA, zB, zC, zD, zE, zF] at h24
     refine w_skip ?_
     refine q_blk_normal ?_
     refine q_then (hK15 _ _ ?_)
     refine w_region ?_
     refine w_p (y_add rfl rfl rfl rfl (by omega) (by omega)) rfl ?_
     refine w_p (y_move (v := .int _ _) rfl rfl) rfl ?_
     refine w_nil ?_
     refine q_then (hN7 _ _ (Nx.intro (l.length - (i + 1)) (by omega) (by repeat (first | exact agree_mix | refine agree_upd rfl ?_ | refine agree_updL rfl ?_ _ | refine agree_mixin rfl ?_)) ?_))
     exact ⟨i + 1, rfl, by omega, rfl, hpre.trans (cidx_step hi2 (by assumption)), hs23⟩
   ·
    try simp only [zA, zB, zC, zD, zE, zF] at h14
    refine w_exit ?_
    refine q_then_exit ?_
    refine q_then_exit ?_
    refine q_blk_this ?_
    refine q_then (hK3 _ _ ?_)
    refine w_seq (fun K28 hK27 => ?_)
    refine w_region ?_
    refine w_p (y_assign (v := _) rfl rfl) rfl ?_
    refine w_nil ?_
    refine q_then (hK27 _ _ ?_)
    refine w_ret ?_
    refine q_ret (l := [.tmp 4]) (vs := [_]) rfl ⟨⟨rfl, show _ = (.int _ _ : Value) from rfl⟩, trivial⟩ ?_
    first
      | exact ⟨congrArg (Value.int .i64) (hpre.trans (cidx_end (by omega))).symm, hs⟩
      | exact ⟨congrArg (Value.int .i64) (hpre.trans (cidx_here hi2 (by assumption))).symm, hs⟩

theorem c57 {w0 w : World} {F : List (Nat × Obj)} (a : Option Addr) (l : List Ctr) (q : Nat → AtC) (c : Nat) (hla : l.length ≤ 9223372036854775807) (ha : Sl w0 F a 6 (krows l q)) {fk : FuncId} (hC : CF Try.prog fk) (first captured : Array Value) (p : Ctr → Bool)
    (hp : ∀ i (hi : i < l.length), ∀ w, St w0 w F → Con Try.prog fk (first.toList ++ ([.agg (l[i].cells (q i)).toArray] ++ captured.toList)) w fun v w' => v = .bool (p l[i]) ∧ St w0 w' F) (hs : St w0 w F) :
  Con Try.prog 57 [.slice a l.length c, .func (.func fk) first captured] w fun v w' => v = .bool (l.any p) ∧ St w0 w' F := by
  refine con_of_wc (n := 9) Try.func57 rfl rfl (Nat.le_of_ble_eq_true rfl) ?_
  refine w_seq (fun K2 hK1 => ?_)
  refine w_region ?_
  refine w_p (y_assign (v := _) rfl rfl) rfl ?_
  refine w_nil ?_
  refine q_then (hK1 _ _ ?_)
  refine w_seq (fun K4 hK3 => ?_)
  refine w_region ?_
  refine w_p (y_move (v := .slice _ _ _) rfl rfl) rfl ?_
  refine w_p (y_move (v := .func _ _ _) rfl rfl) rfl ?_
  refine w_call want_none Try.call95 rfl rfl rfl rfl (c95 _ _ _ _ hla ha hC _ _ p hp hs) ?_
  rintro _ w6 ⟨rfl, hs7⟩
  refine w_p (y_geq rfl rfl rfl rfl) rfl ?_
  refine w_p (y_assign (v := .bool _) rfl rfl) rfl ?_
  refine w_nil ?_
  refine q_then (hK3 _ _ ?_)
  refine w_ret ?_
  refine q_ret (l := [.tmp 4]) (vs := [_]) rfl ⟨⟨rfl, show _ = (.bool _ : Value) from rfl⟩, trivial⟩ ?_
  exact ⟨congrArg Value.bool (cidx_any p l 0 (by omega)), hs7⟩

theorem c53 {w0 w : World} {F : List (Nat × Obj)} (b : Board) (p : AtB) (hh : 1 ≤ b.holds ∧ b.holds ≤ 3) (i : Int) (h : Hour) (bf : List Hour) (bm : Nat) (hb : Ats w0 F bm 0 (b.cells p)) (hs : St w0 w F) :
  Con Try.prog 53 [.int .i64 i, .agg h.cells.toArray, .pointer (some ⟨bm, 0, none⟩)] w fun v w' => v = .int .i64 (hourE b.holds bf h) ∧ St w0 w' F := by
  refine con_of_wc (n := 33) Try.func53 rfl rfl (Nat.le_of_ble_eq_true rfl) ?_
  refine w_seq (fun K2 hK1 => ?_)
  refine w_region ?_
  refine w_box (v := .agg #[.int _ _, .int _ _, .int _ _]) (cs := [_, _, _]) want_none rfl rfl rfl hs (fun b3 w4 hs5 => ?_)
  refine w_p (y_assign (v := _) rfl rfl) rfl ?_
  refine w_nil ?_
  refine q_then (hK1 _ _ ?_)
  refine w_seq (fun K7 hK6 => ?_)
  refine w_block ?_
  refine w_seq (fun K9 hK8 => ?_)
  refine w_region ?_
  refine w_p (y_fieldAddr (o := 0) (i := 0) Try.underlying25 rfl Try.sizeOf3 rfl rfl rfl) rfl ?_
  refine w_p (y_load1 Try.isAgg3 hs5.tail rfl rfl (show Ats _ _ _ _ [_] from Ats.part hb 0 1)) rfl ?_
  refine w_p (y_sub rfl rfl rfl rfl (by omega) (by omega)) rfl ?_
  refine w_p (y_fieldAddr (o := 0) (i := 0) Try.underlying70 rfl Try.sizeOf3 rfl rfl rfl) rfl ?_
  refine w_p (y_load1 Try.isAgg3 hs5 rfl rfl (ats_own (i := 0) (vs := [_]) rfl rfl)) rfl ?_
  refine w_bslice (ps := [(0, _)]) (pv := [(0, .int _ _)]) (cs := [_]) want_none rfl rfl (fun w => Try_C_fb1 _ w) hs5 (fun b10 w11 hs12 => ?_)
  refine w_call want_none Try.call51 rfl rfl rfl rfl (c51 _ _ _ [_] _ (by simp) (sl_own (i := 0) (rows := [[_]]) rfl (by simp) rfl) hs12) ?_
  rintro _ w14 ⟨rfl, hs15⟩
  refine w_p (y_assign (v := .bool _) rfl rfl) rfl ?_
  refine w_nil ?_
  refine q_then (hK8 _ _ ?_)
  refine w_cond rfl rfl (fun h16 => ?_) (fun h16 => ?_)
  ·
   try simp only [zA, zB, zC, zD, zE, zF] at h16
   refine w_seq (fun K18 hK17 => ?_)
   refine w_region ?_
   refine w_p (y_assign (v := _) rfl rfl) rfl ?_
   refine w_nil ?_
   refine q_then (hK17 _ _ ?_)
   refine w_ret ?_
   refine q_blk_ret ?_
   refine q_then_ret ?_
   refine q_ret (l := [.tmp 5]) (vs := [_]) rfl ⟨⟨rfl, show _ = (.int _ _ : Value) from rfl⟩, trivial⟩ ?_
   try simp only [List.any_cons, List.any_nil, Bool.or_false, Bool.or_eq_false_iff] at h16
   exact ⟨congrArg (Value.int .i64) (by simp [hourE, h16]), hs15.tail.tail⟩
  ·
   try simp only [zA, zB, zC, zD, zE, zF] at h16
   refine w_seq (fun K20 hK19 => ?_)
   refine w_region ?_
   refine w_p (y_fieldAddr (o := 1) (i := 1) Try.underlying70 rfl Try.sizeOf31 rfl rfl rfl) rfl ?_
   refine w_p (y_fieldAddr (o := 0) (i := 0) Try.underlying31 rfl Try.sizeOf3 rfl rfl rfl) rfl ?_
   refine w_p (y_load1 Try.isAgg3 hs15 rfl rfl (ats_own (i := 1) (vs := [_]) rfl rfl)) rfl ?_
   refine w_p (y_fieldAddr (o := 1) (i := 1) Try.underlying70 rfl Try.sizeOf31 rfl rfl rfl) rfl ?_
   refine w_p (y_fieldAddr (o := 1) (i := 1) Try.underlying31 rfl Try.sizeOf3 rfl rfl rfl) rfl ?_
   refine w_p (y_load1 Try.isAgg3 hs15 rfl rfl (ats_own (i := 1) (vs := [_]) rfl rfl)) rfl ?_
   refine w_bslice (ps := [(0, _), (1, _)]) (pv := [(0, .int _ _), (1, .int _ _)]) (cs := [_, _]) want_none rfl rfl (fun w => Try_C_fb2 _ _ w) hs15 (fun b21 w22 hs23 => ?_)
   refine w_call want_none Try.call51 rfl rfl rfl rfl (c51 _ _ _ [_, _] _ (by simp) (sl_own (i := 0) (rows := [[_], [_]]) rfl (by simp) rfl) hs23) ?_
   rintro _ w25 ⟨rfl, hs26⟩
   refine w_p (y_assign (v := .bool _) rfl rfl) rfl ?_
   refine w_nil ?_
   refine q_then (hK19 _ _ ?_)
   refine w_cond rfl rfl (fun h27 => ?_) (fun h27 => ?_)
   ·
    try simp only [zA, zB, zC, zD, zE, zF] at h27
    refine w_seq (fun K29 hK28 => ?_)
    refine w_region ?_
    refine w_p (y_assign (v := _) rfl rfl) rfl ?_
    refine w_nil ?_
    refine q_then (hK28 _ _ ?_)
    refine w_ret ?_
    refine q_blk_ret ?_
    refine q_then_ret ?_
    refine q_ret (l := [.tmp 5]) (vs := [_]) rfl ⟨⟨rfl, show _ = (.int _ _ : Value) from rfl⟩, trivial⟩ ?_
    try simp only [List.any_cons, List.any_nil, Bool.or_false, Bool.or_eq_false_iff] at h16 h27
    exact ⟨congrArg (Value.int .i64) (by simp [hourE, h16, h27]), hs26.tail.tail.tail⟩
   ·
    try simp only [zA, zB, zC, zD, zE, zF] at h27
    refine w_seq (fun K31 hK30 => ?_)
    have hbb : 0 ≤ h.lo ∧ h.lo ≤ 40 ∧ 0 ≤ h.hi ∧ h.hi ≤ 40 := by
      have hq : [h.lo, h.hi].any (out 0 40) = false := by assumption
      simp [out] at hq; omega
    refine w_region ?_
    refine w_p (y_fieldAddr (o := 1) (i := 1) Try.underlying70 rfl Try.sizeOf31 rfl rfl rfl) rfl ?_
    refine w_p (y_fieldAddr (o := 1) (i := 1) Try.underlying31 rfl Try.sizeOf3 rfl rfl rfl) rfl ?_
    refine w_p (y_load1 Try.isAgg3 hs26 rfl rfl (ats_own (i := 2) (vs := [_]) rfl rfl)) rfl ?_
    refine w_p (y_fieldAddr (o := 1) (i := 1) Try.underlying70 rfl Try.sizeOf31 rfl rfl rfl) rfl ?_
    refine w_p (y_fieldAddr (o := 0) (i := 0) Try.underlying31 rfl Try.sizeOf3 rfl rfl rfl) rfl ?_
    refine w_p (y_load1 Try.isAgg3 hs26 rfl rfl (ats_own (i := 2) (vs := [_]) rfl rfl)) rfl ?_
    refine w_p (y_sub rfl rfl rfl rfl (by omega) (by omega)) rfl ?_
    refine w_bslice (ps := [(0, _)]) (pv := [(0, .int _ _)]) (cs := [_]) want_none rfl rfl (fun w => Try_C_fb1 _ w) hs26 (fun b32 w33 hs34 => ?_)
    refine w_call want_none Try.call51 rfl rfl rfl rfl (c51 _ _ _ [_] _ (by simp) (sl_own (i := 0) (rows := [[_]]) rfl (by simp) rfl) hs34) ?_
    rintro _ w36 ⟨rfl, hs37⟩
    refine w_p (y_assign (v := .bool _) rfl rfl) rfl ?_
    refine w_nil ?_
    refine q_then (hK30 _ _ ?_)
    refine w_cond rfl rfl (fun h38 => ?_) (fun h38 => ?_)
    ·
     try simp only [zA, zB, zC, zD, zE, zF] at h38
     refine w_seq (fun K40 hK39 => ?_)
     refine w_region ?_
     refine w_p (y_assign (v := _) rfl rfl) rfl ?_
     refine w_nil ?_
     refine q_then (hK39 _ _ ?_)
     refine w_ret ?_
     refine q_blk_ret ?_
     refine q_then_ret ?_
     refine q_ret (l := [.tmp 5]) (vs := [_]) rfl ⟨⟨rfl, show _ = (.int _ _ : Value) from rfl⟩, trivial⟩ ?_
     try simp only [List.any_cons, List.any_nil, Bool.or_false, Bool.or_eq_false_iff] at h16 h27 h38
     exact ⟨congrArg (Value.int .i64) (by simp [hourE, h16, h27, h38]), hs37.tail.tail.tail.tail⟩
    ·
     try simp only [zA, zB, zC, zD, zE, zF] at h38
     refine w_skip ?_
     refine q_blk_normal ?_
     refine q_then (hK6 _ _ ?_)
     refine w_seq (fun K42 hK41 => ?_)
     refine w_region ?_
     refine w_p (y_assign (v := _) rfl rfl) rfl ?_
     refine w_nil ?_
     refine q_then (hK41 _ _ ?_)
     refine w_ret ?_
     refine q_ret (l := [.tmp 5]) (vs := [_]) rfl ⟨⟨rfl, show _ = (.int _ _ : Value) from rfl⟩, trivial⟩ ?_
     try simp only [List.any_cons, List.any_nil, Bool.or_false, Bool.or_eq_false_iff] at h16 h27 h38
     exact ⟨congrArg (Value.int .i64) (by simp [hourE, h16, h27, h38]), hs37.tail.tail.tail.tail⟩

theorem c58 {w0 w : World} {F : List (Nat × Obj)} (x c : Ctr) (px pc : AtC) (bm : Nat) (hb : Ats w0 F bm 0 (c.cells pc)) (hs : St w0 w F) :
  Con Try.prog 58 [.agg (x.cells px).toArray, .pointer (some ⟨bm, 0, none⟩)] w fun v w' => v = .bool (decide (x.name = c.name)) ∧ St w0 w' F := by
  refine con_of_wc (n := 9) Try.func58 rfl rfl (Nat.le_of_ble_eq_true rfl) ?_
  refine w_seq (fun K2 hK1 => ?_)
  refine w_region ?_
  refine w_box (v := .agg #[.string _, .int _ _, .int _ _, .int _ _, .slice _ _ _, .slice _ _ _]) (cs := [_, _, _, _, _, _]) want_none rfl rfl rfl hs (fun b3 w4 hs5 => ?_)
  refine w_p (y_assign (v := _) rfl rfl) rfl ?_
  refine w_nil ?_
  refine q_then (hK1 _ _ ?_)
  refine w_seq (fun K7 hK6 => ?_)
  refine w_region ?_
  refine w_p (y_fieldAddr (o := 0) (i := 0) Try.underlying76 rfl Try.sizeOf9 rfl rfl rfl) rfl ?_
  refine w_p (y_load1 Try.isAgg9 hs5 rfl rfl (ats_own (i := 0) (vs := [_]) rfl rfl)) rfl ?_
  refine w_p (y_fieldAddr (o := 0) (i := 0) Try.underlying76 rfl Try.sizeOf9 rfl rfl rfl) rfl ?_
  refine w_p (y_load1 Try.isAgg9 hs5.tail rfl rfl (show Ats _ _ _ _ [_] from Ats.part hb 0 1)) rfl ?_
  refine w_p (y_strEq rfl rfl rfl rfl) rfl ?_
  refine w_p (y_assign (v := .bool _) rfl rfl) rfl ?_
  refine w_nil ?_
  refine q_then (hK6 _ _ ?_)
  refine w_ret ?_
  refine q_ret (l := [.tmp 3]) (vs := [_]) rfl ⟨⟨rfl, show _ = (.bool _ : Value) from rfl⟩, trivial⟩ ?_
  exact ⟨rfl, hs5.tail⟩

theorem c55 {w0 w : World} {F : List (Nat × Obj)} (b : Board) (p : AtB) (hm : BIn w0 F b p) (i : Nat) (hi : i < b.ctrs.length) (bm bn : Nat) (hb : Ats w0 F bm 0 (b.cells p)) (hn : Ats w0 F bn 0 [.int .i64 (b.hours.length : Int)]) (hs : St w0 w F) :
  Con Try.prog 55 [.int .i64 (i : Int), .agg (b.ctrs[i].cells (p.pc i)).toArray, .pointer (some ⟨bm, 0, none⟩), .pointer (some ⟨bn, 0, none⟩)] w fun v w' => v = .int .i64 (ctrE b.hours.length (b.ctrs.take i) b.ctrs[i]) ∧ St w0 w' F := by
  refine con_of_wc (n := 54) Try.func55 rfl rfl (Nat.le_of_ble_eq_true rfl) ?_
  have hnm := hm.nm _ (List.getElem_mem hi)
  have hlz := hm.lz i hi
  have hls := hm.ls i hi
  have hlc := hm.lc
  have hcc := hm.cc
  refine w_seq (fun K2 hK1 => ?_)
  refine w_region ?_
  refine w_box (v := .agg #[.string _, .int _ _, .int _ _, .int _ _, .slice _ _ _, .slice _ _ _]) (cs := [_, _, _, _, _, _]) want_none rfl rfl rfl hs (fun b3 w4 hs5 => ?_)
  refine w_p (y_assign (v := _) rfl rfl) rfl ?_
  refine w_nil ?_
  refine q_then (hK1 _ _ ?_)
  refine w_seq (fun K7 hK6 => ?_)
  refine w_block ?_
  refine w_seq (fun K9 hK8 => ?_)
  refine w_region ?_
  refine w_p (y_fieldAddr (o := 0) (i := 0) Try.underlying76 rfl Try.sizeOf9 rfl rfl rfl) rfl ?_
  refine w_p (y_load1 Try.isAgg9 hs5 rfl rfl (ats_own (i := 0) (vs := [_]) rfl rfl)) rfl ?_
  refine w_call want_none Try.call56 rfl rfl rfl rfl (c56 _ hnm hs5) ?_
  rintro _ w11 ⟨rfl, hs12⟩
  refine w_p (y_not rfl rfl) rfl ?_
  refine w_p (y_assign (v := .bool _) rfl rfl) rfl ?_
  refine w_nil ?_
  refine q_then (hK8 _ _ ?_)
  refine w_cond rfl rfl (fun h13 => ?_) (fun h13 => ?_)
  ·
   try simp only [zA, zB, zC, zD, zE, zF] at h13
   refine w_seq (fun K15 hK14 => ?_)
   refine w_region ?_
   refine w_p (y_assign (v := _) rfl rfl) rfl ?_
   refine w_nil ?_
   refine q_then (hK14 _ _ ?_)
   refine w_ret ?_
   refine q_blk_ret ?_
   refine q_then_ret ?_
   refine q_ret (l := [.tmp 6]) (vs := [_]) rfl ⟨⟨rfl, show _ = (.int _ _ : Value) from rfl⟩, trivial⟩ ?_
   try simp only [List.any_cons, List.any_nil, Bool.or_false, Bool.or_eq_false_iff] at h13
   first
     | exact ⟨congrArg (Value.int .i64) (ctrE_a (by assumption)).symm, hs12.tail⟩
     | exact ⟨congrArg (Value.int .i64) (ctrE_b (by assumption) (by assumption)).symm, hs12.tail⟩
     | exact ⟨congrArg (Value.int .i64) (ctrE_d (by assumption) (by assumption) (by simp [h13]; done) (by omega)).symm, hs12.tail⟩
     | exact ⟨congrArg (Value.int .i64) (by rw [ctrE_e (by assumption) (by assumption) (by simp [h13]; done) (by omega)]; simp [h13]), hs12.tail⟩
     | exact ⟨congrArg (Value.int .i64) (by rw [ctrE_c (by assumption) (by assumption)]; simp [h13]), hs12.tail⟩
  ·
   try simp only [zA, zB, zC, zD, zE, zF] at h13
   refine w_seq (fun K17 hK16 => ?_)
   refine w_region ?_
   refine w_p (y_fieldAddr (o := 2) (i := 2) Try.underlying25 rfl Try.sizeOf23 rfl rfl rfl) rfl ?_
   refine w_p (y_load1 Try.isAgg23 hs12.tail rfl rfl (show Ats _ _ _ _ [_] from Ats.part hb 2 1)) rfl ?_
   refine w_p (y_move (v := .int _ _) rfl rfl) rfl ?_
   refine w_p (y_sliceS (l' := 0) (h' := i) Try.underlying23 Try.sizeOf76 rfl rfl rfl ⟨rfl, _, _, rfl, rfl⟩ (by omega) (by omega)) rfl ?_
   refine w_p (y_makeFunc (fv := []) (cv := [_]) rfl rfl rfl rfl) rfl ?_
   refine w_call want_none Try.call57 rfl rfl rfl rfl ((by have h := c57 _ (b.ctrs.take i) p.pc (p.cc - 0) (by rw [List.length_take]; omega) (sl_takeK hm.c.cons (by omega) hm.cc) Try.call58 #[] #[.pointer (some ⟨b3, 0, none⟩)] (fun x => decide (x.name = (b.ctrs[i]'hi).name)) (fun j hj w hs => c58 _ _ _ _ _ (ats_own (i := 0) (vs := Ctr.cells (b.ctrs[i]'hi) (p.pc i)) rfl rfl) hs) hs12; rw [show (b.ctrs.take i).length = i from by rw [List.length_take]; omega] at h; exact h)) ?_
   rintro _ w19 ⟨rfl, hs20⟩
   refine w_p (y_assign (v := .bool _) rfl rfl) rfl ?_
   refine w_nil ?_
   refine q_then (hK16 _ _ ?_)
   refine w_cond rfl rfl (fun h21 => ?_) (fun h21 => ?_)
   ·
    try simp only [zA, zB, zC, zD, zE, zF] at h21
    refine w_seq (fun K23 hK22 => ?_)
    refine w_region ?_
    refine w_p (y_assign (v := _) rfl rfl) rfl ?_
    refine w_nil ?_
    refine q_then (hK22 _ _ ?_)
    refine w_ret ?_
    refine q_blk_ret ?_
    refine q_then_ret ?_
    refine q_ret (l := [.tmp 6]) (vs := [_]) rfl ⟨⟨rfl, show _ = (.int _ _ : Value) from rfl⟩, trivial⟩ ?_
    try simp only [List.any_cons, List.any_nil, Bool.or_false, Bool.or_eq_false_iff] at h13 h21
    first
      | exact ⟨congrArg (Value.int .i64) (ctrE_a (by assumption)).symm, hs20.tail⟩
      | exact ⟨congrArg (Value.int .i64) (ctrE_b (by assumption) (by assumption)).symm, hs20.tail⟩
      | exact ⟨congrArg (Value.int .i64) (ctrE_d (by assumption) (by assumption) (by simp [h13, h21]; done) (by omega)).symm, hs20.tail⟩
      | exact ⟨congrArg (Value.int .i64) (by rw [ctrE_e (by assumption) (by assumption) (by simp [h13, h21]; done) (by omega)]; simp [h13, h21]), hs20.tail⟩
      | exact ⟨congrArg (Value.int .i64) (by rw [ctrE_c (by assumption) (by assumption)]; simp [h13, h21]), hs20.tail⟩
   ·
    try simp only [zA, zB, zC, zD, zE, zF] at h21
    refine w_seq (fun K25 hK24 => ?_)
    refine w_region ?_
    refine w_p (y_fieldAddr (o := 1) (i := 1) Try.underlying76 rfl Try.sizeOf3 rfl rfl rfl) rfl ?_
    refine w_p (y_load1 Try.isAgg3 hs20 rfl rfl (ats_own (i := 0) (vs := [_]) rfl rfl)) rfl ?_
    refine w_p (y_fieldAddr (o := 2) (i := 2) Try.underlying76 rfl Try.sizeOf3 rfl rfl rfl) rfl ?_
    refine w_p (y_load1 Try.isAgg3 hs20 rfl rfl (ats_own (i := 0) (vs := [_]) rfl rfl)) rfl ?_
    refine w_bslice (ps := [(0, _), (1, _)]) (pv := [(0, .int _ _), (1, .int _ _)]) (cs := [_, _]) want_none rfl rfl (fun w => Try_C_fb2 _ _ w) hs20 (fun b26 w27 hs28 => ?_)
    refine w_call want_none Try.call51 rfl rfl rfl rfl (c51 _ _ _ [_, _] _ (by simp) (sl_own (i := 0) (rows := [[_], [_]]) rfl (by simp) rfl) hs28) ?_
    rintro _ w30 ⟨rfl, hs31⟩
    refine w_p (y_move (v := .bool _) rfl rfl) rfl ?_
    refine w_split (fun h32 => ?_) (fun h32 => ?_)
    ·
     try simp only [zA, zB, zC, zD, zE, zF] at h32
     refine w_skipop rfl rfl rfl ?_
     refine w_skipop rfl rfl rfl ?_
     refine w_skipop rfl rfl rfl ?_
     refine w_skipop rfl rfl rfl ?_
     refine w_p (y_pickT (v := _) rfl rfl rfl rfl) rfl ?_
     refine w_p (y_assign (v := .bool _) rfl rfl) rfl ?_
     refine w_nil ?_
     refine q_then (hK24 _ _ ?_)
     refine w_condT rfl rfl ?_
     refine w_seq (fun K34 hK33 => ?_)
     refine w_region ?_
     refine w_p (y_assign (v := _) rfl rfl) rfl ?_
     refine w_nil ?_
     refine q_then (hK33 _ _ ?_)
     refine w_ret ?_
     refine q_blk_ret ?_
     refine q_then_ret ?_
     refine q_ret (l := [.tmp 6]) (vs := [_]) rfl ⟨⟨rfl, show _ = (.int _ _ : Value) from rfl⟩, trivial⟩ ?_
     try simp only [List.any_cons, List.any_nil, Bool.or_false, Bool.or_eq_false_iff] at h13 h21 h32
     first
       | exact ⟨congrArg (Value.int .i64) (ctrE_a (by assumption)).symm, hs31.tail.tail⟩
       | exact ⟨congrArg (Value.int .i64) (ctrE_b (by assumption) (by assumption)).symm, hs31.tail.tail⟩
       | exact ⟨congrArg (Value.int .i64) (ctrE_d (by assumption) (by assumption) (by simp [h13, h21, h32]; done) (by omega)).symm, hs31.tail.tail⟩
       | exact ⟨congrArg (Value.int .i64) (by rw [ctrE_e (by assumption) (by assumption) (by simp [h13, h21, h32]; done) (by omega)]; simp [h13, h21, h32]), hs31.tail.tail⟩
       | exact ⟨congrArg (Value.int .i64) (by rw [ctrE_c (by assumption) (by assumption)]; simp [h13, h21, h32]), hs31.tail.tail⟩
    ·
     try simp only [zA, zB, zC, zD, zE, zF] at h32
     refine w_y rfl rfl rfl (y_fieldAddr (o := 3) (i := 3) Try.underlying76 rfl Try.sizeOf3 rfl rfl rfl) rfl ?_
     refine w_y rfl rfl rfl (y_load1 Try.isAgg3 hs31 rfl rfl (ats_own (i := 1) (vs := [_]) rfl rfl)) rfl ?_
     refine w_bslice (ps := [(0, _)]) (pv := [(0, .int _ _)]) (cs := [_]) (want_yes rfl rfl rfl) rfl rfl (fun w => Try_C_fb1 _ w) hs31 (fun b35 w36 hs37 => ?_)
     refine w_call (want_yes rfl rfl rfl) Try.call51 rfl rfl rfl rfl (c51 _ _ _ [_] _ (by simp) (sl_own (i := 0) (rows := [[_]]) rfl (by simp) rfl) hs37) ?_
     rintro _ w39 ⟨rfl, hs40⟩
     refine w_p (y_pickF (v := .bool _) rfl rfl rfl rfl) rfl ?_
     refine w_p (y_assign (v := .bool _) rfl rfl) rfl ?_
     refine w_nil ?_
     refine q_then (hK24 _ _ ?_)
     refine w_cond rfl rfl (fun h41 => ?_) (fun h41 => ?_)
     ·
      try simp only [zA, zB, zC, zD, zE, zF] at h41
      refine w_seq (fun K43 hK42 => ?_)
      refine w_region ?_
      refine w_p (y_assign (v := _) rfl rfl) rfl ?_
      refine w_nil ?_
      refine q_then (hK42 _ _ ?_)
      refine w_ret ?_
      refine q_blk_ret ?_
      refine q_then_ret ?_
      refine q_ret (l := [.tmp 6]) (vs := [_]) rfl ⟨⟨rfl, show _ = (.int _ _ : Value) from rfl⟩, trivial⟩ ?_
      try simp only [List.any_cons, List.any_nil, Bool.or_false, Bool.or_eq_false_iff] at h13 h21 h32 h41
      first
        | exact ⟨congrArg (Value.int .i64) (ctrE_a (by assumption)).symm, hs40.tail.tail.tail⟩
        | exact ⟨congrArg (Value.int .i64) (ctrE_b (by assumption) (by assumption)).symm, hs40.tail.tail.tail⟩
        | exact ⟨congrArg (Value.int .i64) (ctrE_d (by assumption) (by assumption) (by simp [h13, h21, h32, h41]; done) (by omega)).symm, hs40.tail.tail.tail⟩
        | exact ⟨congrArg (Value.int .i64) (by rw [ctrE_e (by assumption) (by assumption) (by simp [h13, h21, h32, h41]; done) (by omega)]; simp [h13, h21, h32, h41]), hs40.tail.tail.tail⟩
        | exact ⟨congrArg (Value.int .i64) (by rw [ctrE_c (by assumption) (by assumption)]; simp [h13, h21, h32, h41]), hs40.tail.tail.tail⟩
     ·
      try simp only [zA, zB, zC, zD, zE, zF] at h41
      refine w_seq (fun K45 hK44 => ?_)
      refine w_region ?_
      refine w_p (y_fieldAddr (o := 4) (i := 4) Try.underlying76 rfl Try.sizeOf39 rfl rfl rfl) rfl ?_
      refine w_p (y_load1 Try.isAgg39 hs40 rfl rfl (ats_own (i := 2) (vs := [_]) rfl rfl)) rfl ?_
      refine w_p (y_lenS Try.underlying39 rfl rfl) rfl ?_
      refine w_p (y_load1 Try.isAgg3 hs40.tail.tail.tail rfl rfl hn) rfl ?_
      refine w_p (y_neq rfl rfl rfl rfl) rfl ?_
      refine w_p (y_move (v := .bool _) rfl rfl) rfl ?_
      refine w_split (fun h46 => ?_) (fun h46 => ?_)
      ·
       try simp only [zA, zB, zC, zD, zE, zF] at h46
       refine w_skipop rfl rfl rfl ?_
       refine w_skipop rfl rfl rfl ?_
       refine w_skipop rfl rfl rfl ?_
       refine w_skipop rfl rfl rfl ?_
       refine w_skipop rfl rfl rfl ?_
       refine w_p (y_pickT (v := _) rfl rfl rfl rfl) rfl ?_
       refine w_p (y_assign (v := .bool _) rfl rfl) rfl ?_
       refine w_nil ?_
       refine q_then (hK44 _ _ ?_)
       refine w_condT rfl rfl ?_
       refine w_seq (fun K48 hK47 => ?_)
       refine w_region ?_
       refine w_p (y_assign (v := _) rfl rfl) rfl ?_
       refine w_nil ?_
       refine q_then (hK47 _ _ ?_)
       refine w_ret ?_
       refine q_blk_ret ?_
       refine q_then_ret ?_
       refine q_ret (l := [.tmp 6]) (vs := [_]) rfl ⟨⟨rfl, show _ = (.int _ _ : Value) from rfl⟩, trivial⟩ ?_
       try simp only [List.any_cons, List.any_nil, Bool.or_false, Bool.or_eq_false_iff] at h13 h21 h32 h41 h46
       first
         | exact ⟨congrArg (Value.int .i64) (ctrE_a (by assumption)).symm, hs40.tail.tail.tail⟩
         | exact ⟨congrArg (Value.int .i64) (ctrE_b (by assumption) (by assumption)).symm, hs40.tail.tail.tail⟩
         | exact ⟨congrArg (Value.int .i64) (ctrE_d (by assumption) (by assumption) (by simp [h13, h21, h32, h41, h46]; done) (by omega)).symm, hs40.tail.tail.tail⟩
         | exact ⟨congrArg (Value.int .i64) (by rw [ctrE_e (by assumption) (by assumption) (by simp [h13, h21, h32, h41, h46]; done) (by omega)]; simp [h13, h21, h32, h41, h46]), hs40.tail.tail.tail⟩
         | exact ⟨congrArg (Value.int .i64) (by rw [ctrE_c (by assumption) (by assumption)]; simp [h13, h21, h32, h41, h46]), hs40.tail.tail.tail⟩
      ·
       try simp only [zA, zB, zC, zD, zE, zF] at h46
       refine w_y rfl rfl rfl (y_fieldAddr (o := 5) (i := 5) Try.underlying76 rfl Try.sizeOf39 rfl rfl rfl) rfl ?_
       refine w_y rfl rfl rfl (y_load1 Try.isAgg39 hs40 rfl rfl (ats_own (i := 2) (vs := [_]) rfl rfl)) rfl ?_
       refine w_y rfl rfl rfl (y_lenS Try.underlying39 rfl rfl) rfl ?_
       refine w_y rfl rfl rfl (y_load1 Try.isAgg3 hs40.tail.tail.tail rfl rfl hn) rfl ?_
       refine w_y rfl rfl rfl (y_neq rfl rfl rfl rfl) rfl ?_
       refine w_p (y_pickF (v := .bool _) rfl rfl rfl rfl) rfl ?_
       refine w_p (y_assign (v := .bool _) rfl rfl) rfl ?_
       refine w_nil ?_
       refine q_then (hK44 _ _ ?_)
       refine w_cond rfl rfl (fun h49 => ?_) (fun h49 => ?_)
       ·
        try simp only [zA, zB, zC, zD, zE, zF] at h49
        refine w_seq (fun K51 hK50 => ?_)
        refine w_region ?_
        refine w_p (y_assign (v := _) rfl rfl) rfl ?_
        refine w_nil ?_
        refine q_then (hK50 _ _ ?_)
        refine w_ret ?_
        refine q_blk_ret ?_
        refine q_then_ret ?_
        refine q_ret (l := [.tmp 6]) (vs := [_]) rfl ⟨⟨rfl, show _ = (.int _ _ : Value) from rfl⟩, trivial⟩ ?_
        try simp only [List.any_cons, List.any_nil, Bool.or_false, Bool.or_eq_false_iff] at h13 h21 h32 h41 h46 h49
        first
          | exact ⟨congrArg (Value.int .i64) (ctrE_a (by assumption)).symm, hs40.tail.tail.tail⟩
          | exact ⟨congrArg (Value.int .i64) (ctrE_b (by assumption) (by assumption)).symm, hs40.tail.tail.tail⟩
          | exact ⟨congrArg (Value.int .i64) (ctrE_d (by assumption) (by assumption) (by simp [h13, h21, h32, h41, h46, h49]; done) (by omega)).symm, hs40.tail.tail.tail⟩
          | exact ⟨congrArg (Value.int .i64) (by rw [ctrE_e (by assumption) (by assumption) (by simp [h13, h21, h32, h41, h46, h49]; done) (by omega)]; simp [h13, h21, h32, h41, h46, h49]), hs40.tail.tail.tail⟩
          | exact ⟨congrArg (Value.int .i64) (by rw [ctrE_c (by assumption) (by assumption)]; simp [h13, h21, h32, h41, h46, h49]), hs40.tail.tail.tail⟩
       ·
        try simp only [zA, zB, zC, zD, zE, zF] at h49
        refine w_seq (fun K53 hK52 => ?_)
        refine w_region ?_
        refine w_p (y_fieldAddr (o := 4) (i := 4) Try.underlying76 rfl Try.sizeOf39 rfl rfl rfl) rfl ?_
        refine w_p (y_load1 Try.isAgg39 hs40 rfl rfl (ats_own (i := 2) (vs := [_]) rfl rfl)) rfl ?_
        refine w_call want_none Try.call51 rfl rfl rfl rfl (c51 _ _ _ (b.ctrs[i]'hi).zero _ (by omega) (hm.z i hi).cons.cons.cons hs40) ?_
        rintro _ w55 ⟨rfl, hs56⟩
        refine w_p (y_move (v := .bool _) rfl rfl) rfl ?_
        refine w_split (fun h57 => ?_) (fun h57 => ?_)
        ·
         try simp only [zA, zB, zC, zD, zE, zF] at h57
         refine w_skipop rfl rfl rfl ?_
         refine w_skipop rfl rfl rfl ?_
         refine w_skipop rfl rfl rfl ?_
         refine w_p (y_pickT (v := _) rfl rfl rfl rfl) rfl ?_
         refine w_p (y_assign (v := .bool _) rfl rfl) rfl ?_
         refine w_nil ?_
         refine q_then (hK52 _ _ ?_)
         refine w_condT rfl rfl ?_
         refine w_seq (fun K59 hK58 => ?_)
         refine w_region ?_
         refine w_p (y_assign (v := _) rfl rfl) rfl ?_
         refine w_nil ?_
         refine q_then (hK58 _ _ ?_)
         refine w_ret ?_
         refine q_blk_ret ?_
         refine q_then_ret ?_
         refine q_ret (l := [.tmp 6]) (vs := [_]) rfl ⟨⟨rfl, show _ = (.int _ _ : Value) from rfl⟩, trivial⟩ ?_
         try simp only [List.any_cons, List.any_nil, Bool.or_false, Bool.or_eq_false_iff] at h13 h21 h32 h41 h46 h49 h57
         first
           | exact ⟨congrArg (Value.int .i64) (ctrE_a (by assumption)).symm, hs56.tail.tail.tail⟩
           | exact ⟨congrArg (Value.int .i64) (ctrE_b (by assumption) (by assumption)).symm, hs56.tail.tail.tail⟩
           | exact ⟨congrArg (Value.int .i64) (ctrE_d (by assumption) (by assumption) (by simp [h13, h21, h32, h41, h46, h49, h57]; done) (by omega)).symm, hs56.tail.tail.tail⟩
           | exact ⟨congrArg (Value.int .i64) (by rw [ctrE_e (by assumption) (by assumption) (by simp [h13, h21, h32, h41, h46, h49, h57]; done) (by omega)]; simp [h13, h21, h32, h41, h46, h49, h57]), hs56.tail.tail.tail⟩
           | exact ⟨congrArg (Value.int .i64) (by rw [ctrE_c (by assumption) (by assumption)]; simp [h13, h21, h32, h41, h46, h49, h57]), hs56.tail.tail.tail⟩
        ·
         try simp only [zA, zB, zC, zD, zE, zF] at h57
         refine w_y rfl rfl rfl (y_fieldAddr (o := 5) (i := 5) Try.underlying76 rfl Try.sizeOf39 rfl rfl rfl) rfl ?_
         refine w_y rfl rfl rfl (y_load1 Try.isAgg39 hs56 rfl rfl (ats_own (i := 2) (vs := [_]) rfl rfl)) rfl ?_
         refine w_call (want_yes rfl rfl rfl) Try.call51 rfl rfl rfl rfl (c51 _ _ _ (b.ctrs[i]'hi).shown _ (by omega) (hm.s i hi).cons.cons.cons hs56) ?_
         rintro _ w61 ⟨rfl, hs62⟩
         refine w_p (y_pickF (v := .bool _) rfl rfl rfl rfl) rfl ?_
         refine w_p (y_assign (v := .bool _) rfl rfl) rfl ?_
         refine w_nil ?_
         refine q_then (hK52 _ _ ?_)
         refine w_cond rfl rfl (fun h63 => ?_) (fun h63 => ?_)
         ·
          try simp only [zA, zB, zC, zD, zE, zF] at h63
          refine w_seq (fun K65 hK64 => ?_)
          refine w_region ?_
          refine w_p (y_assign (v := _) rfl rfl) rfl ?_
          refine w_nil ?_
          refine q_then (hK64 _ _ ?_)
          refine w_ret ?_
          refine q_blk_ret ?_
          refine q_then_ret ?_
          refine q_ret (l := [.tmp 6]) (vs := [_]) rfl ⟨⟨rfl, show _ = (.int _ _ : Value) from rfl⟩, trivial⟩ ?_
          try simp only [List.any_cons, List.any_nil, Bool.or_false, Bool.or_eq_false_iff] at h13 h21 h32 h41 h46 h49 h57 h63
          first
            | exact ⟨congrArg (Value.int .i64) (ctrE_a (by assumption)).symm, hs62.tail.tail.tail⟩
            | exact ⟨congrArg (Value.int .i64) (ctrE_b (by assumption) (by assumption)).symm, hs62.tail.tail.tail⟩
            | exact ⟨congrArg (Value.int .i64) (ctrE_d (by assumption) (by assumption) (by simp [h13, h21, h32, h41, h46, h49, h57, h63]; done) (by omega)).symm, hs62.tail.tail.tail⟩
            | exact ⟨congrArg (Value.int .i64) (by rw [ctrE_e (by assumption) (by assumption) (by simp [h13, h21, h32, h41, h46, h49, h57, h63]; done) (by omega)]; simp [h13, h21, h32, h41, h46, h49, h57, h63]), hs62.tail.tail.tail⟩
            | exact ⟨congrArg (Value.int .i64) (by rw [ctrE_c (by assumption) (by assumption)]; simp [h13, h21, h32, h41, h46, h49, h57, h63]), hs62.tail.tail.tail⟩
         ·
          try simp only [zA, zB, zC, zD, zE, zF] at h63
          refine w_skip ?_
          refine q_blk_normal ?_
          refine q_then (hK6 _ _ ?_)
          refine w_seq (fun K67 hK66 => ?_)
          refine w_region ?_
          refine w_p (y_assign (v := _) rfl rfl) rfl ?_
          refine w_nil ?_
          refine q_then (hK66 _ _ ?_)
          refine w_ret ?_
          refine q_ret (l := [.tmp 6]) (vs := [_]) rfl ⟨⟨rfl, show _ = (.int _ _ : Value) from rfl⟩, trivial⟩ ?_
          try simp only [List.any_cons, List.any_nil, Bool.or_false, Bool.or_eq_false_iff] at h13 h21 h32 h41 h46 h49 h57 h63
          first
            | exact ⟨congrArg (Value.int .i64) (ctrE_a (by assumption)).symm, hs62.tail.tail.tail⟩
            | exact ⟨congrArg (Value.int .i64) (ctrE_b (by assumption) (by assumption)).symm, hs62.tail.tail.tail⟩
            | exact ⟨congrArg (Value.int .i64) (ctrE_d (by assumption) (by assumption) (by simp [h13, h21, h32, h41, h46, h49, h57, h63]; done) (by omega)).symm, hs62.tail.tail.tail⟩
            | exact ⟨congrArg (Value.int .i64) (by rw [ctrE_e (by assumption) (by assumption) (by simp [h13, h21, h32, h41, h46, h49, h57, h63]; done) (by omega)]; simp [h13, h21, h32, h41, h46, h49, h57, h63]), hs62.tail.tail.tail⟩
            | exact ⟨congrArg (Value.int .i64) (by rw [ctrE_c (by assumption) (by assumption)]; simp [h13, h21, h32, h41, h46, h49, h57, h63]), hs62.tail.tail.tail⟩

end Go.Proofs
/- The chain layer's arguments, opened; what a law that holds leaves behind. No conditions. -/
set_option maxRecDepth 100000
set_option linter.unusedSimpArgs false
set_option linter.unusedVariables false
namespace Go.Proofs.Ytgndnnpadkoagaa
open Go.Rt Go.Rt.Ch Go.RowKit Go.ChangeShapes Go.WideShapes Go.ChangeAt
instance : Inhabited Hour := ⟨⟨0, 0, 0⟩⟩
instance : Inhabited (Ctr × AtC) := ⟨(⟨ByteArray.empty, 0, 0, 0, [], []⟩, ⟨none, 0, none, 0⟩)⟩
theorem Try.own : ownKnob Try.prog.godebug = none := by kernel_rfl
theorem Try.laidOut : laidOutB Try.prog = true := by kernel_rfl
theorem cells70 : Try.prog.cellsOf 70 = 3 := by kernel_rfl
theorem cells76 : Try.prog.cellsOf 76 = 6 := by kernel_rfl
theorem cells31 : Try.prog.cellsOf 31 = 2 := by kernel_rfl
theorem cells25 : Try.prog.cellsOf 25 = 3 := by kernel_rfl
theorem cells22 : Try.prog.cellsOf 22 = 1 := by kernel_rfl
theorem cells23 : Try.prog.cellsOf 23 = 1 := by kernel_rfl
theorem cells39 : Try.prog.cellsOf 39 = 1 := by kernel_rfl
theorem cells3 : Try.prog.cellsOf 3 = 1 := by kernel_rfl
theorem cells9 : Try.prog.cellsOf 9 = 1 := by kernel_rfl
variable {H : Type} {enc : TypeId × Value → H} {W : World} {sp : Nat → Bool} {held : Bool}
theorem u8_wf {n : Int} (h : (Lit.int .u8 n).wf = true) : 0 ≤ n ∧ n ≤ 255 := by
  simp only [Lit.wf, Bool.and_eq_true, decide_eq_true_eq] at h
  exact h
theorem open_span {fuel : Nat} {cs : List Value} {x : DataW H × List MemPlace} (h : DataW.trod enc Try.prog W 0 sp held fuel 31 cs = some x) : ∃ a b : Int, cs = [.int .i64 a, .int .i64 b] := by
  have hl := trod_len Try.underlying31 h
  rw [cells31] at hl
  obtain ⟨n, y, h0⟩ := trod_field Try.underlying31 h 0 3 0 1 rfl rfl rfl cells3
  obtain ⟨n1, y1, h1⟩ := trod_field Try.underlying31 h 1 3 1 1 rfl rfl rfl cells3
  match cs, hl with
  | [c0, c1], _ =>
    obtain ⟨a, e0⟩ := trod_i64 Try.underlying3 h0
    obtain ⟨b, e1⟩ := trod_i64 Try.underlying3 h1
    simp at e0 e1
    exact ⟨a, b, by rw [e0, e1]⟩
theorem open_hour (fuel : Nat) (cs : List Value) (y : DataW H × List MemPlace) (h : DataW.trod enc Try.prog W 0 sp held fuel 70 cs = some y) : ∃ f : Hour, cs = f.cells ∧ True := by
  have hl := trod_len Try.underlying70 h
  rw [cells70] at hl
  obtain ⟨_, _, h0⟩ := trod_field Try.underlying70 h 0 3 0 1 rfl rfl rfl cells3
  obtain ⟨_, _, h1⟩ := trod_field Try.underlying70 h 1 31 1 2 rfl rfl rfl cells31
  match cs, hl with
  | [c0, c1, c2], _ =>
    obtain ⟨x0, e0⟩ := trod_i64 Try.underlying3 h0
    obtain ⟨x1, x2, e1⟩ := open_span h1
    simp at e0 e1
    exact ⟨⟨x0, x1, x2⟩, by rw [e0, e1.1, e1.2]; rfl, trivial⟩
theorem open_int (fuel : Nat) (cs : List Value) (y : DataW H × List MemPlace) (h : DataW.trod enc Try.prog W 0 sp held fuel 3 cs = some y) : ∃ z : Int, cs = [.int .i64 z] ∧ True := by
  obtain ⟨z, e⟩ := trod_i64 Try.underlying3 h
  exact ⟨z, e, trivial⟩
/-- What is known of a counter that comes in. -/
structure CIn (w0 : World) (c : Ctr × AtC) : Prop where
  nm : c.1.name.size ≤ 9223372036854775807
  z : Sl w0 [] c.2.az 1 (c.1.zero.map fun x => [Value.int .i64 x])
  s : Sl w0 [] c.2.as 1 (c.1.shown.map fun x => [Value.int .i64 x])
  lz : c.1.zero.length ≤ 9223372036854775807 ∧ c.1.zero.length ≤ c.2.cz
  ls : c.1.shown.length ≤ 9223372036854775807 ∧ c.1.shown.length ≤ c.2.cs
theorem open_ctr (fuel : Nat) (cs : List Value) (y : DataW H × List MemPlace) (h : DataW.trod enc Try.prog W 0 sp held fuel 76 cs = some y) : ∃ f : Ctr × AtC, cs = f.1.cells f.2 ∧ CIn W f := by
  have hl := trod_len Try.underlying76 h
  rw [cells76] at hl
  obtain ⟨_, _, h0⟩ := trod_field Try.underlying76 h 0 9 0 1 rfl rfl rfl cells9
  obtain ⟨_, _, h1⟩ := trod_field Try.underlying76 h 1 3 1 1 rfl rfl rfl cells3
  obtain ⟨_, _, h2⟩ := trod_field Try.underlying76 h 2 3 2 1 rfl rfl rfl cells3
  obtain ⟨_, _, h3⟩ := trod_field Try.underlying76 h 3 3 3 1 rfl rfl rfl cells3
  obtain ⟨_, _, h4⟩ := trod_field Try.underlying76 h 4 39 4 1 rfl rfl rfl cells39
  obtain ⟨_, _, h5⟩ := trod_field Try.underlying76 h 5 39 5 1 rfl rfl rfl cells39
  match cs, hl with
  | [c0, c1, c2, c3, c4, c5], _ =>
    obtain ⟨s, e0, _, hs⟩ := DataW.trod_string Try.underlying9 h0
    obtain ⟨x1, e1⟩ := trod_i64 Try.underlying3 h1
    obtain ⟨x2, e2⟩ := trod_i64 Try.underlying3 h2
    obtain ⟨x3, e3⟩ := trod_i64 Try.underlying3 h3
    obtain ⟨az, cz, lz, e4, hz1, hz2, hz3, _⟩ := open_rows (row := fun z : Int => [Value.int .i64 z]) (ok := fun _ => True) Try.underlying39 cells3 (by omega) (fun _ => rfl) open_int h4
    obtain ⟨as_, cs_, ls, e5, hs1, hs2, hs3, _⟩ := open_rows (row := fun z : Int => [Value.int .i64 z]) (ok := fun _ => True) Try.underlying39 cells3 (by omega) (fun _ => rfl) open_int h5
    simp at e0 e1 e2 e3 e4 e5
    exact ⟨(⟨s, x1, x2, x3, lz, ls⟩, ⟨az, cz, as_, cs_⟩), by rw [e0, e1, e2, e3, e4, e5]; rfl, ⟨by simpa [maxLen] using hs, hz1, hs1, ⟨hz3, hz2⟩, ⟨hs3, hs2⟩⟩⟩
theorem open_board {v : Value} {d : DataW H} {ps : List MemPlace} {r : Reach} {b0 : Nat} (hval : Value.okWide Try.prog W r b0 25 v) (h : DataW.Trod enc Try.prog W 0 sp held 25 v d ps) :
    ∃ (b : Board) (p : AtB), v = .agg (b.cells p).toArray ∧ BIn W [] b p := by
  obtain ⟨xs, rfl, hsz⟩ : ∃ xs, v = .agg xs ∧ xs.size = 3 := by
    unfold Value.okWide at hval
    rw [Try.underlying25] at hval
    obtain ⟨cs, h1, h2, _⟩ := hval
    exact ⟨cs, h1, by rw [h2, cells25]⟩
  obtain ⟨fuel, hf⟩ := h
  have hf2 : DataW.trod enc Try.prog W 0 sp held fuel 25 xs.toList = some (d, ps) := hf
  obtain ⟨_, _, h0⟩ := trod_field Try.underlying25 hf2 0 3 0 1 rfl rfl rfl cells3
  obtain ⟨_, _, h1⟩ := trod_field Try.underlying25 hf2 1 22 1 1 rfl rfl rfl cells22
  obtain ⟨_, _, h2⟩ := trod_field Try.underlying25 hf2 2 23 2 1 rfl rfl rfl cells23
  obtain ⟨xl, rfl⟩ : ∃ l : List Value, xs = l.toArray := ⟨xs.toList, by simp⟩
  have hl3 : xl.length = 3 := by simpa using hsz
  match xl, hl3 with
  | [c0, c1, c2], _ =>
    obtain ⟨x0, e0⟩ := trod_i64 Try.underlying3 h0
    obtain ⟨ah, ch, lh, e1, hsh, hch, hmh, _⟩ := open_rows (row := Hour.cells) (ok := fun _ => True) Try.underlying22 cells70 (by omega) (fun _ => rfl) open_hour h1
    obtain ⟨ac, cc, lc, e2, hsc, hcc, hmc, hnc⟩ := open_rows (row := fun c : Ctr × AtC => c.1.cells c.2) (ok := CIn W) Try.underlying23 cells76 (by omega) (fun _ => rfl) open_ctr h2
    simp at e0 e1 e2
    have hk : krows (lc.map (·.1)) (fun i => (lc.getD i default).2) = lc.map fun c => c.1.cells c.2 := by
      unfold krows
      apply List.ext_getElem
      · simp
      · intro i h1 h2
        have hi : i < lc.length := by simpa using h2
        simp [List.getD, hi]
    have hat : ∀ i (hi : i < (lc.map (·.1)).length), CIn W (lc.getD i default) ∧ (lc.map (·.1))[i] = (lc.getD i default).1 := by
      intro i hi
      have hi2 : i < lc.length := by simpa using hi
      have e : lc.getD i default = lc[i] := by simp [List.getD, hi2]
      rw [e]
      exact ⟨hnc _ (List.getElem_mem hi2), by simp⟩
    refine ⟨⟨x0, lh, lc.map (·.1)⟩, ⟨ah, ch, ac, cc, fun i => (lc.getD i default).2⟩, by rw [e0, e1, e2]; simp [Board.cells], ⟨hsh, by rw [hk]; exact hsc, fun i hi => ?_, fun i hi => ?_, hmh, by simpa using hmc, hch, by simpa using hcc, fun i hi => ?_, fun i hi => ?_, fun x hx => ?_⟩⟩
    · rw [(hat i hi).2]; exact (hat i hi).1.z
    · rw [(hat i hi).2]; exact (hat i hi).1.s
    · rw [(hat i hi).2]; exact (hat i hi).1.lz
    · rw [(hat i hi).2]; exact (hat i hi).1.ls
    · obtain ⟨c, hc, rfl⟩ := List.mem_map.1 hx
      exact (hnc c hc).nm
theorem slice_nil {fuel : Nat} {t el : TypeId} {a : Option Addr} {n c : Nat} {y : DataW H × List MemPlace} (ht : Try.prog.underlying t = some (.slice el)) (h : DataW.trod enc Try.prog W 0 sp held fuel t [.slice a n c] = some y) : a = none → c = 0 := by
  rcases DataW.trod_slice ht h with ⟨hcs, _⟩ | ⟨a', len, cap, elems, rest, m, _, hcs, _⟩
  · have e : Value.slice a n c = .slice none 0 0 := (List.cons.inj hcs).1
    injection e with e1 e2 e3
    exact fun _ => e3
  · have e : Value.slice a n c = .slice (some a') len cap := (List.cons.inj hcs).1
    injection e with e1 e2 e3
    exact fun h => (by rw [h] at e1; cases e1)
theorem board_nil {b : Board} {p : AtB} {d : DataW H} {ps : List MemPlace} (h : DataW.Trod enc Try.prog W 0 sp held 25 (.agg (b.cells p).toArray) d ps) : (p.ah = none → p.ch = 0) ∧ (p.ac = none → p.cc = 0) := by
  obtain ⟨fuel, hf⟩ := h
  have hf2 : DataW.trod enc Try.prog W 0 sp held fuel 25 (b.cells p) = some (d, ps) := hf
  obtain ⟨_, _, h1⟩ := trod_field Try.underlying25 hf2 1 22 1 1 rfl rfl rfl cells22
  obtain ⟨_, _, h2⟩ := trod_field Try.underlying25 hf2 2 23 2 1 rfl rfl rfl cells23
  exact ⟨slice_nil Try.underlying22 h1, slice_nil Try.underlying23 h2⟩
end Go.Proofs.Ytgndnnpadkoagaa
/- Arguments of flat types, opened. No conditions. -/
set_option maxRecDepth 100000
set_option linter.unusedSimpArgs false
set_option linter.unusedVariables false
namespace Go.Proofs.Ytgndnnpadkoagaa
open Go.Rt Go.RowKit Go.ChangeShapes Go.WideShapes Go.ChangeAt
variable {H : Type} {enc : TypeId × Value → H} {W : World} {sp : Nat → Bool} {held : Bool}
theorem cel5 {fuel : Nat} {cs : List Value} {y : DataW H × List MemPlace} (h : DataW.trod enc Try.prog W 0 sp held fuel 5 cs = some y) : ∃ (x0 : Int), cs = [.int .u8 x0] ∧ (0 ≤ x0 ∧ x0 ≤ 255) := by
  obtain ⟨n, e, _, hw⟩ := DataW.trod_int Try.underlying5 h
  exact ⟨n, e, u8_wf hw⟩
theorem opn5 {v : Value} {d : DataW H} {ps : List MemPlace} {r : Reach} {b0 : Nat} (hval : Value.okWide Try.prog W r b0 5 v) (h : DataW.Trod enc Try.prog W 0 sp held 5 v d ps) : ∃ x0 : Int, v = .int .u8 x0 ∧ (0 ≤ x0 ∧ x0 ≤ 255) := by
  obtain ⟨z, rfl⟩ := okWide_int Try.underlying5 hval
  obtain ⟨fuel, hf⟩ := h
  obtain ⟨n, e, hr⟩ := cel5 hf
  have e2 : ([Value.int .u8 z] : List Value) = [.int .u8 n] := e
  cases e2
  exact ⟨z, rfl, hr⟩
end Go.Proofs.Ytgndnnpadkoagaa
/- Plain words of the chain layer: ways, step by step; what counters make of loads, as sets of numbers. No conditions. -/
set_option linter.unusedSimpArgs false
set_option linter.unusedVariables false
namespace Go.Rt.Ch
open Go.Rt.Ha
def wrows (l : List Way) : List (List Value) := l.map Way.cells
def hourOf (b : Board) (a : Nat) : Hour := b.hours.getD a ⟨0, 0, 0⟩
def waysAt (b : Board) (c a : Nat) (s : Int) : List Way := waysC (ctrOf b c) (hourOf b a) a s
theorem ctr_at {b : Board} {c : Nat} (h : c < b.ctrs.length) : ctrOf b c = b.ctrs[c] := by simp [ctrOf, List.getD, h]
theorem hour_at {b : Board} {a : Nat} (h : a < b.hours.length) : hourOf b a = b.hours[a] := by simp [hourOf, List.getD, h]
/-- The ways of the first so many of: not set to 0, set to 0. -/
def wTo (c : Ctr) (h : Hour) (a : Nat) (s : Int) : Nat → List Way
  | 0 => []
  | n + 1 => wTo c h a s n ++ waysZ c h a s (decide (n = 1))
theorem wTo_two (c : Ctr) (h : Hour) (a : Nat) (s : Int) : wTo c h a s 2 = waysC c h a s := by
  show ([] ++ waysZ c h a s (decide (0 = 1))) ++ waysZ c h a s (decide (1 = 1)) = _
  rfl
theorem wTo_no {c : Ctr} {h : Hour} {a : Nat} {s : Int} {n : Nat} (hz : canZ c a (decide (n = 1)) = false) : wTo c h a s (n + 1) = wTo c h a s n := by
  rw [wTo, waysZ, hz]; simp
def wPart (c : Ctr) (a : Nat) (s : Int) (z : Bool) (lo : Int) (q : Nat) : List Way := (upto lo q).flatMap (wayR c a s z)
theorem upto_end : ∀ (n : Nat) (lo : Int), upto lo (n + 1) = upto lo n ++ [lo + n]
  | 0, lo => by simp [upto]
  | n + 1, lo => by
    rw [upto, upto_end n (lo + 1), upto]
    simp only [List.cons_append]
    rw [show lo + 1 + (n : Int) = lo + (n + 1 : Nat) by omega]
theorem wPart_y {c : Ctr} {a : Nat} {s lo : Int} {z : Bool} {q : Nat} (h : c.shown.getD a 0 = -1 ∨ c.shown.getD a 0 = shOf s z (lo + q)) : wPart c a s z lo (q + 1) = wPart c a s z lo q ++ [⟨lo + q, shOf s z (lo + q), z⟩] := by
  unfold wPart
  rw [upto_end, List.flatMap_append]
  simp only [List.flatMap_cons, List.flatMap_nil, List.append_nil, wayR, if_pos h]
theorem wPart_n {c : Ctr} {a : Nat} {s lo : Int} {z : Bool} {q : Nat} (h : ¬ (c.shown.getD a 0 = -1 ∨ c.shown.getD a 0 = shOf s z (lo + q))) : wPart c a s z lo (q + 1) = wPart c a s z lo q := by
  unfold wPart
  rw [upto_end, List.flatMap_append]
  simp only [List.flatMap_cons, List.flatMap_nil, List.append_nil, wayR, if_neg h]
theorem wPart_len (c : Ctr) (a : Nat) (s lo : Int) (z : Bool) : ∀ q, (wPart c a s z lo q).length ≤ q
  | 0 => by simp [wPart, upto]
  | q + 1 => by
    have ih := wPart_len c a s lo z q
    by_cases h : c.shown.getD a 0 = -1 ∨ c.shown.getD a 0 = shOf s z (lo + q)
    · rw [wPart_y h, List.length_append]; simp; omega
    · rw [wPart_n h]; omega
theorem wPart_all {c : Ctr} {h : Hour} {a : Nat} {s : Int} {n q : Nat} (hz : canZ c a (decide (n = 1)) = true) (hq : q = (h.hi + c.twice + 1 - max 0 (h.lo - c.skip)).toNat) : wTo c h a s (n + 1) = wTo c h a s n ++ wPart c a s (decide (n = 1)) (max 0 (h.lo - c.skip)) q := by
  subst hq
  rw [wTo, waysZ, hz]; rfl
theorem waysZ_len {c : Ctr} {h : Hour} {a : Nat} {s : Int} {z : Bool} {n : Nat} (hc : c.Ok n) {k : Int} (hh : h.Ok k) : (waysZ c h a s z).length ≤ 10 := by
  unfold waysZ
  split
  · have := wPart_len c a s (max 0 (h.lo - c.skip)) z (h.hi + c.twice + 1 - max 0 (h.lo - c.skip)).toNat
    have h1 := hc.skip
    have h2 := hc.twice
    have h3 := hh.w
    have h4 := hh.lo
    have h5 := hh.le
    refine Nat.le_trans this ?_
    omega
  · simp
theorem wTo_len {c : Ctr} {h : Hour} {a : Nat} {s : Int} {n : Nat} (hc : c.Ok n) {k : Int} (hh : h.Ok k) : ∀ m, (wTo c h a s m).length ≤ 10 * m
  | 0 => by simp [wTo]
  | m + 1 => by
    have ih := wTo_len (a := a) (s := s) hc hh m
    have := waysZ_len (a := a) (s := s) (z := decide (m = 1)) hc hh
    rw [wTo, List.length_append]; omega
theorem canZ_n {c : Ctr} {a n : Nat} (hn : n < 2) (h : (n = 0 ∧ c.zero.getD a 0 = 1) ∨ (n = 1 ∧ c.zero.getD a 0 = 0)) : canZ c a (decide (n = 1)) = false := by
  unfold canZ
  rcases h with ⟨h1, h2⟩ | ⟨h1, h2⟩
  · subst h1; simp only [show decide (0 = 1) = false from rfl, Bool.false_eq_true, if_false]; simp only [h2]; rfl
  · subst h1; simp only [show decide (1 = 1) = true from rfl, if_true]; simp only [h2]; rfl
theorem canZ_y {c : Ctr} {a n : Nat} (hn : n < 2) (h : ¬ ((n = 0 ∧ c.zero.getD a 0 = 1) ∨ (n = 1 ∧ c.zero.getD a 0 = 0))) : canZ c a (decide (n = 1)) = true := by
  unfold canZ
  by_cases e : n = 1
  · subst e
    rw [decide_eq_true rfl, if_pos rfl, decide_eq_true_eq]
    intro h2; exact h (.inr ⟨rfl, h2⟩)
  · rw [decide_eq_false e, if_neg (by simp), decide_eq_true_eq]
    intro h2; exact h (.inl ⟨by omega, h2⟩)
theorem sh_mul {s k : Int} {n : Nat} (hn : n < 2) : (s * (1 - (n : Int)) + k) % 100 = shOf s (decide (n = 1)) k := by
  unfold shOf
  by_cases e : n = 1
  · subst e; simp
  · have : n = 0 := by omega
    subst this; simp
theorem mul_in {s : Int} {n : Nat} (hn : n < 2) (hs : 0 ≤ s ∧ s < 100) : 0 ≤ s * (1 - (n : Int)) ∧ s * (1 - (n : Int)) < 100 := by
  by_cases e : n = 1
  · subst e; simp
  · have : n = 0 := by omega
    subst this; simp; omega
end Go.Rt.Ch
/- Plain words of the chain layer: what counters make of loads, as sets of numbers. No conditions. -/
set_option linter.unusedSimpArgs false
set_option linter.unusedVariables false
namespace Go.Rt.Ch
open Go.Rt.Ha
/-- What a way makes of a counter that stands so. -/
def kOne (l : List Int) (q : Quest) (k : Nat) (t : Int) (w : Way) : Int := w.shows + if decide (100 ≤ t) || q k (ld l k) w then 100 else 0
def kFit (c : Ctr) (l : List Int) (k : Nat) (w : Way) : Prop := 0 - c.skip ≤ w.counts - ld l k ∧ w.counts - ld l k ≤ c.twice
def GoodL (c : Ctr) (l : List Int) (q : Quest) (k : Nat) (t : Int) (ws : List Way) (z : Int) : Prop := ∃ w ∈ ws, kFit c l k w ∧ z = kOne l q k t w
def Good (c : Ctr) (h : Hour) (l : List Int) (q : Quest) (k : Nat) (z t : Int) : Prop := GoodL c l q k t (waysC c h k (t % 100)) z
def KeysOf (ks : List Int) (xs : List (Int × Bool)) : Prop := ∀ z, z ∈ ks ↔ ∃ x ∈ xs, enc x = z
theorem good_zero (c : Ctr) (l : List Int) (q : Quest) (k : Nat) (t : Int) (ws : List Way) (z : Int) : ¬ GoodL c l q k t (ws.take 0) z := by rintro ⟨w, h, _⟩; simp at h
theorem good_no {c : Ctr} {l : List Int} {q : Quest} {k : Nat} {t : Int} {ws : List Way} {j : Nat} (hj : j < ws.length) (h : ¬ kFit c l k ws[j]) (z : Int) : GoodL c l q k t (ws.take (j + 1)) z ↔ GoodL c l q k t (ws.take j) z := by
  rw [List.take_succ_eq_append_getElem hj]
  unfold GoodL
  constructor
  · rintro ⟨w, hw, h1, h2⟩
    rcases List.mem_append.1 hw with hw | hw
    · exact ⟨w, hw, h1, h2⟩
    · rw [List.mem_singleton] at hw; subst hw; exact absurd h1 h
  · rintro ⟨w, hw, h1, h2⟩; exact ⟨w, List.mem_append_left _ hw, h1, h2⟩
theorem good_yes {c : Ctr} {l : List Int} {q : Quest} {k : Nat} {t : Int} {ws : List Way} {j : Nat} (hj : j < ws.length) (h : kFit c l k ws[j]) (z : Int) : GoodL c l q k t (ws.take (j + 1)) z ↔ GoodL c l q k t (ws.take j) z ∨ z = kOne l q k t ws[j] := by
  rw [List.take_succ_eq_append_getElem hj]
  unfold GoodL
  constructor
  · rintro ⟨w, hw, h1, h2⟩
    rcases List.mem_append.1 hw with hw | hw
    · exact .inl ⟨w, hw, h1, h2⟩
    · rw [List.mem_singleton] at hw; subst hw; exact .inr h2
  · rintro (⟨w, hw, h1, h2⟩ | h2)
    · exact ⟨w, List.mem_append_left _ hw, h1, h2⟩
    · exact ⟨_, List.mem_append_right _ (.head _), h, h2⟩
theorem good_all (c : Ctr) (l : List Int) (q : Quest) (k : Nat) (t : Int) (ws : List Way) (z : Int) {j : Nat} (hj : ws.length ≤ j) : GoodL c l q k t (ws.take j) z ↔ GoodL c l q k t ws z := by rw [List.take_of_length_le hj]
theorem keys_zero (c : Ctr) (l : List Int) (q : Quest) : KeysOf [c.start] (fareTo c l q 0) := by
  intro z
  rw [List.mem_singleton]
  constructor
  · rintro rfl; exact ⟨_, .head _, by unfold enc; simp⟩
  · rintro ⟨x, hx, rfl⟩
    simp only [fareTo, List.mem_singleton] at hx
    subst hx; unfold enc; simp
theorem keys_next {c : Ctr} {n : Nat} (hc : c.Ok n) {h : Hour} {l : List Int} {q : Quest} {k : Nat} (hl : h.lo ≤ ld l k ∧ ld l k ≤ h.hi) (h0 : 0 ≤ h.lo) {ks nx : List Int} (hk : KeysOf ks (fareTo c l q k)) (hn : ∀ z, z ∈ nx ↔ ∃ t ∈ ks, Good c h l q k z t) : KeysOf nx (fareTo c l q (k + 1)) := by
  intro z
  rw [hn]
  constructor
  · rintro ⟨t, ht, w, hw, h1, h2⟩
    obtain ⟨x, hx, rfl⟩ := (hk t).1 ht
    have hr := fare_in hc k hx
    rw [enc_mod hr] at hw
    refine ⟨(w.shows, x.2 || q k (ld l k) w), ?_, ?_⟩
    · simp only [fareTo, List.mem_flatMap, List.mem_map]
      exact ⟨x, hx, w, (steps_ways hl h0).2 ⟨hw, h1⟩, rfl⟩
    · rw [h2]
      unfold kOne enc
      simp only
      have : decide (100 ≤ x.1 + if x.2 = true then 100 else 0) = x.2 := by
        have := enc_ge hr
        unfold enc at this
        rw [Bool.eq_iff_iff, decide_eq_true_eq]; exact this
      rw [this]
  · rintro ⟨x, hx, rfl⟩
    simp only [fareTo, List.mem_flatMap, List.mem_map] at hx
    obtain ⟨y, hy, w, hw, rfl⟩ := hx
    have hr := fare_in hc k hy
    have hsw := (steps_ways (c := c) (h := h) (a := k) (s := y.1) hl h0).1 hw
    refine ⟨enc y, (hk _).2 ⟨y, hy, rfl⟩, w, by rw [enc_mod hr]; exact hsw.1, hsw.2, ?_⟩
    unfold kOne
    have : decide (100 ≤ enc y) = y.2 := by rw [Bool.eq_iff_iff, decide_eq_true_eq]; exact enc_ge hr
    rw [this]
    rfl
theorem keys_in {c : Ctr} {n : Nat} (hc : c.Ok n) {l : List Int} {q : Quest} {k : Nat} {ks : List Int} (hk : KeysOf ks (fareTo c l q k)) {z : Int} (hz : z ∈ ks) : 0 ≤ z ∧ z < 200 := by
  obtain ⟨x, hx, rfl⟩ := (hk z).1 hz
  have := fare_in hc k hx
  unfold enc
  split <;> omega
theorem keys_not {c : Ctr} {n : Nat} (hc : c.Ok n) {l : List Int} {q : Quest} {k : Nat} {ks : List Int} (hk : KeysOf ks (fareTo c l q k)) : (ks.any fun z => decide (z < 100)) = notF c l q k := by
  unfold notF
  rw [Bool.eq_iff_iff, List.any_eq_true, List.any_eq_true]
  constructor
  · rintro ⟨z, hz, h⟩
    obtain ⟨x, hx, rfl⟩ := (hk z).1 hz
    have h2 := enc_ge (fare_in hc k hx)
    refine ⟨x, hx, ?_⟩
    cases hb : x.2 with
    | false => rfl
    | true => have := h2.2 hb; simp at h; omega
  · rintro ⟨x, hx, h⟩
    have h2 := enc_ge (fare_in hc k hx)
    refine ⟨enc x, (hk _).2 ⟨x, hx, rfl⟩, ?_⟩
    simp only [decide_eq_true_eq]
    refine Int.not_le.1 fun h3 => ?_
    rw [h2.1 h3] at h; cases h
theorem keys_met {c : Ctr} {n : Nat} (hc : c.Ok n) {l : List Int} {q : Quest} {k : Nat} {ks : List Int} (hk : KeysOf ks (fareTo c l q k)) : (ks.any fun z => decide (100 ≤ z)) = metF c l q k := by
  unfold metF
  rw [Bool.eq_iff_iff, List.any_eq_true, List.any_eq_true]
  constructor
  · rintro ⟨z, hz, h⟩
    obtain ⟨x, hx, rfl⟩ := (hk z).1 hz
    exact ⟨x, hx, (enc_ge (fare_in hc k hx)).1 (by simpa using h)⟩
  · rintro ⟨x, hx, h⟩
    exact ⟨enc x, (hk _).2 ⟨x, hx, rfl⟩, by simpa using (enc_ge (fare_in hc k hx)).2 h⟩
theorem ways_len {c : Ctr} {h : Hour} {a : Nat} {s : Int} {n : Nat} (hc : c.Ok n) {k : Int} (hh : h.Ok k) : (waysC c h a s).length ≤ 20 := by
  have := wTo_len (a := a) (s := s) hc hh 2
  rw [wTo_two] at this; exact this
end Go.Rt.Ch
/- Plain laws of the hand layer: Check as the reference has it; a lot that is told by a way. No conditions. -/
set_option linter.unusedSimpArgs false
set_option linter.unusedVariables false
namespace Go.Rt.Ha
def bunchR (b : Bunch) : Int := if ends b.lo b.hi 1 12 = 7 ∨ ends b.slo b.shi 0 9 = 7 then 7 else if ends b.lo b.hi 1 12 ≠ 0 ∨ ends b.slo b.shi 0 9 ≠ 0 ∨ 3 < b.hi - b.lo then 2 else 0
def allN : Nat → Int
  | 0 => 0
  | k + 1 => 2 * allN k + 1
/-! ### A lot whose counts are those of a way -/
def toldC (h : List Int) (c : Count) : Count := { c with hands := counted c.bits.toNat 0 h }
def told (l : Lot) (h : List Int) : Lot := { l with counts := l.counts.map (toldC h) }
theorem failE_iff {α : Type} {err : List α → α → Int} {lo most : Int} {l : List α} : (failE err lo most l).2 = 0 ↔ (lo ≤ l.length ∧ (l.length : Int) ≤ most) ∧ ∀ k (h : k < l.length), err (l.take k) l[k] = 0 := by
  constructor
  · exact failE_zero
  · rintro ⟨h1, h2⟩
    unfold failE
    rw [if_neg (by unfold out; simp; omega)]
    have key : ∀ (r b : List α) (i : Int), b ++ r = l → (firstE err b i r).2 = 0 := by
      intro r
      induction r with
      | nil => intro b i _; rfl
      | cons x r ih =>
        intro b i hb
        have h3 := h2 b.length (by rw [← hb]; simp)
        have e1 : l.take b.length = b := by rw [← hb]; simp
        have e2 : l[b.length]'(by rw [← hb]; simp) = x := by subst hb; simp
        rw [e1, e2] at h3
        unfold firstE
        rw [if_pos h3]
        exact ih (b ++ [x]) _ (by rw [← hb]; simp)
    exact key l [] 0 rfl
theorem check_iff {l : Lot} : (check l).2.2 = 0 ↔ (failE gradeE 1 4 l.grades).2 = 0 ∧ (failE bunchE 0 6 l.bunches).2 = 0 ∧ (failE (countE l.bunches.length) 0 4 l.counts).2 = 0 := by
  constructor
  · exact check_parts
  · rintro ⟨h1, h2, h3⟩
    unfold check
    rw [if_neg (by simp [h1]), if_neg (by simp [h2]), if_neg (by simp [h3])]
end Go.Rt.Ha
/- Plain words of the hand layer: all ways, as they are yielded one after the other, filled up to six numbers. No conditions. -/
set_option linter.unusedSimpArgs false
set_option linter.unusedVariables false
namespace Go.Rt.Ha
def pad6 (h : List Int) : List Int := h ++ List.replicate (6 - h.length) 0
/-! ### Ways that begin so -/
def segW (l : Lot) (but d : Nat) (pre : List Int) : List (List Int) := (((felt (l.bunches.drop d)).map (pre ++ ·)).filter fun h => soFrom but h 0 l.counts).map pad6
def restW (l : Lot) (but d : Nat) (pre : List Int) (xs : List Int) : List (List Int) := xs.flatMap fun x => segW l but (d + 1) (pre ++ [x])
theorem upto_step {lo : Int} {k n : Nat} (h : k < n) : upto (lo + k) (n - k) = (lo + k) :: upto (lo + (k + 1 : Nat)) (n - (k + 1)) := by
  rw [show n - k = (n - (k + 1)) + 1 by omega, upto, show lo + (k : Int) + 1 = lo + (k + 1 : Nat) by omega]
/-! ### Each way once -/
theorem upto_nodup : ∀ (n : Nat) (lo : Int), (upto lo n).Nodup
  | 0, _ => by simp [upto]
  | n + 1, lo => by
    simp only [upto, List.nodup_cons]
    exact ⟨fun h => by have := (upto_mem n (lo + 1) lo).1 h; omega, upto_nodup n (lo + 1)⟩
theorem felt_nodup : ∀ bs : List Bunch, (felt bs).Nodup
  | [] => by simp [felt]
  | b :: bs => by
    have ih := felt_nodup bs
    have key : ∀ xs : List Int, xs.Nodup → (xs.flatMap fun n => (felt bs).map (n :: ·)).Nodup := by
      intro xs
      induction xs with
      | nil => intro _; simp
      | cons x xs ihx =>
        intro hn
        rw [List.nodup_cons] at hn
        rw [List.flatMap_cons, List.nodup_append]
        refine ⟨by unfold List.Nodup; rw [List.pairwise_map]; exact List.Pairwise.imp (fun h e => h (by simpa using e)) ih, ihx hn.2, ?_⟩
        intro a ha b hb hab
        obtain ⟨u, _, rfl⟩ := List.mem_map.1 ha
        obtain ⟨y, hy, hb⟩ := List.mem_flatMap.1 hb
        obtain ⟨v, _, rfl⟩ := List.mem_map.1 hb
        injection hab with h1 h2
        subst h1
        exact hn.1 hy
    exact key _ (upto_nodup _ _)
/-! ### Lists that are gone through -/
theorem drop_lt {α : Type} {l : List α} {i : Nat} {x : α} {r : List α} (h : l.drop i = x :: r) : i < l.length := by
  rcases Nat.lt_or_ge i l.length with h1 | h1
  · exact h1
  · rw [List.drop_of_length_le h1] at h; cases h
theorem drop_get {α : Type} {l : List α} {i : Nat} {x : α} {r : List α} (h : l.drop i = x :: r) : l[i]'(drop_lt h) = x := by
  rw [List.drop_eq_getElem_cons (drop_lt h)] at h
  injection h
theorem drop_next {α : Type} {l : List α} {i : Nat} {x : α} {r : List α} (h : l.drop i = x :: r) : l.drop (i + 1) = r := by
  rw [List.drop_eq_getElem_cons (drop_lt h)] at h
  injection h
theorem drop_done {α : Type} {l : List α} {i : Nat} (hi : i ≤ l.length) (h : l.drop i = []) : i = l.length := by
  have := congrArg List.length h; simp at this; omega
theorem drop_notin {α : Type} {l : List α} {i : Nat} {x : α} {r : List α} (hn : l.Nodup) (h : l.drop i = x :: r) : x ∉ r := by
  have h1 : (l.drop i).Nodup := List.Sublist.nodup (List.drop_sublist _ _) hn
  rw [h, List.nodup_cons] at h1; exact h1.1
/-! ### Numbers set in a list of six -/
theorem set_take {cur pre : List Int} {d : Nat} {x : Int} (hk : cur.take d = pre) (hd : d < cur.length) : (cur.set d x).take (d + 1) = pre ++ [x] := by
  rw [List.take_succ_eq_append_getElem (by simpa using hd), List.take_set_of_le (Nat.le_refl _), hk]; simp
theorem set_zero {cur : List Int} {d n : Nat} {x : Int} (hd : d < n) (hz : ∀ j, n ≤ j → cur.getD j 0 = 0) : ∀ j, n ≤ j → (cur.set d x).getD j 0 = 0 := by
  intro j hj
  have := hz j hj
  simp only [List.getD, List.getElem?_set_ne (show d ≠ j by omega)] at this ⊢; exact this
theorem take_less {cur pre : List Int} {d : Nat} {x : Int} (hk : cur.take (d + 1) = pre ++ [x]) (hp : pre.length = d) : cur.take d = pre := by
  have h := congrArg (List.take d) hk
  rw [List.take_take, Nat.min_eq_left (by omega)] at h
  rw [h, ← hp]; simp
end Go.Rt.Ha
/- Plain words of the hand layer: grades as bits, one number of scars after the other. No conditions. -/
set_option linter.unusedSimpArgs false
set_option linter.unusedVariables false
namespace Go.Rt.Ha
theorem upto_snoc : ∀ (n : Nat) (lo : Int), upto lo (n + 1) = upto lo n ++ [lo + n]
  | 0, lo => by simp [upto]
  | n + 1, lo => by
    rw [upto, upto_snoc n (lo + 1)]
    simp only [upto, List.cons_append]
    rw [show lo + 1 + (n : Int) = lo + (n + 1 : Nat) by omega]
end Go.Rt.Ha
/- Plain words of the hand layer: sums of hands, step by step. No conditions. -/
set_option linter.unusedSimpArgs false
set_option linter.unusedVariables false
namespace Go.Rt.Ha
/-! ### How often -/
def oftL (b : Nat) (ws : List (List Int)) : List Int := (List.range 13).map fun n : Nat => often b (n : Int) ws
theorem ways_max : (4 : Nat) ^ 6 = 4096 := by decide
theorem felt_len {bs : List Bunch} (h : ∀ b ∈ bs, b.hi + 1 - b.lo ≤ 4) : (felt bs).length ≤ 4 ^ bs.length := by
  induction bs with
  | nil => simp [felt]
  | cons b bs ih =>
    have ih := ih fun x hx => h x (.tail _ hx)
    have hb := h b (.head _)
    have hl : (spanL b.lo b.hi).length ≤ 4 := by
      have : ∀ n lo, (upto lo n).length = n := by intro n; induction n with
        | zero => intro lo; rfl
        | succ n ih => intro lo; simp [upto, ih]
      unfold spanL; rw [this]; omega
    have key : ∀ xs : List Int, (xs.flatMap fun n => (felt bs).map (n :: ·)).length = xs.length * (felt bs).length := by
      intro xs
      induction xs with
      | nil => simp
      | cons x xs ih => rw [List.flatMap_cons, List.length_append, ih, List.length_map, List.length_cons, Nat.succ_mul]; omega
    simp only [felt]
    rw [key, List.length_cons, Nat.pow_succ, Nat.mul_comm]
    exact Nat.mul_le_mul ih hl
theorem ways_len {l : Lot} (hok : l.Ok) (but : Nat) : (ways l but).length ≤ 4096 := by
  have h1 := List.length_filter_le (fun h => soFrom but h 0 l.counts) (felt l.bunches)
  have h2 := felt_len (bs := l.bunches) (fun b hb => by have := hok.bunch b hb; omega)
  have h3 : 4 ^ l.bunches.length ≤ 4 ^ 6 := Nat.pow_le_pow_right (by omega) hok.lb
  have h4 := ways_max
  unfold ways; omega
end Go.Rt.Ha
/- Plain words of the hand layer: what the document's functions do, step by step. No conditions. -/
set_option linter.unusedSimpArgs false
set_option linter.unusedVariables false
namespace Go.Rt.Ha
theorem filt_yes {ws : List (List Int)} {p : List Int → Bool} {i : Nat} (hi : i < ws.length) (h : p ws[i] = true) : (ws.take (i + 1)).filter p = (ws.take i).filter p ++ [ws[i]] := by
  rw [List.take_succ_eq_append_getElem hi, List.filter_append]; simp [h]
theorem filt_no {ws : List (List Int)} {p : List Int → Bool} {i : Nat} (hi : i < ws.length) (h : p ws[i] = false) : (ws.take (i + 1)).filter p = (ws.take i).filter p := by
  rw [List.take_succ_eq_append_getElem hi, List.filter_append]; simp [h]
/-! ### All numbers, step by step -/
def feltTo (l : Lot) (i : Nat) : List (List Int) := felt (l.bunches.take i)
def fNext (b : Bunch) (h : List Int) : List (List Int) := (spanL b.lo b.hi).map fun n => h ++ [n]
def fTo (b : Bunch) (ws : List (List Int)) (k : Nat) : List (List Int) := (ws.take k).flatMap (fNext b)
theorem felt_zero (l : Lot) : feltTo l 0 = [[]] := rfl
theorem felt_step {l : Lot} {i : Nat} (hi : i < l.bunches.length) : fTo l.bunches[i] (feltTo l i) (feltTo l i).length = feltTo l (i + 1) := by
  unfold fTo feltTo
  rw [List.take_length, List.take_succ_eq_append_getElem hi, felt_snoc]; rfl
theorem fTo_succ {b : Bunch} {ws : List (List Int)} {k : Nat} (hk : k < ws.length) : fTo b ws (k + 1) = fTo b ws k ++ fNext b ws[k] := by
  unfold fTo; rw [List.take_succ_eq_append_getElem hk, List.flatMap_append]; simp
def fPart (b : Bunch) (h : List Int) (q : Nat) : List (List Int) := (upto b.lo q).map fun n => h ++ [n]
theorem fPart_succ (b : Bunch) (h : List Int) (q : Nat) : fPart b h (q + 1) = fPart b h q ++ [h ++ [b.lo + q]] := by unfold fPart; rw [upto_snoc, List.map_append]; rfl
theorem fPart_all {b : Bunch} {h : List Int} {q : Nat} (hq : q = (b.hi + 1 - b.lo).toNat) : fPart b h q = fNext b h := by subst hq; rfl
theorem upto_len : ∀ (n : Nat) (lo : Int), (upto lo n).length = n
  | 0, _ => rfl
  | n + 1, lo => by simp [upto, upto_len n]
theorem fPart_len (b : Bunch) (h : List Int) (q : Nat) : (fPart b h q).length = q := by simp [fPart, upto_len]
theorem fTo_len {b : Bunch} {ws : List (List Int)} (hb : b.hi + 1 - b.lo ≤ 4) (k : Nat) : (fTo b ws k).length ≤ 4 * ws.length := by
  have h1 : (fTo b ws k).length ≤ (ws.take k).length * 4 := flat_le _ fun x _ => by unfold fNext spanL; rw [List.length_map, upto_len]; omega
  have h2 : (ws.take k).length ≤ ws.length := by rw [List.length_take]; omega
  have h3 : (ws.take k).length * 4 ≤ ws.length * 4 := Nat.mul_le_mul_right 4 h2
  omega
/-! ### Errors -/
def kE (l : Lot) (e : Int) : Int := if e ≠ 0 then e else if ways l 0 = [] then 8 else 0
def idxC (l : Lot) (n : Int) (b : Nat) : Int := if (check l).2.2 = 0 then idxE n b else (check l).2.2
end Go.Rt.Ha
/- Plain words of the chain layer: what the document's functions do, step by step: errors, loads, steps. No conditions. -/
set_option linter.unusedSimpArgs false
set_option linter.unusedVariables false
namespace Go.Rt.Ch
open Go.Rt.Ha
theorem ends_cases (a b lo hi : Int) : (ends a b lo hi = 7 ∧ (out lo hi a || out lo hi b) = true) ∨ (ends a b lo hi = 2 ∧ (out lo hi a || out lo hi b) = false ∧ b < a) ∨ (ends a b lo hi = 0 ∧ (out lo hi a || out lo hi b) = false ∧ ¬ b < a) := by
  unfold ends
  cases h : (out lo hi a || out lo hi b)
  · by_cases h2 : b < a
    · exact .inr (.inl ⟨by simp [h2], rfl, h2⟩)
    · exact .inr (.inr ⟨by simp [h2], rfl, h2⟩)
  · exact .inl ⟨rfl, rfl⟩
theorem out_y {lo hi n : Int} : out lo hi n = true ↔ ¬ (lo ≤ n ∧ n ≤ hi) := by rw [← out_f]; simp
theorem hour_4 {holds : Int} {bf : List Hour} {h : Hour} (e : ¬ (0 ≤ h.hold ∧ h.hold ≤ holds - 1)) : hourE holds bf h = 4 := by unfold hourE; rw [if_pos (out_y.2 e)]
theorem hour_e {holds : Int} {bf : List Hour} {h : Hour} (e : 0 ≤ h.hold ∧ h.hold ≤ holds - 1) (e2 : ends h.lo h.hi 0 40 ≠ 0) : hourE holds bf h = ends h.lo h.hi 0 40 := by
  unfold hourE
  rw [out_f.2 e, if_neg (by simp)]
  rcases ends_cases h.lo h.hi 0 40 with ⟨h1, h2⟩ | ⟨h1, h2, h3⟩ | ⟨h1, _⟩
  · rw [if_pos h2, h1]
  · rw [h2, if_neg (by simp), if_pos (out_y.2 (by omega)), h1]
  · exact absurd h1 e2
theorem hour_2 {holds : Int} {bf : List Hour} {h : Hour} (e : 0 ≤ h.hold ∧ h.hold ≤ holds - 1) (e2 : ends h.lo h.hi 0 40 = 0) (e3 : 3 < h.hi - h.lo) : hourE holds bf h = 2 := by
  unfold hourE
  rw [out_f.2 e, if_neg (by simp)]
  rcases ends_cases h.lo h.hi 0 40 with ⟨h1, h2⟩ | ⟨h1, h2, h3⟩ | ⟨h1, h2, _⟩
  · omega
  · omega
  · rw [h2, if_neg (by simp), if_pos (out_y.2 (by omega))]
theorem hour_0 {holds : Int} {bf : List Hour} {h : Hour} (e : 0 ≤ h.hold ∧ h.hold ≤ holds - 1) (e2 : ends h.lo h.hi 0 40 = 0) (e3 : ¬ 3 < h.hi - h.lo) : hourE holds bf h = 0 := by
  unfold hourE
  rw [out_f.2 e, if_neg (by simp)]
  rcases ends_cases h.lo h.hi 0 40 with ⟨h1, h2⟩ | ⟨h1, h2, h3⟩ | ⟨h1, h2, h3⟩
  · omega
  · omega
  · rw [h2, if_neg (by simp), if_neg (by rw [out_f.2 (by omega)]; simp)]
/-- The error of a counter behind its name. -/
def ctrOwn (n : Nat) (c : Ctr) : Int := if (out 0 3 c.skip || out 0 3 c.twice) || out 0 99 c.start then 7 else if c.zero.length ≠ n ∨ c.shown.length ≠ n then 3 else if c.zero.any (out 0 2) || c.shown.any (out (-1) 99) then 7 else 0
theorem nameE_ref (b : List ByteArray) (s : ByteArray) : nameE b s = (if nmOk s = false then (6 : Int) else if has b s then 5 else 0) := by unfold nameE; cases nmOk s <;> cases has b s <;> simp
theorem ctrE_0 {n : Nat} {b : List Ctr} {c : Ctr} (h : (if nmOk c.name = false then (6 : Int) else if has (b.map (·.name)) c.name then 5 else 0) = 0) : ctrE n b c = ctrOwn n c := by unfold ctrE; rw [nameE_ref, h, if_neg (by simp)]; rfl
theorem ctrE_n {n : Nat} {b : List Ctr} {c : Ctr} (h : ¬ (if nmOk c.name = false then (6 : Int) else if has (b.map (·.name)) c.name then 5 else 0) = 0) : ctrE n b c = (if nmOk c.name = false then (6 : Int) else if has (b.map (·.name)) c.name then 5 else 0) := by unfold ctrE; rw [nameE_ref, if_pos h]
theorem own_7 {n : Nat} {c : Ctr} (h : ¬ (0 ≤ c.skip ∧ c.skip ≤ 3) ∨ ¬ (0 ≤ c.twice ∧ c.twice ≤ 3) ∨ ¬ (0 ≤ c.start ∧ c.start ≤ 99)) : ctrOwn n c = 7 := by
  unfold ctrOwn
  rw [if_pos]
  rw [Bool.or_eq_true, Bool.or_eq_true, out_y, out_y, out_y]
  rcases h with h | h | h
  · exact .inl (.inl h)
  · exact .inl (.inr h)
  · exact .inr h
theorem own_go {n : Nat} {c : Ctr} (h1 : 0 ≤ c.skip ∧ c.skip ≤ 3) (h2 : 0 ≤ c.twice ∧ c.twice ≤ 3) (h3 : 0 ≤ c.start ∧ c.start ≤ 99) : ctrOwn n c = if c.zero.length ≠ n ∨ c.shown.length ≠ n then 3 else if c.zero.any (out 0 2) || c.shown.any (out (-1) 99) then 7 else 0 := by
  unfold ctrOwn
  rw [if_neg]
  rw [out_f.2 h1, out_f.2 h2, out_f.2 h3]; simp
theorem own_3 {n : Nat} {c : Ctr} (h1 : 0 ≤ c.skip ∧ c.skip ≤ 3) (h2 : 0 ≤ c.twice ∧ c.twice ≤ 3) (h3 : 0 ≤ c.start ∧ c.start ≤ 99) (h : c.zero.length ≠ n ∨ c.shown.length ≠ n) : ctrOwn n c = 3 := by rw [own_go h1 h2 h3, if_pos h]
theorem own_b {n : Nat} {c : Ctr} (h1 : 0 ≤ c.skip ∧ c.skip ≤ 3) (h2 : 0 ≤ c.twice ∧ c.twice ≤ 3) (h3 : 0 ≤ c.start ∧ c.start ≤ 99) (hz : c.zero.length = n) (hs : c.shown.length = n) {i : Nat} (hi : i < n) (h : ¬ (0 ≤ c.zero[i] ∧ c.zero[i] ≤ 2) ∨ ¬ (-1 ≤ c.shown[i] ∧ c.shown[i] ≤ 99)) : ctrOwn n c = 7 := by
  rw [own_go h1 h2 h3, if_neg (by omega), if_pos]
  rw [Bool.or_eq_true, List.any_eq_true, List.any_eq_true]
  rcases h with h | h
  · exact .inl ⟨_, List.getElem_mem _, out_y.2 h⟩
  · exact .inr ⟨_, List.getElem_mem _, out_y.2 h⟩
theorem own_0 {n : Nat} {c : Ctr} (h1 : 0 ≤ c.skip ∧ c.skip ≤ 3) (h2 : 0 ≤ c.twice ∧ c.twice ≤ 3) (h3 : 0 ≤ c.start ∧ c.start ≤ 99) (hz : c.zero.length = n) (hs : c.shown.length = n) (h : (c.zero.take n).any (out 0 2) = false ∧ (c.shown.take n).any (out (-1) 99) = false) : ctrOwn n c = 0 := by
  rw [own_go h1 h2 h3, if_neg (by omega), if_neg]
  rw [List.take_of_length_le (by omega), List.take_of_length_le (by omega)] at h
  rw [h.1, h.2]; simp
theorem any_snoc {lo hi : Int} {l : List Int} {i : Nat} (hi2 : i < l.length) (h : (l.take i).any (out lo hi) = false) (h2 : lo ≤ l[i] ∧ l[i] ≤ hi) : (l.take (i + 1)).any (out lo hi) = false := by
  rw [List.take_succ_eq_append_getElem hi2, List.any_append, h]; simp [out_f.2 h2]
theorem chk_1 {b : Board} (h : ¬ (1 ≤ b.holds ∧ b.holds ≤ 3)) : check b = (1, 0, 7) := by unfold check; rw [if_pos (out_y.2 h)]
theorem chk_h {b : Board} {a e : Int} (h0 : 1 ≤ b.holds ∧ b.holds ≤ 3) (h : failE (hourE b.holds) 0 4 b.hours = (a, e)) (he : ¬ e = 0) : check b = (2, a, e) := by unfold check; rw [out_f.2 h0, if_neg (by simp), if_pos (by rw [h]; exact he), h]
theorem chk_c {b : Board} {a e : Int} (h0 : 1 ≤ b.holds ∧ b.holds ≤ 3) (h1 : (failE (hourE b.holds) 0 4 b.hours).2 = 0) (h : failE (ctrE b.hours.length) 0 2 b.ctrs = (a, e)) (he : ¬ e = 0) : check b = (3, a, e) := by unfold check; rw [out_f.2 h0, if_neg (by simp), if_neg (by simp [h1]), if_pos (by rw [h]; exact he), h]
theorem chk_0 {b : Board} (h0 : 1 ≤ b.holds ∧ b.holds ≤ 3) (h1 : (failE (hourE b.holds) 0 4 b.hours).2 = 0) (h2 : (failE (ctrE b.hours.length) 0 2 b.ctrs).2 = 0) : check b = (0, 0, 0) := by unfold check; rw [out_f.2 h0, if_neg (by simp), if_neg (by simp [h1]), if_neg (by simp [h2])]
theorem fail_most {α : Type} {err : List α → α → Int} {most : Int} {l : List α} (h : most < l.length) : failE err 0 most l = (0, 3) := by unfold failE; rw [if_pos (out_y.2 (by omega))]
theorem fail_go {α : Type} {err : List α → α → Int} {most : Int} {l : List α} (h : ¬ most < l.length) : failE err 0 most l = firstE err [] 0 l := by unfold failE; rw [out_f.2 (by omega), if_neg (by simp)]
/-! ### Loads -/
def fb (b : Board) : Lot := ⟨[], bun b, []⟩
theorem bun_len (b : Board) : (bun b).length = b.hours.length := by simp [bun]
theorem bun_at {b : Board} {i : Nat} (hi : i < b.hours.length) : (bun b)[i]'(by rw [bun_len]; exact hi) = ⟨b.hours[i].lo, b.hours[i].hi, 0, 0⟩ := by simp [bun]
theorem loads_at {b : Board} {l : List Int} (hl : l ∈ felt (bun b)) : l.length = b.hours.length ∧ ∀ i (hi : i < b.hours.length), b.hours[i].lo ≤ ld l i ∧ ld l i ≤ b.hours[i].hi := by
  obtain ⟨h1, h2⟩ := (felt_in _ _).1 hl
  rw [bun_len] at h1
  refine ⟨h1, fun i hi => ?_⟩
  have := h2 i (by rw [bun_len]; exact hi)
  rw [bun_at hi] at this; exact this
/-! ### Steps -/
def srow (load : Int) (w : Way) : List Value := [.int .i64 w.shows, .int .i64 (w.counts - load), .bool w.zero]
def srows (load : Int) (l : List Way) : List (List Value) := l.map (srow load)
def sTo (c : Ctr) (a : Nat) (s load : Int) : Nat → List Way
  | 0 => []
  | n + 1 => sTo c a s load n ++ stepsZ c a s load (decide (n = 1))
def sOne (c : Ctr) (a : Nat) (s load : Int) (z : Bool) (e : Int) : List Way := if 0 ≤ load + e then wayR c a s z (load + e) else []
def sPart (c : Ctr) (a : Nat) (s load : Int) (z : Bool) (q : Nat) : List Way := (upto (0 - c.skip) q).flatMap (sOne c a s load z)
/-! ### What is asked, by an hour -/
def qOf (h : Int) : Quest := fun a load w => (decide (h = -1) && decide (w.counts - load ≠ 0)) || (decide (h = (a : Int)) && w.zero)
end Go.Rt.Ch
/- Plain words of the chain layer: what the document's functions do, step by step: how counters fare, by tables; truths, spans. No conditions. -/
set_option linter.unusedSimpArgs false
set_option linter.unusedVariables false
namespace Go.Rt.Ch
open Go.Rt.Ha
/-- A table of 100 marks says this. -/
def Tab (l : List Bool) (P : Int → Prop) : Prop := l.length = 100 ∧ ∀ n : Nat, n < 100 → (l.getD n false = true ↔ P n)
def Nt (xs : List (Int × Bool)) (n : Int) : Prop := (n, false) ∈ xs
def Mt (xs : List (Int × Bool)) (n : Int) : Prop := (n, true) ∈ xs
/-- What comes of those that show less than s. -/
def NS (c : Ctr) (l : List Int) (q : Quest) (a : Nat) (s n : Int) : Prop := ∃ x ∈ fareTo c l q a, x.1 < s ∧ x.2 = false ∧ ∃ w ∈ stepsC c a x.1 (ld l a), q a (ld l a) w = false ∧ n = w.shows
def MS (c : Ctr) (l : List Int) (q : Quest) (a : Nat) (s n : Int) : Prop := ∃ x ∈ fareTo c l q a, x.1 < s ∧ ∃ w ∈ stepsC c a x.1 (ld l a), (x.2 || q a (ld l a) w) = true ∧ n = w.shows
/-- And of the first so many steps of those that show s. -/
def NP (c : Ctr) (l : List Int) (q : Quest) (a : Nat) (s : Int) (k : Nat) (n : Int) : Prop := NS c l q a s n ∨ ((s, false) ∈ fareTo c l q a ∧ ∃ w ∈ (stepsC c a s (ld l a)).take k, q a (ld l a) w = false ∧ n = w.shows)
def MP (c : Ctr) (l : List Int) (q : Quest) (a : Nat) (s : Int) (k : Nat) (n : Int) : Prop := MS c l q a s n ∨ ∃ w ∈ (stepsC c a s (ld l a)).take k, ((s, true) ∈ fareTo c l q a ∨ ((s, false) ∈ fareTo c l q a ∧ q a (ld l a) w = true)) ∧ n = w.shows
end Go.Rt.Ch
/- Walks of this seat, printed by gen.py over the engine: what each function returns, in whatever world. No conditions but those of each contract. -/
set_option linter.unusedVariables false
set_option linter.unusedSimpArgs false
set_option maxRecDepth 20000
namespace Go.Proofs
open Go.Rt Go.Rt.Ch
open Go.Rt.Ha (firstE firstE_step firstE_stop firstE_end failE nameE felt spanL upto span_mem listL fewest fewTo bit before fewStep drop_lt drop_get drop_next drop_done drop_notin set_take set_zero take_less)
attribute [local irreducible] WL WC Con Yd At Ats Sl Agree DW
theorem Try_S_fb4 (x0 : ByteArray) (w : World) : (Instr.buildSlice 92 1 [(0, .string x0)].toArray).run Try.prog w = .ok (.slice (some ⟨w.heap.size, 0, none⟩) 1 1) (w.alloc (Go.Rt.blk 9 [.string x0])) := by kernel_rfl
theorem Try_info9 : Try.prog.info? 9 = some Try.t9 := by kernel_rfl
theorem ends_ok {a b lo hi : Int} (h : ends a b lo hi = 0) : lo ≤ a ∧ a ≤ hi ∧ lo ≤ b ∧ b ≤ hi ∧ a ≤ b := by
  unfold ends out at h
  split at h
  · cases h
  · rename_i h1
    simp only [Bool.or_eq_true, decide_eq_true_eq, not_or] at h1
    split at h
    · cases h
    · omega
def freshE (s : ByteArray) (l : List ByteArray) : Int := if nmOk s = false then 6 else if has l s then 5 else 0
theorem ctrE_yes {n : Nat} {bf : List Ctr} {c : Ctr} (h : freshE c.name (bf.map (·.name)) = 0) : ctrE n bf c = ctrOwn n c := ctrE_0 h
theorem ctrE_no {n : Nat} {bf : List Ctr} {c : Ctr} (h : ¬ freshE c.name (bf.map (·.name)) = 0) : ctrE n bf c = freshE c.name (bf.map (·.name)) := ctrE_n h
theorem knames_snoc {l : List Ctr} {i : Nat} (hi : i < l.length) : ((l.take i).map (·.name)).map Value.string ++ [Value.string l[i].name] = ((l.take (i + 1)).map (·.name)).map Value.string := by
  rw [List.take_succ_eq_append_getElem hi]; simp only [List.map_append, List.map_cons, List.map_nil]
theorem knames_len {l : List Ctr} {i : Nat} (hi : i ≤ l.length) : ((l.take i).map (·.name)).length = i := by simp; omega
theorem c60 {w0 w : World} {F : List (Nat × Obj)} (b : Board) (p : AtB) (hh : 1 ≤ b.holds ∧ b.holds ≤ 3) (h : Hour) (bf : List Hour) (hs : St w0 w F) :
  Con Try.prog 60 [.agg (b.cells p).toArray, .agg h.cells.toArray] w fun v w' => v = .int .i64 (hourE b.holds bf h) ∧ St w0 w' F := by
  refine con_of_wc (n := 29) Try.func60 rfl rfl (Nat.le_of_ble_eq_true rfl) ?_
  refine w_seq (fun K2 hK1 => ?_)
  refine w_region ?_
  refine w_box (v := .agg #[.int _ _, .slice _ _ _, .slice _ _ _]) (cs := [_, _, _]) want_none rfl rfl rfl hs (fun b3 w4 hs5 => ?_)
  refine w_box (v := .agg #[.int _ _, .int _ _, .int _ _]) (cs := [_, _, _]) want_none rfl rfl rfl hs5 (fun b6 w7 hs8 => ?_)
  refine w_p (y_assign (v := _) rfl rfl) rfl ?_
  refine w_nil ?_
  refine q_then (hK1 _ _ ?_)
  refine w_seq (fun K10 hK9 => ?_)
  refine w_seq (fun K12 hK11 => ?_)
  refine w_region ?_
  refine w_p (y_fieldAddr (o := 0) (i := 0) Try.underlying70 rfl Try.sizeOf3 rfl rfl rfl) rfl ?_
  refine w_p (y_load1 Try.isAgg3 hs8 rfl rfl (ats_own (i := 0) (vs := [_]) rfl rfl)) rfl ?_
  refine w_p (y_fieldAddr (o := 0) (i := 0) Try.underlying25 rfl Try.sizeOf3 rfl rfl rfl) rfl ?_
  refine w_p (y_load1 Try.isAgg3 hs8 rfl rfl (ats_own (i := 1) (vs := [_]) rfl rfl)) rfl ?_
  refine w_p (y_sub rfl rfl rfl rfl (by omega) (by omega)) rfl ?_
  refine w_call want_none Try.call59 rfl rfl rfl rfl (c59 _ _ _ hs8) ?_
  rintro _ w14 ⟨rfl, hs15⟩
  refine w_p (y_not rfl rfl) rfl ?_
  refine w_nil ?_
  refine q_then (hK11 _ _ ?_)
  refine w_cond rfl rfl (fun h16 => ?_) (fun h16 => ?_)
  ·
   try simp only [zA, zB, zC, zD, zE, zF] at h16
   refine w_seq (fun K18 hK17 => ?_)
   refine w_region ?_
   refine w_p (y_assign (v := _) rfl rfl) rfl ?_
   refine w_nil ?_
   refine q_then (hK17 _ _ ?_)
   refine w_ret ?_
   refine q_then_ret ?_
   refine q_ret (l := [.tmp 4]) (vs := [_]) rfl ⟨⟨rfl, show _ = (.int _ _ : Value) from rfl⟩, trivial⟩ ?_
   first
     | exact ⟨congrArg (Value.int .i64) (hour_4 (by assumption)).symm, hs15.tail.tail⟩
     | exact ⟨congrArg (Value.int .i64) (hour_2 (by assumption) (by assumption) (by omega)).symm, hs15.tail.tail⟩
     | exact ⟨congrArg (Value.int .i64) (by rw [hour_0 (by assumption) (by assumption) (by omega)]; assumption), hs15.tail.tail⟩
     | exact ⟨congrArg (Value.int .i64) (hour_e (by assumption) (by assumption)).symm, hs15.tail.tail⟩
  ·
   try simp only [zA, zB, zC, zD, zE, zF] at h16
   refine w_skip ?_
   refine q_then (hK9 _ _ ?_)
   refine w_seq (fun K20 hK19 => ?_)
   refine w_region ?_
   refine w_p (y_fieldAddr (o := 1) (i := 1) Try.underlying70 rfl Try.sizeOf31 rfl rfl rfl) rfl ?_
   refine w_p (y_loadN (vs := [_, _]) Try.isAgg31 Try.sizeOf31 hs15 rfl rfl (ats_own (i := 0) (vs := [_, _]) rfl rfl)) rfl ?_
   refine w_call want_none Try.call96 rfl rfl rfl rfl (c96 _ _ _ _ hs15) ?_
   rintro _ w22 ⟨rfl, hs23⟩
   refine w_p (y_assign (v := .int _ _) rfl rfl) rfl ?_
   refine w_nil ?_
   refine q_then (hK19 _ _ ?_)
   refine w_seq (fun K25 hK24 => ?_)
   refine w_seq (fun K27 hK26 => ?_)
   refine w_region ?_
   refine w_p (y_move (v := .int _ _) rfl rfl) rfl ?_
   refine w_p (y_eql rfl rfl rfl rfl) rfl ?_
   refine w_p (y_move (v := .bool _) rfl rfl) rfl ?_
   refine w_split (fun h28 => ?_) (fun h28 => ?_)
   ·
    try simp only [zA, zB, zC, zD, zE, zF] at h28
    have he1 := ends_ok (by assumption : ends h.lo h.hi 0 40 = 0)
    refine w_y rfl rfl rfl (y_fieldAddr (o := 1) (i := 1) Try.underlying70 rfl Try.sizeOf31 rfl rfl rfl) rfl ?_
    refine w_y rfl rfl rfl (y_fieldAddr (o := 1) (i := 1) Try.underlying31 rfl Try.sizeOf3 rfl rfl rfl) rfl ?_
    refine w_y rfl rfl rfl (y_load1 Try.isAgg3 hs23 rfl rfl (ats_own (i := 0) (vs := [_]) rfl rfl)) rfl ?_
    refine w_y rfl rfl rfl (y_fieldAddr (o := 1) (i := 1) Try.underlying70 rfl Try.sizeOf31 rfl rfl rfl) rfl ?_
    refine w_y rfl rfl rfl (y_fieldAddr (o := 0) (i := 0) Try.underlying31 rfl Try.sizeOf3 rfl rfl rfl) rfl ?_
    refine w_y rfl rfl rfl (y_load1 Try.isAgg3 hs23 rfl rfl (ats_own (i := 0) (vs := [_]) rfl rfl)) rfl ?_
    refine w_y rfl rfl rfl (y_sub rfl rfl rfl rfl (by omega) (by omega)) rfl ?_
    refine w_y rfl rfl rfl (y_gtr rfl rfl rfl rfl) rfl ?_
    refine w_p (y_pickT (v := .bool _) rfl rfl rfl rfl) rfl ?_
    refine w_nil ?_
    refine q_then (hK26 _ _ ?_)
    refine w_cond rfl rfl (fun h29 => ?_) (fun h29 => ?_)
    ·
     try simp only [zA, zB, zC, zD, zE, zF] at h29
     refine w_region ?_
     refine w_p (y_assign (v := _) rfl rfl) rfl ?_
     refine w_nil ?_
     refine q_then (hK24 _ _ ?_)
     refine w_seq (fun K31 hK30 => ?_)
     refine w_region ?_
     refine w_p (y_move (v := .int _ _) rfl rfl) rfl ?_
     refine w_p (y_assign (v := .int _ _) rfl rfl) rfl ?_
     refine w_nil ?_
     refine q_then (hK30 _ _ ?_)
     refine w_ret ?_
     refine q_ret (l := [.tmp 4]) (vs := [_]) rfl ⟨⟨rfl, show _ = (.int _ _ : Value) from rfl⟩, trivial⟩ ?_
     first
       | exact ⟨congrArg (Value.int .i64) (hour_4 (by assumption)).symm, hs23.tail.tail⟩
       | exact ⟨congrArg (Value.int .i64) (hour_2 (by assumption) (by assumption) (by omega)).symm, hs23.tail.tail⟩
       | exact ⟨congrArg (Value.int .i64) (by rw [hour_0 (by assumption) (by assumption) (by omega)]; assumption), hs23.tail.tail⟩
       | exact ⟨congrArg (Value.int .i64) (hour_e (by assumption) (by assumption)).symm, hs23.tail.tail⟩
    ·
     try simp only [zA, zB, zC, zD, zE, zF] at h29
     refine w_skip ?_
     refine q_then (hK24 _ _ ?_)
     refine w_seq (fun K33 hK32 => ?_)
     refine w_region ?_
     refine w_p (y_move (v := .int _ _) rfl rfl) rfl ?_
     refine w_p (y_assign (v := .int _ _) rfl rfl) rfl ?_
     refine w_nil ?_
     refine q_then (hK32 _ _ ?_)
     refine w_ret ?_
     refine q_ret (l := [.tmp 4]) (vs := [_]) rfl ⟨⟨rfl, show _ = (.int _ _ : Value) from rfl⟩, trivial⟩ ?_
     first
       | exact ⟨congrArg (Value.int .i64) (hour_4 (by assumption)).symm, hs23.tail.tail⟩
       | exact ⟨congrArg (Value.int .i64) (hour_2 (by assumption) (by assumption) (by omega)).symm, hs23.tail.tail⟩
       | exact ⟨congrArg (Value.int .i64) (by rw [hour_0 (by assumption) (by assumption) (by omega)]; assumption), hs23.tail.tail⟩
       | exact ⟨congrArg (Value.int .i64) (hour_e (by assumption) (by assumption)).symm, hs23.tail.tail⟩
   ·
    try simp only [zA, zB, zC, zD, zE, zF] at h28
    refine w_skipop rfl rfl rfl ?_
    refine w_skipop rfl rfl rfl ?_
    refine w_skipop rfl rfl rfl ?_
    refine w_skipop rfl rfl rfl ?_
    refine w_skipop rfl rfl rfl ?_
    refine w_skipop rfl rfl rfl ?_
    refine w_skipop rfl rfl rfl ?_
    refine w_skipop rfl rfl rfl ?_
    refine w_p (y_pickF (v := _) rfl rfl rfl rfl) rfl ?_
    refine w_nil ?_
    refine q_then (hK26 _ _ ?_)
    refine w_condF rfl rfl ?_
    refine w_skip ?_
    refine q_then (hK24 _ _ ?_)
    refine w_seq (fun K35 hK34 => ?_)
    refine w_region ?_
    refine w_p (y_move (v := .int _ _) rfl rfl) rfl ?_
    refine w_p (y_assign (v := .int _ _) rfl rfl) rfl ?_
    refine w_nil ?_
    refine q_then (hK34 _ _ ?_)
    refine w_ret ?_
    refine q_ret (l := [.tmp 4]) (vs := [_]) rfl ⟨⟨rfl, show _ = (.int _ _ : Value) from rfl⟩, trivial⟩ ?_
    first
      | exact ⟨congrArg (Value.int .i64) (hour_4 (by assumption)).symm, hs23.tail.tail⟩
      | exact ⟨congrArg (Value.int .i64) (hour_2 (by assumption) (by assumption) (by omega)).symm, hs23.tail.tail⟩
      | exact ⟨congrArg (Value.int .i64) (by rw [hour_0 (by assumption) (by assumption) (by omega)]; assumption), hs23.tail.tail⟩
      | exact ⟨congrArg (Value.int .i64) (hour_e (by assumption) (by assumption)).symm, hs23.tail.tail⟩

theorem c62 {w0 w : World} {F : List (Nat × Obj)} (b : Board) (p : AtB) (c : Ctr) (pc : AtC) (hlh : b.hours.length ≤ 9223372036854775807) (hlz : c.zero.length ≤ 9223372036854775807) (hls : c.shown.length ≤ 9223372036854775807) (hz : Sl w0 F pc.az 1 (c.zero.map fun x => [Value.int .i64 x])) (hw : Sl w0 F pc.as 1 (c.shown.map fun x => [Value.int .i64 x])) (hs : St w0 w F) :
  Con Try.prog 62 [.agg (b.cells p).toArray, .agg (c.cells pc).toArray] w fun v w' => v = .int .i64 (ctrOwn b.hours.length c) ∧ St w0 w' F := by
  refine con_of_wc (n := 61) Try.func62 rfl rfl (Nat.le_of_ble_eq_true rfl) ?_
  refine w_seq (fun K2 hK1 => ?_)
  refine w_region ?_
  refine w_box (v := .agg #[.int _ _, .slice _ _ _, .slice _ _ _]) (cs := [_, _, _]) want_none rfl rfl rfl hs (fun b3 w4 hs5 => ?_)
  refine w_box (v := .agg #[.string _, .int _ _, .int _ _, .int _ _, .slice _ _ _, .slice _ _ _]) (cs := [_, _, _, _, _, _]) want_none rfl rfl rfl hs5 (fun b6 w7 hs8 => ?_)
  refine w_p (y_assign (v := _) rfl rfl) rfl ?_
  refine w_nil ?_
  refine q_then (hK1 _ _ ?_)
  refine w_seq (fun K10 hK9 => ?_)
  refine w_seq (fun K12 hK11 => ?_)
  refine w_region ?_
  refine w_p (y_fieldAddr (o := 1) (i := 1) Try.underlying76 rfl Try.sizeOf3 rfl rfl rfl) rfl ?_
  refine w_p (y_load1 Try.isAgg3 hs8 rfl rfl (ats_own (i := 0) (vs := [_]) rfl rfl)) rfl ?_
  refine w_call want_none Try.call59 rfl rfl rfl rfl (c59 _ _ _ hs8) ?_
  rintro _ w14 ⟨rfl, hs15⟩
  refine w_p (y_not rfl rfl) rfl ?_
  refine w_p (y_move (v := .bool _) rfl rfl) rfl ?_
  refine w_split (fun h16 => ?_) (fun h16 => ?_)
  ·
   try simp only [zA, zB, zC, zD, zE, zF] at h16
   refine w_skipop rfl rfl rfl ?_
   refine w_skipop rfl rfl rfl ?_
   refine w_skipop rfl rfl rfl ?_
   refine w_skipop rfl rfl rfl ?_
   refine w_p (y_pickT (v := _) rfl rfl rfl rfl) rfl ?_
   refine w_p (y_move (v := .bool _) rfl rfl) rfl ?_
   refine w_skipop rfl rfl rfl ?_
   refine w_skipop rfl rfl rfl ?_
   refine w_skipop rfl rfl rfl ?_
   refine w_skipop rfl rfl rfl ?_
   refine w_p (y_pickT (v := _) rfl rfl rfl rfl) rfl ?_
   refine w_nil ?_
   refine q_then (hK11 _ _ ?_)
   refine w_condT rfl rfl ?_
   refine w_seq (fun K18 hK17 => ?_)
   refine w_region ?_
   refine w_p (y_assign (v := _) rfl rfl) rfl ?_
   refine w_nil ?_
   refine q_then (hK17 _ _ ?_)
   refine w_ret ?_
   refine q_then_ret ?_
   refine q_ret (l := [.tmp 4]) (vs := [_]) rfl ⟨⟨rfl, show _ = (.int _ _ : Value) from rfl⟩, trivial⟩ ?_
   first
     | exact ⟨congrArg (Value.int .i64) (own_7 (.inl (by assumption))).symm, hs15.tail.tail⟩
     | exact ⟨congrArg (Value.int .i64) (own_7 (.inr (.inl (by assumption)))).symm, hs15.tail.tail⟩
     | exact ⟨congrArg (Value.int .i64) (own_7 (.inr (.inr (by assumption)))).symm, hs15.tail.tail⟩
     | exact ⟨congrArg (Value.int .i64) (own_3 (by assumption) (by assumption) (by assumption) (by omega)).symm, hs15.tail.tail⟩
     | exact ⟨congrArg (Value.int .i64) (own_b (by assumption) (by assumption) (by assumption) (by omega) (by omega) (i := i) (by omega) (.inl (by assumption))).symm, hs15.tail.tail⟩
     | exact ⟨congrArg (Value.int .i64) (own_b (by assumption) (by assumption) (by assumption) (by omega) (by omega) (i := i) (by omega) (.inr (by assumption))).symm, hs15.tail.tail⟩
     | (have hil : i = b.hours.length := by omega
        subst hil
        exact ⟨congrArg (Value.int .i64) (own_0 (by assumption) (by assumption) (by assumption) (by omega) (by omega) ⟨hnz, hns⟩).symm, hs15.tail.tail⟩)
  ·
   try simp only [zA, zB, zC, zD, zE, zF] at h16
   refine w_y rfl rfl rfl (y_fieldAddr (o := 2) (i := 2) Try.underlying76 rfl Try.sizeOf3 rfl rfl rfl) rfl ?_
   refine w_y rfl rfl rfl (y_load1 Try.isAgg3 hs15 rfl rfl (ats_own (i := 0) (vs := [_]) rfl rfl)) rfl ?_
   refine w_call (want_yes rfl rfl rfl) Try.call59 rfl rfl rfl rfl (c59 _ _ _ hs15) ?_
   rintro _ w20 ⟨rfl, hs21⟩
   refine w_y rfl rfl rfl (y_not rfl rfl) rfl ?_
   refine w_p (y_pickF (v := .bool _) rfl rfl rfl rfl) rfl ?_
   refine w_p (y_move (v := .bool _) rfl rfl) rfl ?_
   refine w_split (fun h22 => ?_) (fun h22 => ?_)
   ·
    try simp only [zA, zB, zC, zD, zE, zF] at h22
    refine w_skipop rfl rfl rfl ?_
    refine w_skipop rfl rfl rfl ?_
    refine w_skipop rfl rfl rfl ?_
    refine w_skipop rfl rfl rfl ?_
    refine w_p (y_pickT (v := _) rfl rfl rfl rfl) rfl ?_
    refine w_nil ?_
    refine q_then (hK11 _ _ ?_)
    refine w_condT rfl rfl ?_
    refine w_seq (fun K24 hK23 => ?_)
    refine w_region ?_
    refine w_p (y_assign (v := _) rfl rfl) rfl ?_
    refine w_nil ?_
    refine q_then (hK23 _ _ ?_)
    refine w_ret ?_
    refine q_then_ret ?_
    refine q_ret (l := [.tmp 4]) (vs := [_]) rfl ⟨⟨rfl, show _ = (.int _ _ : Value) from rfl⟩, trivial⟩ ?_
    first
      | exact ⟨congrArg (Value.int .i64) (own_7 (.inl (by assumption))).symm, hs21.tail.tail⟩
      | exact ⟨congrArg (Value.int .i64) (own_7 (.inr (.inl (by assumption)))).symm, hs21.tail.tail⟩
      | exact ⟨congrArg (Value.int .i64) (own_7 (.inr (.inr (by assumption)))).symm, hs21.tail.tail⟩
      | exact ⟨congrArg (Value.int .i64) (own_3 (by assumption) (by assumption) (by assumption) (by omega)).symm, hs21.tail.tail⟩
      | exact ⟨congrArg (Value.int .i64) (own_b (by assumption) (by assumption) (by assumption) (by omega) (by omega) (i := i) (by omega) (.inl (by assumption))).symm, hs21.tail.tail⟩
      | exact ⟨congrArg (Value.int .i64) (own_b (by assumption) (by assumption) (by assumption) (by omega) (by omega) (i := i) (by omega) (.inr (by assumption))).symm, hs21.tail.tail⟩
      | (have hil : i = b.hours.length := by omega
         subst hil
         exact ⟨congrArg (Value.int .i64) (own_0 (by assumption) (by assumption) (by assumption) (by omega) (by omega) ⟨hnz, hns⟩).symm, hs21.tail.tail⟩)
   ·
    try simp only [zA, zB, zC, zD, zE, zF] at h22
    refine w_y rfl rfl rfl (y_fieldAddr (o := 3) (i := 3) Try.underlying76 rfl Try.sizeOf3 rfl rfl rfl) rfl ?_
    refine w_y rfl rfl rfl (y_load1 Try.isAgg3 hs21 rfl rfl (ats_own (i := 0) (vs := [_]) rfl rfl)) rfl ?_
    refine w_call (want_yes rfl rfl rfl) Try.call59 rfl rfl rfl rfl (c59 _ _ _ hs21) ?_
    rintro _ w26 ⟨rfl, hs27⟩
    refine w_y rfl rfl rfl (y_not rfl rfl) rfl ?_
    refine w_p (y_pickF (v := .bool _) rfl rfl rfl rfl) rfl ?_
    refine w_nil ?_
    refine q_then (hK11 _ _ ?_)
    refine w_cond rfl rfl (fun h28 => ?_) (fun h28 => ?_)
    ·
     try simp only [zA, zB, zC, zD, zE, zF] at h28
     refine w_seq (fun K30 hK29 => ?_)
     refine w_region ?_
     refine w_p (y_assign (v := _) rfl rfl) rfl ?_
     refine w_nil ?_
     refine q_then (hK29 _ _ ?_)
     refine w_ret ?_
     refine q_then_ret ?_
     refine q_ret (l := [.tmp 4]) (vs := [_]) rfl ⟨⟨rfl, show _ = (.int _ _ : Value) from rfl⟩, trivial⟩ ?_
     first
       | exact ⟨congrArg (Value.int .i64) (own_7 (.inl (by assumption))).symm, hs27.tail.tail⟩
       | exact ⟨congrArg (Value.int .i64) (own_7 (.inr (.inl (by assumption)))).symm, hs27.tail.tail⟩
       | exact ⟨congrArg (Value.int .i64) (own_7 (.inr (.inr (by assumption)))).symm, hs27.tail.tail⟩
       | exact ⟨congrArg (Value.int .i64) (own_3 (by assumption) (by assumption) (by assumption) (by omega)).symm, hs27.tail.tail⟩
       | exact ⟨congrArg (Value.int .i64) (own_b (by assumption) (by assumption) (by assumption) (by omega) (by omega) (i := i) (by omega) (.inl (by assumption))).symm, hs27.tail.tail⟩
       | exact ⟨congrArg (Value.int .i64) (own_b (by assumption) (by assumption) (by assumption) (by omega) (by omega) (i := i) (by omega) (.inr (by assumption))).symm, hs27.tail.tail⟩
       | (have hil : i = b.hours.length := by omega
          subst hil
          exact ⟨congrArg (Value.int .i64) (own_0 (by assumption) (by assumption) (by assumption) (by omega) (by omega) ⟨hnz, hns⟩).symm, hs27.tail.tail⟩)
    ·
     try simp only [zA, zB, zC, zD, zE, zF] at h28
     refine w_skip ?_
     refine q_then (hK9 _ _ ?_)
     refine w_seq (fun K32 hK31 => ?_)
     refine w_seq (fun K34 hK33 => ?_)
     refine w_region ?_
     refine w_p (y_fieldAddr (o := 4) (i := 4) Try.underlying76 rfl Try.sizeOf39 rfl rfl rfl) rfl ?_
     refine w_p (y_load1 Try.isAgg39 hs27 rfl rfl (ats_own (i := 0) (vs := [_]) rfl rfl)) rfl ?_
     refine w_p (y_lenS Try.underlying39 rfl rfl) rfl ?_
     refine w_p (y_fieldAddr (o := 1) (i := 1) Try.underlying25 rfl Try.sizeOf22 rfl rfl rfl) rfl ?_
     refine w_p (y_load1 Try.isAgg22 hs27 rfl rfl (ats_own (i := 1) (vs := [_]) rfl rfl)) rfl ?_
     refine w_p (y_lenS Try.underlying22 rfl rfl) rfl ?_
     refine w_p (y_neq rfl rfl rfl rfl) rfl ?_
     refine w_p (y_move (v := .bool _) rfl rfl) rfl ?_
     refine w_split (fun h35 => ?_) (fun h35 => ?_)
     ·
      try simp only [zA, zB, zC, zD, zE, zF] at h35
      refine w_skipop rfl rfl rfl ?_
      refine w_skipop rfl rfl rfl ?_
      refine w_skipop rfl rfl rfl ?_
      refine w_skipop rfl rfl rfl ?_
      refine w_skipop rfl rfl rfl ?_
      refine w_skipop rfl rfl rfl ?_
      refine w_skipop rfl rfl rfl ?_
      refine w_p (y_pickT (v := _) rfl rfl rfl rfl) rfl ?_
      refine w_nil ?_
      refine q_then (hK33 _ _ ?_)
      refine w_condT rfl rfl ?_
      refine w_seq (fun K37 hK36 => ?_)
      refine w_region ?_
      refine w_p (y_assign (v := _) rfl rfl) rfl ?_
      refine w_nil ?_
      refine q_then (hK36 _ _ ?_)
      refine w_ret ?_
      refine q_then_ret ?_
      refine q_ret (l := [.tmp 4]) (vs := [_]) rfl ⟨⟨rfl, show _ = (.int _ _ : Value) from rfl⟩, trivial⟩ ?_
      first
        | exact ⟨congrArg (Value.int .i64) (own_7 (.inl (by assumption))).symm, hs27.tail.tail⟩
        | exact ⟨congrArg (Value.int .i64) (own_7 (.inr (.inl (by assumption)))).symm, hs27.tail.tail⟩
        | exact ⟨congrArg (Value.int .i64) (own_7 (.inr (.inr (by assumption)))).symm, hs27.tail.tail⟩
        | exact ⟨congrArg (Value.int .i64) (own_3 (by assumption) (by assumption) (by assumption) (by omega)).symm, hs27.tail.tail⟩
        | exact ⟨congrArg (Value.int .i64) (own_b (by assumption) (by assumption) (by assumption) (by omega) (by omega) (i := i) (by omega) (.inl (by assumption))).symm, hs27.tail.tail⟩
        | exact ⟨congrArg (Value.int .i64) (own_b (by assumption) (by assumption) (by assumption) (by omega) (by omega) (i := i) (by omega) (.inr (by assumption))).symm, hs27.tail.tail⟩
        | (have hil : i = b.hours.length := by omega
           subst hil
           exact ⟨congrArg (Value.int .i64) (own_0 (by assumption) (by assumption) (by assumption) (by omega) (by omega) ⟨hnz, hns⟩).symm, hs27.tail.tail⟩)
     ·
      try simp only [zA, zB, zC, zD, zE, zF] at h35
      refine w_y rfl rfl rfl (y_fieldAddr (o := 5) (i := 5) Try.underlying76 rfl Try.sizeOf39 rfl rfl rfl) rfl ?_
      refine w_y rfl rfl rfl (y_load1 Try.isAgg39 hs27 rfl rfl (ats_own (i := 0) (vs := [_]) rfl rfl)) rfl ?_
      refine w_y rfl rfl rfl (y_lenS Try.underlying39 rfl rfl) rfl ?_
      refine w_y rfl rfl rfl (y_fieldAddr (o := 1) (i := 1) Try.underlying25 rfl Try.sizeOf22 rfl rfl rfl) rfl ?_
      refine w_y rfl rfl rfl (y_load1 Try.isAgg22 hs27 rfl rfl (ats_own (i := 1) (vs := [_]) rfl rfl)) rfl ?_
      refine w_y rfl rfl rfl (y_lenS Try.underlying22 rfl rfl) rfl ?_
      refine w_y rfl rfl rfl (y_neq rfl rfl rfl rfl) rfl ?_
      refine w_p (y_pickF (v := .bool _) rfl rfl rfl rfl) rfl ?_
      refine w_nil ?_
      refine q_then (hK33 _ _ ?_)
      refine w_cond rfl rfl (fun h38 => ?_) (fun h38 => ?_)
      ·
       try simp only [zA, zB, zC, zD, zE, zF] at h38
       refine w_seq (fun K40 hK39 => ?_)
       refine w_region ?_
       refine w_p (y_assign (v := _) rfl rfl) rfl ?_
       refine w_nil ?_
       refine q_then (hK39 _ _ ?_)
       refine w_ret ?_
       refine q_then_ret ?_
       refine q_ret (l := [.tmp 4]) (vs := [_]) rfl ⟨⟨rfl, show _ = (.int _ _ : Value) from rfl⟩, trivial⟩ ?_
       first
         | exact ⟨congrArg (Value.int .i64) (own_7 (.inl (by assumption))).symm, hs27.tail.tail⟩
         | exact ⟨congrArg (Value.int .i64) (own_7 (.inr (.inl (by assumption)))).symm, hs27.tail.tail⟩
         | exact ⟨congrArg (Value.int .i64) (own_7 (.inr (.inr (by assumption)))).symm, hs27.tail.tail⟩
         | exact ⟨congrArg (Value.int .i64) (own_3 (by assumption) (by assumption) (by assumption) (by omega)).symm, hs27.tail.tail⟩
         | exact ⟨congrArg (Value.int .i64) (own_b (by assumption) (by assumption) (by assumption) (by omega) (by omega) (i := i) (by omega) (.inl (by assumption))).symm, hs27.tail.tail⟩
         | exact ⟨congrArg (Value.int .i64) (own_b (by assumption) (by assumption) (by assumption) (by omega) (by omega) (i := i) (by omega) (.inr (by assumption))).symm, hs27.tail.tail⟩
         | (have hil : i = b.hours.length := by omega
            subst hil
            exact ⟨congrArg (Value.int .i64) (own_0 (by assumption) (by assumption) (by assumption) (by omega) (by omega) ⟨hnz, hns⟩).symm, hs27.tail.tail⟩)
      ·
       try simp only [zA, zB, zC, zD, zE, zF] at h38
       refine w_skip ?_
       refine q_then (hK31 _ _ ?_)
       refine w_seq (fun K42 hK41 => ?_)
       refine w_seq (fun K44 hK43 => ?_)
       refine w_region ?_
       refine w_p (y_assign (v := _) rfl rfl) rfl ?_
       refine w_nil ?_
       refine q_then (hK43 _ _ ?_)
       refine w_block ?_
       refine w_loop [4, 5, 38, 39, 40, 41, 42, 43, 44, 45, 46, 47, 48, 49, 50, 51, 52, 53, 54, 55, 56, 57, 58, 59, 60] [5] (fun k vs w => ∃ i : Nat, vs = [.int .i64 i] ∧ i ≤ c.zero.length ∧ k = c.zero.length - i ∧ (c.zero.take i).any (out 0 2) = false ∧ (c.shown.take i).any (out (-1) 99) = false ∧ St w0 w ((b6, blk 76 (c.cells pc)) :: (b3, blk 25 (b.cells p)) :: F)) (c.zero.length) ?_ ?_
       ·
        exact ⟨0, rfl, by omega, by omega, rfl, rfl, hs27⟩
       ·
        intro k vs μ w47 hI K46 hN45
        obtain ⟨i, rfl, hia, rfl, hnz, hns, hs⟩ := hI
        refine w_seq (fun K49 hK48 => ?_)
        refine w_seq (fun K51 hK50 => ?_)
        refine w_region ?_
        refine w_p (y_move (v := .int _ _) rfl rfl) rfl ?_
        refine w_p (y_fieldAddr (o := 4) (i := 4) Try.underlying76 rfl Try.sizeOf39 rfl rfl rfl) rfl ?_
        refine w_p (y_load1 Try.isAgg39 hs rfl rfl (ats_own (i := 0) (vs := [_]) rfl rfl)) rfl ?_
        refine w_p (y_lenS Try.underlying39 rfl rfl) rfl ?_
        refine w_p (y_lss rfl rfl rfl rfl) rfl ?_
        refine w_nil ?_
        refine q_then (hK50 _ _ ?_)
        refine w_cond rfl rfl (fun h52 => ?_) (fun h52 => ?_)
        ·
         try simp only [zA, zB, zC, zD, zE, zF] at h52
         refine w_skip ?_
         refine q_then (hK48 _ _ ?_)
         refine w_seq (fun K54 hK53 => ?_)
         refine w_block ?_
         refine w_seq (fun K56 hK55 => ?_)
         have hi2 : i < c.zero.length := by omega
         have hi3 : i < c.shown.length := by omega
         obtain ⟨bz, oz, hbz, hxz⟩ := sl_ints hz hi2
         obtain ⟨bw, ow, hbw, hxw⟩ := sl_ints hw hi3
         refine w_region ?_
         refine w_p (y_fieldAddr (o := 4) (i := 4) Try.underlying76 rfl Try.sizeOf39 rfl rfl rfl) rfl ?_
         refine w_p (yd_slice hbz (y_load1 Try.isAgg39 hs rfl rfl (ats_own (i := 0) (vs := [_]) rfl rfl))) rfl ?_
         refine w_p (y_move (v := .int _ _) rfl rfl) rfl ?_
         refine w_p (y_indexS Try.underlying39 Try.sizeOf3 rfl rfl rfl rfl (i := i) rfl hi2) rfl ?_
         refine w_p (y_load1 Try.isAgg3 hs.tail.tail rfl rfl hxz) rfl ?_
         refine w_call want_none Try.call59 rfl rfl rfl rfl (c59 _ _ _ hs) ?_
         rintro _ w58 ⟨rfl, hs59⟩
         refine w_p (y_not rfl rfl) rfl ?_
         refine w_p (y_move (v := .bool _) rfl rfl) rfl ?_
         refine w_split (fun h60 => ?_) (fun h60 => ?_)
         ·
          try simp only [zA, zB, zC, zD, zE, zF] at h60
          refine w_skipop rfl rfl rfl ?_
          refine w_skipop rfl rfl rfl ?_
          refine w_skipop rfl rfl rfl ?_
          refine w_skipop rfl rfl rfl ?_
          refine w_skipop rfl rfl rfl ?_
          refine w_skipop rfl rfl rfl ?_
          refine w_skipop rfl rfl rfl ?_
          refine w_p (y_pickT (v := _) rfl rfl rfl rfl) rfl ?_
          refine w_nil ?_
          refine q_then (hK55 _ _ ?_)
          refine w_condT rfl rfl ?_
          refine w_seq (fun K62 hK61 => ?_)
          refine w_region ?_
          refine w_p (y_assign (v := _) rfl rfl) rfl ?_
          refine w_nil ?_
          refine q_then (hK61 _ _ ?_)
          refine w_ret ?_
          refine q_blk_ret ?_
          refine q_then_ret ?_
          refine q_then_ret ?_
          refine q_blk_ret ?_
          refine q_then_ret ?_
          refine q_ret (l := [.tmp 4]) (vs := [_]) rfl ⟨⟨rfl, show _ = (.int _ _ : Value) from rfl⟩, trivial⟩ ?_
          first
            | exact ⟨congrArg (Value.int .i64) (own_7 (.inl (by assumption))).symm, hs59.tail.tail⟩
            | exact ⟨congrArg (Value.int .i64) (own_7 (.inr (.inl (by assumption)))).symm, hs59.tail.tail⟩
            | exact ⟨congrArg (Value.int .i64) (own_7 (.inr (.inr (by assumption)))).symm, hs59.tail.tail⟩
            | exact ⟨congrArg (Value.int .i64) (own_3 (by assumption) (by assumption) (by assumption) (by omega)).symm, hs59.tail.tail⟩
            | exact ⟨congrArg (Value.int .i64) (own_b (by assumption) (by assumption) (by assumption) (by omega) (by omega) (i := i) (by omega) (.inl (by assumption))).symm, hs59.tail.tail⟩
            | exact ⟨congrArg (Value.int .i64) (own_b (by assumption) (by assumption) (by assumption) (by omega) (by omega) (i := i) (by omega) (.inr (by assumption))).symm, hs59.tail.tail⟩
            | (have hil : i = b.hours.length := by omega
               subst hil
               exact ⟨congrArg (Value.int .i64) (own_0 (by assumption) (by assumption) (by assumption) (by omega) (by omega) ⟨hnz, hns⟩).symm, hs59.tail.tail⟩)
         ·
          try simp only [zA, zB, zC, zD, zE, zF] at h60
          refine w_y rfl rfl rfl (y_fieldAddr (o := 5) (i := 5) Try.underlying76 rfl Try.sizeOf39 rfl rfl rfl) rfl ?_
          refine w_y rfl rfl rfl (yd_slice hbw (y_load1 Try.isAgg39 hs59 rfl rfl (ats_own (i := 0) (vs := [_]) rfl rfl))) rfl ?_
          refine w_y rfl rfl rfl (y_move (v := .int _ _) rfl rfl) rfl ?_
          refine w_y rfl rfl rfl (y_indexS Try.underlying39 Try.sizeOf3 rfl rfl rfl rfl (i := i) rfl hi3) rfl ?_
          refine w_y rfl rfl rfl (y_load1 Try.isAgg3 hs59.tail.tail rfl rfl hxw) rfl ?_
          refine w_call (want_yes rfl rfl rfl) Try.call59 rfl rfl rfl rfl (c59 _ _ _ hs59) ?_
          rintro _ w64 ⟨rfl, hs65⟩
          refine w_y rfl rfl rfl (y_not rfl rfl) rfl ?_
          refine w_p (y_pickF (v := .bool _) rfl rfl rfl rfl) rfl ?_
          refine w_nil ?_
          refine q_then (hK55 _ _ ?_)
          refine w_cond rfl rfl (fun h66 => ?_) (fun h66 => ?_)
          ·
           try simp only [zA, zB, zC, zD, zE, zF] at h66
           refine w_seq (fun K68 hK67 => ?_)
           refine w_region ?_
           refine w_p (y_assign (v := _) rfl rfl) rfl ?_
           refine w_nil ?_
           refine q_then (hK67 _ _ ?_)
           refine w_ret ?_
           refine q_blk_ret ?_
           refine q_then_ret ?_
           refine q_then_ret ?_
           refine q_blk_ret ?_
           refine q_then_ret ?_
           refine q_ret (l := [.tmp 4]) (vs := [_]) rfl ⟨⟨rfl, show _ = (.int _ _ : Value) from rfl⟩, trivial⟩ ?_
           first
             | exact ⟨congrArg (Value.int .i64) (own_7 (.inl (by assumption))).symm, hs65.tail.tail⟩
             | exact ⟨congrArg (Value.int .i64) (own_7 (.inr (.inl (by assumption)))).symm, hs65.tail.tail⟩
             | exact ⟨congrArg (Value.int .i64) (own_7 (.inr (.inr (by assumption)))).symm, hs65.tail.tail⟩
             | exact ⟨congrArg (Value.int .i64) (own_3 (by assumption) (by assumption) (by assumption) (by omega)).symm, hs65.tail.tail⟩
             | exact ⟨congrArg (Value.int .i64) (own_b (by assumption) (by assumption) (by assumption) (by omega) (by omega) (i := i) (by omega) (.inl (by assumption))).symm, hs65.tail.tail⟩
             | exact ⟨congrArg (Value.int .i64) (own_b (by assumption) (by assumption) (by assumption) (by omega) (by omega) (i := i) (by omega) (.inr (by assumption))).symm, hs65.tail.tail⟩
             | (have hil : i = b.hours.length := by omega
                subst hil
                exact ⟨congrArg (Value.int .i64) (own_0 (by assumption) (by assumption) (by assumption) (by omega) (by omega) ⟨hnz, hns⟩).symm, hs65.tail.tail⟩)
          ·
           try simp only [zA, zB, zC, zD, zE, zF] at h66
           refine w_skip ?_
           refine q_blk_normal ?_
           refine q_then (hK53 _ _ ?_)
           refine w_region ?_
           refine w_p (y_move (v := .int _ _) rfl rfl) rfl ?_
           refine w_p (y_add rfl rfl rfl rfl (by omega) (by omega)) rfl ?_
           refine w_p (y_assign (v := .int _ _) rfl rfl) rfl ?_
           refine w_nil ?_
           refine q_then (hN45 _ _ (Nx.intro (c.zero.length - (i + 1)) (by omega) (by repeat (first | exact agree_mix | refine agree_upd rfl ?_ | refine agree_updL rfl ?_ _ | refine agree_mixin rfl ?_)) ?_))
           exact ⟨i + 1, rfl, by omega, rfl, any_snoc hi2 hnz (by assumption), any_snoc hi3 hns (by assumption), hs65⟩
        ·
         try simp only [zA, zB, zC, zD, zE, zF] at h52
         refine w_exit ?_
         refine q_then_exit ?_
         refine q_then_exit ?_
         refine q_blk_this ?_
         refine q_then (hK41 _ _ ?_)
         refine w_seq (fun K70 hK69 => ?_)
         refine w_region ?_
         refine w_p (y_assign (v := _) rfl rfl) rfl ?_
         refine w_nil ?_
         refine q_then (hK69 _ _ ?_)
         refine w_ret ?_
         refine q_ret (l := [.tmp 4]) (vs := [_]) rfl ⟨⟨rfl, show _ = (.int _ _ : Value) from rfl⟩, trivial⟩ ?_
         first
           | exact ⟨congrArg (Value.int .i64) (own_7 (.inl (by assumption))).symm, hs.tail.tail⟩
           | exact ⟨congrArg (Value.int .i64) (own_7 (.inr (.inl (by assumption)))).symm, hs.tail.tail⟩
           | exact ⟨congrArg (Value.int .i64) (own_7 (.inr (.inr (by assumption)))).symm, hs.tail.tail⟩
           | exact ⟨congrArg (Value.int .i64) (own_3 (by assumption) (by assumption) (by assumption) (by omega)).symm, hs.tail.tail⟩
           | exact ⟨congrArg (Value.int .i64) (own_b (by assumption) (by assumption) (by assumption) (by omega) (by omega) (i := i) (by omega) (.inl (by assumption))).symm, hs.tail.tail⟩
           | exact ⟨congrArg (Value.int .i64) (own_b (by assumption) (by assumption) (by assumption) (by omega) (by omega) (i := i) (by omega) (.inr (by assumption))).symm, hs.tail.tail⟩
           | (have hil : i = b.hours.length := by omega
              subst hil
              exact ⟨congrArg (Value.int .i64) (own_0 (by assumption) (by assumption) (by assumption) (by omega) (by omega) ⟨hnz, hns⟩).symm, hs.tail.tail⟩)

theorem c17 {w0 w : World} {F : List (Nat × Obj)} (b : Board) (p : AtB) (hm : BIn w0 F b p)  (hs : St w0 w F) :
  Con Try.prog 17 [.agg (b.cells p).toArray] w fun v w' => v = .tuple #[.int .i64 (check b).1, .int .i64 (check b).2.1, .int .i64 (check b).2.2] ∧ St w0 w' F := by
  refine con_of_wc (n := 77) Try.func17 rfl rfl (Nat.le_of_ble_eq_true rfl) ?_
  have hlh := hm.lh
  have hlc := hm.lc
  refine w_seq (fun K2 hK1 => ?_)
  refine w_region ?_
  refine w_box (v := .agg #[.int _ _, .slice _ _ _, .slice _ _ _]) (cs := [_, _, _]) want_none rfl rfl rfl hs (fun b3 w4 hs5 => ?_)
  refine w_p (y_assign (v := _) rfl rfl) rfl ?_
  refine w_p (y_assign (v := _) rfl rfl) rfl ?_
  refine w_p (y_assign (v := _) rfl rfl) rfl ?_
  refine w_nil ?_
  refine q_then (hK1 _ _ ?_)
  refine w_seq (fun K7 hK6 => ?_)
  refine w_seq (fun K9 hK8 => ?_)
  refine w_region ?_
  refine w_p (y_fieldAddr (o := 0) (i := 0) Try.underlying25 rfl Try.sizeOf3 rfl rfl rfl) rfl ?_
  refine w_p (y_load1 Try.isAgg3 hs5 rfl rfl (ats_own (i := 0) (vs := [_]) rfl rfl)) rfl ?_
  refine w_call want_none Try.call59 rfl rfl rfl rfl (c59 _ _ _ hs5) ?_
  rintro _ w11 ⟨rfl, hs12⟩
  refine w_p (y_not rfl rfl) rfl ?_
  refine w_nil ?_
  refine q_then (hK8 _ _ ?_)
  refine w_cond rfl rfl (fun h13 => ?_) (fun h13 => ?_)
  ·
   try simp only [zA, zB, zC, zD, zE, zF] at h13
   refine w_seq (fun K15 hK14 => ?_)
   refine w_region ?_
   refine w_p (y_assign (v := _) rfl rfl) rfl ?_
   refine w_p (y_assign (v := _) rfl rfl) rfl ?_
   refine w_p (y_assign (v := _) rfl rfl) rfl ?_
   refine w_nil ?_
   refine q_then (hK14 _ _ ?_)
   refine w_ret ?_
   refine q_then_ret ?_
   refine q_ret (l := [.tmp 2, .tmp 3, .tmp 4]) (vs := [_, _, _]) rfl ⟨⟨rfl, show _ = (.int _ _ : Value) from rfl⟩, ⟨rfl, show _ = (.int _ _ : Value) from rfl⟩, ⟨rfl, show _ = (.int _ _ : Value) from rfl⟩, trivial⟩ ?_
   first
     | contradiction
     | exact ⟨tup3 (chk_1 (by assumption)), hs12.tail⟩
     | exact ⟨tup3 (chk_h (by assumption) (fail_most (by omega)) (by decide)), hs12.tail⟩
     | (refine ⟨tup3 (chk_h (by assumption) ((fail_go (by omega)).trans (hinv.trans (firstE_stop hi2 (by assumption)))) (by assumption)), hs12.tail⟩)
     | exact ⟨tup3 (chk_c (by assumption) (by rw [fail_go (by omega), hhe]) (fail_most (by omega)) (by decide)), hs12.tail⟩
     | (refine ⟨tup3 (chk_c (by assumption) (by rw [fail_go (by omega), hhe]) ((fail_go (by omega)).trans (hinv.trans ((firstE_stop hi2 ?_).trans ?_))) ?_), hs12.tail⟩
        · rw [ctrE_no (by assumption)]; assumption
        · rw [ctrE_no (by assumption)]
        · assumption)
     | (refine ⟨tup3 (chk_c (by assumption) (by rw [fail_go (by omega), hhe]) ((fail_go (by omega)).trans (hinv.trans ((firstE_stop hi2 ?_).trans ?_))) ?_), hs12.tail⟩
        · rw [ctrE_yes (by assumption)]; assumption
        · rw [ctrE_yes (by assumption)]
        · assumption)
     | exact ⟨tup3 (chk_0 (by assumption) (by rw [fail_go (by omega), hhe]) (by rw [fail_go (by omega), hinv.trans (firstE_end (by omega) _)])), hs12.tail⟩
  ·
   try simp only [zA, zB, zC, zD, zE, zF] at h13
   refine w_skip ?_
   refine q_then (hK6 _ _ ?_)
   refine w_seq (fun K17 hK16 => ?_)
   refine w_seq (fun K19 hK18 => ?_)
   refine w_region ?_
   refine w_p (y_fieldAddr (o := 1) (i := 1) Try.underlying25 rfl Try.sizeOf22 rfl rfl rfl) rfl ?_
   refine w_p (y_load1 Try.isAgg22 hs12 rfl rfl (ats_own (i := 0) (vs := [_]) rfl rfl)) rfl ?_
   refine w_p (y_lenS Try.underlying22 rfl rfl) rfl ?_
   refine w_p (y_gtr rfl rfl rfl rfl) rfl ?_
   refine w_nil ?_
   refine q_then (hK18 _ _ ?_)
   refine w_cond rfl rfl (fun h20 => ?_) (fun h20 => ?_)
   ·
    try simp only [zA, zB, zC, zD, zE, zF] at h20
    refine w_seq (fun K22 hK21 => ?_)
    refine w_region ?_
    refine w_p (y_assign (v := _) rfl rfl) rfl ?_
    refine w_p (y_assign (v := _) rfl rfl) rfl ?_
    refine w_p (y_assign (v := _) rfl rfl) rfl ?_
    refine w_nil ?_
    refine q_then (hK21 _ _ ?_)
    refine w_ret ?_
    refine q_then_ret ?_
    refine q_ret (l := [.tmp 2, .tmp 3, .tmp 4]) (vs := [_, _, _]) rfl ⟨⟨rfl, show _ = (.int _ _ : Value) from rfl⟩, ⟨rfl, show _ = (.int _ _ : Value) from rfl⟩, ⟨rfl, show _ = (.int _ _ : Value) from rfl⟩, trivial⟩ ?_
    first
      | contradiction
      | exact ⟨tup3 (chk_1 (by assumption)), hs12.tail⟩
      | exact ⟨tup3 (chk_h (by assumption) (fail_most (by omega)) (by decide)), hs12.tail⟩
      | (refine ⟨tup3 (chk_h (by assumption) ((fail_go (by omega)).trans (hinv.trans (firstE_stop hi2 (by assumption)))) (by assumption)), hs12.tail⟩)
      | exact ⟨tup3 (chk_c (by assumption) (by rw [fail_go (by omega), hhe]) (fail_most (by omega)) (by decide)), hs12.tail⟩
      | (refine ⟨tup3 (chk_c (by assumption) (by rw [fail_go (by omega), hhe]) ((fail_go (by omega)).trans (hinv.trans ((firstE_stop hi2 ?_).trans ?_))) ?_), hs12.tail⟩
         · rw [ctrE_no (by assumption)]; assumption
         · rw [ctrE_no (by assumption)]
         · assumption)
      | (refine ⟨tup3 (chk_c (by assumption) (by rw [fail_go (by omega), hhe]) ((fail_go (by omega)).trans (hinv.trans ((firstE_stop hi2 ?_).trans ?_))) ?_), hs12.tail⟩
         · rw [ctrE_yes (by assumption)]; assumption
         · rw [ctrE_yes (by assumption)]
         · assumption)
      | exact ⟨tup3 (chk_0 (by assumption) (by rw [fail_go (by omega), hhe]) (by rw [fail_go (by omega), hinv.trans (firstE_end (by omega) _)])), hs12.tail⟩
   ·
    try simp only [zA, zB, zC, zD, zE, zF] at h20
    refine w_skip ?_
    refine q_then (hK16 _ _ ?_)
    refine w_seq (fun K24 hK23 => ?_)
    refine w_seq (fun K26 hK25 => ?_)
    refine w_region ?_
    refine w_p (y_assign (v := _) rfl rfl) rfl ?_
    refine w_nil ?_
    refine q_then (hK25 _ _ ?_)
    refine w_block ?_
    refine w_loop [2, 3, 4, 5, 6, 18, 19, 20, 21, 22, 23, 24, 25, 26, 27, 28, 29, 30, 31, 32, 33, 34, 35] [5] (fun k vs w => ∃ (i : Nat), vs = [.int .i64 i] ∧ i ≤ b.hours.length ∧ k = b.hours.length - i ∧ firstE (hourE b.holds) [] 0 b.hours = firstE (hourE b.holds) (b.hours.take i) i (b.hours.drop i) ∧ St w0 w ((b3, blk 25 (b.cells p)) :: F)) (b.hours.length) ?_ ?_
    ·
     exact ⟨0, rfl, by omega, by omega, rfl, hs12⟩
    ·
     intro k vs μ w29 hI K28 hN27
     obtain ⟨i, rfl, hia, rfl, hinv, hs⟩ := hI
     refine w_seq (fun K31 hK30 => ?_)
     refine w_seq (fun K33 hK32 => ?_)
     refine w_region ?_
     refine w_p (y_move (v := .int _ _) rfl rfl) rfl ?_
     refine w_p (y_fieldAddr (o := 1) (i := 1) Try.underlying25 rfl Try.sizeOf22 rfl rfl rfl) rfl ?_
     refine w_p (y_load1 Try.isAgg22 hs rfl rfl (ats_own (i := 0) (vs := [_]) rfl rfl)) rfl ?_
     refine w_p (y_lenS Try.underlying22 rfl rfl) rfl ?_
     refine w_p (y_lss rfl rfl rfl rfl) rfl ?_
     refine w_nil ?_
     refine q_then (hK32 _ _ ?_)
     refine w_cond rfl rfl (fun h34 => ?_) (fun h34 => ?_)
     ·
      try simp only [zA, zB, zC, zD, zE, zF] at h34
      refine w_skip ?_
      refine q_then (hK30 _ _ ?_)
      refine w_seq (fun K36 hK35 => ?_)
      refine w_block ?_
      refine w_seq (fun K38 hK37 => ?_)
      have hi2 : i < b.hours.length := by omega
      obtain ⟨bx, ox, hbx, hx⟩ := sl_hrows hm.h hi2
      refine w_draw [] [(0, 1), (1, 0), (2, 1), (3, 0), (4, 0), (5, 1), (6, 2), (7, 0)] Try_mo (drawOK_of (by kernel_rfl)) hs (fun w39 hs40 => ?_)
      refine d_take rfl want_none rfl hs40 (fun _ hq => (y_loadN (vs := [_, _, _]) Try.isAgg25 Try.sizeOf25 hq rfl rfl (ats_own (i := 0) (vs := [_, _, _]) rfl rfl))) ?_
      refine d_any rfl want_none rfl (fun _ => (y_fieldAddr (o := 1) (i := 1) Try.underlying25 rfl Try.sizeOf22 rfl rfl rfl)) ?_
      refine d_take rfl want_none rfl hs40 (fun _ hq => (yd_slice hbx (y_load1 Try.isAgg22 hq rfl rfl (ats_own (i := 0) (vs := [_]) rfl rfl)))) ?_
      refine d_any rfl want_none rfl (fun _ => (y_move (v := .int _ _) rfl rfl)) ?_
      refine d_any rfl want_none rfl (fun _ => (y_indexS Try.underlying22 Try.sizeOf70 rfl rfl rfl rfl (i := i) rfl hi2)) ?_
      refine d_take rfl want_none rfl hs40 (fun _ hq => (y_loadN (vs := [_, _, _]) Try.isAgg70 Try.sizeOf70 hq.tail rfl rfl hx)) ?_
      refine d_eff rfl ?_
      refine w_call want_none Try.call60 rfl rfl rfl rfl (c60 b p (by assumption) b.hours[i] (b.hours.take i) hs40) ?_
      rintro _ w42 ⟨rfl, hs43⟩
      refine w_nil ?_
      refine qn ⟨hs43, ?_⟩
      refine d_any rfl want_none rfl (fun _ => (y_assign (v := .int _ _) rfl rfl)) ?_
      refine d_nil ?_
      refine q_then (hK37 _ _ ?_)
      refine w_seq (fun K45 hK44 => ?_)
      refine w_region ?_
      refine w_p (y_move (v := .int _ _) rfl rfl) rfl ?_
      refine w_p (y_neq rfl rfl rfl rfl) rfl ?_
      refine w_nil ?_
      refine q_then (hK44 _ _ ?_)
      refine w_cond rfl rfl (fun h46 => ?_) (fun h46 => ?_)
      ·
       try simp only [zA, zB, zC, zD, zE, zF] at h46
       refine w_seq (fun K48 hK47 => ?_)
       refine w_region ?_
       refine w_p (y_move (v := .int _ _) rfl rfl) rfl ?_
       refine w_p (y_move (v := .int _ _) rfl rfl) rfl ?_
       refine w_p (y_assign (v := _) rfl rfl) rfl ?_
       refine w_p (y_assign (v := .int _ _) rfl rfl) rfl ?_
       refine w_p (y_assign (v := .int _ _) rfl rfl) rfl ?_
       refine w_nil ?_
       refine q_then (hK47 _ _ ?_)
       refine w_ret ?_
       refine q_blk_ret ?_
       refine q_then_ret ?_
       refine q_then_ret ?_
       refine q_blk_ret ?_
       refine q_then_ret ?_
       refine q_ret (l := [.tmp 2, .tmp 3, .tmp 4]) (vs := [_, _, _]) rfl ⟨⟨rfl, show _ = (.int _ _ : Value) from rfl⟩, ⟨rfl, show _ = (.int _ _ : Value) from rfl⟩, ⟨rfl, show _ = (.int _ _ : Value) from rfl⟩, trivial⟩ ?_
       first
         | contradiction
         | exact ⟨tup3 (chk_1 (by assumption)), hs43.tail⟩
         | exact ⟨tup3 (chk_h (by assumption) (fail_most (by omega)) (by decide)), hs43.tail⟩
         | (refine ⟨tup3 (chk_h (by assumption) ((fail_go (by omega)).trans (hinv.trans (firstE_stop hi2 (by assumption)))) (by assumption)), hs43.tail⟩)
         | exact ⟨tup3 (chk_c (by assumption) (by rw [fail_go (by omega), hhe]) (fail_most (by omega)) (by decide)), hs43.tail⟩
         | (refine ⟨tup3 (chk_c (by assumption) (by rw [fail_go (by omega), hhe]) ((fail_go (by omega)).trans (hinv.trans ((firstE_stop hi2 ?_).trans ?_))) ?_), hs43.tail⟩
            · rw [ctrE_no (by assumption)]; assumption
            · rw [ctrE_no (by assumption)]
            · assumption)
         | (refine ⟨tup3 (chk_c (by assumption) (by rw [fail_go (by omega), hhe]) ((fail_go (by omega)).trans (hinv.trans ((firstE_stop hi2 ?_).trans ?_))) ?_), hs43.tail⟩
            · rw [ctrE_yes (by assumption)]; assumption
            · rw [ctrE_yes (by assumption)]
            · assumption)
         | exact ⟨tup3 (chk_0 (by assumption) (by rw [fail_go (by omega), hhe]) (by rw [fail_go (by omega), hinv.trans (firstE_end (by omega) _)])), hs43.tail⟩
      ·
       try simp only [zA, zB, zC, zD, zE, zF] at h46
       refine w_skip ?_
       refine q_blk_normal ?_
       refine q_then (hK35 _ _ ?_)
       refine w_region ?_
       refine w_p (y_move (v := .int _ _) rfl rfl) rfl ?_
       refine w_p (y_add rfl rfl rfl rfl (by omega) (by omega)) rfl ?_
       refine w_p (y_assign (v := .int _ _) rfl rfl) rfl ?_
       refine w_nil ?_
       refine q_then (hN27 _ _ (Nx.intro (b.hours.length - (i + 1)) (by omega) (by repeat (first | exact agree_mix | refine agree_upd rfl ?_ | refine agree_updL rfl ?_ _ | refine agree_mixin rfl ?_)) ?_))
       exact ⟨i + 1, rfl, by omega, rfl, hinv.trans (firstE_step hi2 (by assumption)), hs43⟩
     ·
      try simp only [zA, zB, zC, zD, zE, zF] at h34
      refine w_exit ?_
      refine q_then_exit ?_
      refine q_then_exit ?_
      refine q_blk_this ?_
      refine q_then (hK23 _ _ ?_)
      refine w_seq (fun K50 hK49 => ?_)
      refine w_seq (fun K52 hK51 => ?_)
      have hhe : firstE (hourE b.holds) [] 0 b.hours = (0, 0) := hinv.trans (firstE_end (by omega) _)
      clear hinv
      refine w_region ?_
      refine w_p (y_fieldAddr (o := 2) (i := 2) Try.underlying25 rfl Try.sizeOf23 rfl rfl rfl) rfl ?_
      refine w_p (y_load1 Try.isAgg23 hs rfl rfl (ats_own (i := 0) (vs := [_]) rfl rfl)) rfl ?_
      refine w_p (y_lenS Try.underlying23 rfl rfl) rfl ?_
      refine w_p (y_gtr rfl rfl rfl rfl) rfl ?_
      refine w_nil ?_
      refine q_then (hK51 _ _ ?_)
      refine w_cond rfl rfl (fun h53 => ?_) (fun h53 => ?_)
      ·
       try simp only [zA, zB, zC, zD, zE, zF] at h53
       refine w_seq (fun K55 hK54 => ?_)
       refine w_region ?_
       refine w_p (y_assign (v := _) rfl rfl) rfl ?_
       refine w_p (y_assign (v := _) rfl rfl) rfl ?_
       refine w_p (y_assign (v := _) rfl rfl) rfl ?_
       refine w_nil ?_
       refine q_then (hK54 _ _ ?_)
       refine w_ret ?_
       refine q_then_ret ?_
       refine q_ret (l := [.tmp 2, .tmp 3, .tmp 4]) (vs := [_, _, _]) rfl ⟨⟨rfl, show _ = (.int _ _ : Value) from rfl⟩, ⟨rfl, show _ = (.int _ _ : Value) from rfl⟩, ⟨rfl, show _ = (.int _ _ : Value) from rfl⟩, trivial⟩ ?_
       first
         | contradiction
         | exact ⟨tup3 (chk_1 (by assumption)), hs.tail⟩
         | exact ⟨tup3 (chk_h (by assumption) (fail_most (by omega)) (by decide)), hs.tail⟩
         | (refine ⟨tup3 (chk_h (by assumption) ((fail_go (by omega)).trans (hinv.trans (firstE_stop hi2 (by assumption)))) (by assumption)), hs.tail⟩)
         | exact ⟨tup3 (chk_c (by assumption) (by rw [fail_go (by omega), hhe]) (fail_most (by omega)) (by decide)), hs.tail⟩
         | (refine ⟨tup3 (chk_c (by assumption) (by rw [fail_go (by omega), hhe]) ((fail_go (by omega)).trans (hinv.trans ((firstE_stop hi2 ?_).trans ?_))) ?_), hs.tail⟩
            · rw [ctrE_no (by assumption)]; assumption
            · rw [ctrE_no (by assumption)]
            · assumption)
         | (refine ⟨tup3 (chk_c (by assumption) (by rw [fail_go (by omega), hhe]) ((fail_go (by omega)).trans (hinv.trans ((firstE_stop hi2 ?_).trans ?_))) ?_), hs.tail⟩
            · rw [ctrE_yes (by assumption)]; assumption
            · rw [ctrE_yes (by assumption)]
            · assumption)
         | exact ⟨tup3 (chk_0 (by assumption) (by rw [fail_go (by omega), hhe]) (by rw [fail_go (by omega), hinv.trans (firstE_end (by omega) _)])), hs.tail⟩
      ·
       try simp only [zA, zB, zC, zD, zE, zF] at h53
       refine w_skip ?_
       refine q_then (hK49 _ _ ?_)
       refine w_seq (fun K57 hK56 => ?_)
       refine w_region ?_
       refine w_p (y_assign (v := _) rfl rfl) rfl ?_
       refine w_nil ?_
       refine q_then (hK56 _ _ ?_)
       refine w_seq (fun K59 hK58 => ?_)
       refine w_seq (fun K61 hK60 => ?_)
       refine w_region ?_
       refine w_p (y_assign (v := _) rfl rfl) rfl ?_
       refine w_nil ?_
       refine q_then (hK60 _ _ ?_)
       refine w_block ?_
       refine w_loop [2, 3, 4, 7, 8, 9, 40, 41, 42, 43, 44, 45, 46, 47, 48, 49, 50, 51, 52, 53, 54, 55, 56, 57, 58, 59, 60, 61, 62, 63, 64, 65, 66, 67, 68, 69, 70, 71, 72, 73, 74, 75, 76] [7, 8] (fun k vs w => ∃ (i : Nat) (v : Value) (B : List (Nat × Obj)), vs = [v, .int .i64 i] ∧ i ≤ b.ctrs.length ∧ k = b.ctrs.length - i ∧ firstE (ctrE b.hours.length) [] 0 b.ctrs = firstE (ctrE b.hours.length) (b.ctrs.take i) i (b.ctrs.drop i) ∧ Rt.Own v 9 1 i (((b.ctrs.take i).map (·.name)).map Value.string) B ∧ St w0 w ((b3, blk 25 (b.cells p)) :: (B ++ F))) (b.ctrs.length) ?_ ?_
       ·
        exact ⟨0, _, [], rfl, by omega, by omega, rfl, own_nil 9 1, hs⟩
       ·
        intro k vs μ w64 hI K63 hN62
        clear hia
        obtain ⟨i, v, B, rfl, hia, rfl, hinv, hown, hs⟩ := hI
        refine w_seq (fun K66 hK65 => ?_)
        refine w_seq (fun K68 hK67 => ?_)
        refine w_region ?_
        refine w_p (y_move (v := .int _ _) rfl rfl) rfl ?_
        refine w_p (y_fieldAddr (o := 2) (i := 2) Try.underlying25 rfl Try.sizeOf23 rfl rfl rfl) rfl ?_
        refine w_p (y_load1 Try.isAgg23 hs rfl rfl (ats_own (i := 0) (vs := [_]) rfl rfl)) rfl ?_
        refine w_p (y_lenS Try.underlying23 rfl rfl) rfl ?_
        refine w_p (y_lss rfl rfl rfl rfl) rfl ?_
        refine w_nil ?_
        refine q_then (hK67 _ _ ?_)
        refine w_cond rfl rfl (fun h69 => ?_) (fun h69 => ?_)
        ·
         try simp only [zA, zB, zC, zD, zE, zF] at h69
         refine w_skip ?_
         refine q_then (hK65 _ _ ?_)
         refine w_seq (fun K71 hK70 => ?_)
         refine w_block ?_
         refine w_seq (fun K73 hK72 => ?_)
         have hi2 : i < b.ctrs.length := by omega
         have hn2 := knames_len hia
         obtain ⟨bx, ox, hbx, hx⟩ := sl_krows hm.c hi2
         obtain ⟨an, cn, rfl, hsn⟩ := own_sl_map (w0 := w0) hown hn2 F
         have hnl : ((b.ctrs.take i).map (·.name)).length ≤ 1000000 := by omega
         refine w_region ?_
         refine w_p (y_fieldAddr (o := 2) (i := 2) Try.underlying25 rfl Try.sizeOf23 rfl rfl rfl) rfl ?_
         refine w_p (yd_slice hbx (y_load1 Try.isAgg23 hs rfl rfl (ats_own (i := 0) (vs := [_]) rfl rfl))) rfl ?_
         refine w_p (y_move (v := .int _ _) rfl rfl) rfl ?_
         refine w_p (y_indexS Try.underlying23 Try.sizeOf76 rfl rfl rfl rfl (i := i) rfl hi2) rfl ?_
         refine w_p (y_fieldAddr (o := 0) (i := 0) Try.underlying76 rfl Try.sizeOf9 rfl rfl rfl) rfl ?_
         refine w_p (y_load1 Try.isAgg9 hs.tail.drop rfl rfl (show Ats _ _ _ _ [_] from Ats.part hx 0 1)) rfl ?_
         refine w_p (y_move (v := .slice _ _ _) rfl rfl) rfl ?_
         refine w_call want_none Try.call61 rfl rfl rfl rfl ((c61 _ _ _ _ (hm.nm _ (List.getElem_mem hi2)) (by omega) hsn.cons hs).mono (fun v w2 h => (show v = .int .i64 (freshE b.ctrs[i].name ((b.ctrs.take i).map (·.name))) ∧ _ from h))) ?_
         rintro _ w75 ⟨rfl, hs76⟩
         refine w_p (y_assign (v := .int _ _) rfl rfl) rfl ?_
         refine w_nil ?_
         refine q_then (hK72 _ _ ?_)
         refine w_seq (fun K78 hK77 => ?_)
         refine w_region ?_
         refine w_p (y_move (v := .slice _ _ _) rfl rfl) rfl ?_
         refine w_p (y_fieldAddr (o := 2) (i := 2) Try.underlying25 rfl Try.sizeOf23 rfl rfl rfl) rfl ?_
         refine w_p (yd_slice hbx (y_load1 Try.isAgg23 hs76 rfl rfl (ats_own (i := 0) (vs := [_]) rfl rfl))) rfl ?_
         refine w_p (y_move (v := .int _ _) rfl rfl) rfl ?_
         refine w_p (y_indexS Try.underlying23 Try.sizeOf76 rfl rfl rfl rfl (i := i) rfl hi2) rfl ?_
         refine w_p (y_fieldAddr (o := 0) (i := 0) Try.underlying76 rfl Try.sizeOf9 rfl rfl rfl) rfl ?_
         refine w_p (y_load1 Try.isAgg9 hs76.tail.drop rfl rfl (show Ats _ _ _ _ [_] from Ats.part hx 0 1)) rfl ?_
         refine w_bslice (ps := [(0, _)]) (pv := [(0, .string _)]) (cs := [_]) want_none rfl rfl (fun w => Try_S_fb4 _ w) hs76 (fun b79 w80 hs81 => ?_)
         refine w_append (X := (_ :: _ :: [])) (B := B) (rows := [[_]]) (sz := 1) (bytes := 16) want_none Try.underlying92 Try_info9 rfl rfl rfl rfl rfl rfl rfl rfl rfl hs81 hown (sl_own (i := 0) rfl (by simp) rfl) rfl (by simp) (by simp [Value.oneCell']) (by simp only [maxLen]; omega) (by omega) (fun v82 w83 B84 ho85 hs86 => ?_)
         replace hs86 := (show St _ _ (_ :: _ :: B84 ++ (F)) from hs86)
         refine w_p (y_assign (v := v82) rfl rfl) rfl ?_
         refine w_nil ?_
         refine q_then (hK77 _ _ ?_)
         refine w_seq (fun K88 hK87 => ?_)
         refine w_seq (fun K90 hK89 => ?_)
         refine w_region ?_
         refine w_p (y_move (v := .int _ _) rfl rfl) rfl ?_
         refine w_p (y_eql rfl rfl rfl rfl) rfl ?_
         refine w_nil ?_
         refine q_then (hK89 _ _ ?_)
         refine w_cond rfl rfl (fun h91 => ?_) (fun h91 => ?_)
         ·
          try simp only [zA, zB, zC, zD, zE, zF] at h91
          refine w_draw [] [(0, 1), (1, 0), (2, 1), (3, 0), (4, 0), (5, 1), (6, 2), (7, 0)] Try_mo (drawOK_of (by kernel_rfl)) hs86 (fun w92 hs93 => ?_)
          refine d_take rfl want_none rfl hs93 (fun _ hq => (y_loadN (vs := [_, _, _]) Try.isAgg25 Try.sizeOf25 hq rfl rfl (ats_own (i := 1) (vs := [_, _, _]) rfl rfl))) ?_
          refine d_any rfl want_none rfl (fun _ => (y_fieldAddr (o := 2) (i := 2) Try.underlying25 rfl Try.sizeOf23 rfl rfl rfl)) ?_
          refine d_take rfl want_none rfl hs93 (fun _ hq => (yd_slice hbx (y_load1 Try.isAgg23 hq rfl rfl (ats_own (i := 1) (vs := [_]) rfl rfl)))) ?_
          refine d_any rfl want_none rfl (fun _ => (y_move (v := .int _ _) rfl rfl)) ?_
          refine d_any rfl want_none rfl (fun _ => (y_indexS Try.underlying23 Try.sizeOf76 rfl rfl rfl rfl (i := i) rfl hi2)) ?_
          refine d_take rfl want_none rfl hs93 (fun _ hq => (y_loadN (vs := [_, _, _, _, _, _]) Try.isAgg76 Try.sizeOf76 hq.tail.tail.drop rfl rfl hx)) ?_
          refine d_eff rfl ?_
          refine w_call want_none Try.call62 rfl rfl rfl rfl (c62 b p b.ctrs[i] (p.pc i) (by omega) (hm.lz i hi2).1 (hm.ls i hi2).1 (hm.z i hi2).app.cons.cons (hm.s i hi2).app.cons.cons hs93) ?_
          rintro _ w95 ⟨rfl, hs96⟩
          refine w_nil ?_
          refine qn ⟨hs96, ?_⟩
          refine d_any rfl want_none rfl (fun _ => (y_assign (v := .int _ _) rfl rfl)) ?_
          refine d_nil ?_
          refine q_then (hK87 _ _ ?_)
          refine w_seq (fun K98 hK97 => ?_)
          refine w_region ?_
          refine w_p (y_move (v := .int _ _) rfl rfl) rfl ?_
          refine w_p (y_neq rfl rfl rfl rfl) rfl ?_
          refine w_nil ?_
          refine q_then (hK97 _ _ ?_)
          refine w_cond rfl rfl (fun h99 => ?_) (fun h99 => ?_)
          ·
           try simp only [zA, zB, zC, zD, zE, zF] at h99
           refine w_seq (fun K101 hK100 => ?_)
           refine w_region ?_
           refine w_p (y_move (v := .int _ _) rfl rfl) rfl ?_
           refine w_p (y_move (v := .int _ _) rfl rfl) rfl ?_
           refine w_p (y_assign (v := _) rfl rfl) rfl ?_
           refine w_p (y_assign (v := .int _ _) rfl rfl) rfl ?_
           refine w_p (y_assign (v := .int _ _) rfl rfl) rfl ?_
           refine w_nil ?_
           refine q_then (hK100 _ _ ?_)
           refine w_ret ?_
           refine q_blk_ret ?_
           refine q_then_ret ?_
           refine q_then_ret ?_
           refine q_blk_ret ?_
           refine q_then_ret ?_
           refine q_ret (l := [.tmp 2, .tmp 3, .tmp 4]) (vs := [_, _, _]) rfl ⟨⟨rfl, show _ = (.int _ _ : Value) from rfl⟩, ⟨rfl, show _ = (.int _ _ : Value) from rfl⟩, ⟨rfl, show _ = (.int _ _ : Value) from rfl⟩, trivial⟩ ?_
           first
             | contradiction
             | exact ⟨tup3 (chk_1 (by assumption)), hs96.tail.tail.drop⟩
             | exact ⟨tup3 (chk_h (by assumption) (fail_most (by omega)) (by decide)), hs96.tail.tail.drop⟩
             | (refine ⟨tup3 (chk_h (by assumption) ((fail_go (by omega)).trans (hinv.trans (firstE_stop hi2 (by assumption)))) (by assumption)), hs96.tail.tail.drop⟩)
             | exact ⟨tup3 (chk_c (by assumption) (by rw [fail_go (by omega), hhe]) (fail_most (by omega)) (by decide)), hs96.tail.tail.drop⟩
             | (refine ⟨tup3 (chk_c (by assumption) (by rw [fail_go (by omega), hhe]) ((fail_go (by omega)).trans (hinv.trans ((firstE_stop hi2 ?_).trans ?_))) ?_), hs96.tail.tail.drop⟩
                · rw [ctrE_no (by assumption)]; assumption
                · rw [ctrE_no (by assumption)]
                · assumption)
             | (refine ⟨tup3 (chk_c (by assumption) (by rw [fail_go (by omega), hhe]) ((fail_go (by omega)).trans (hinv.trans ((firstE_stop hi2 ?_).trans ?_))) ?_), hs96.tail.tail.drop⟩
                · rw [ctrE_yes (by assumption)]; assumption
                · rw [ctrE_yes (by assumption)]
                · assumption)
             | exact ⟨tup3 (chk_0 (by assumption) (by rw [fail_go (by omega), hhe]) (by rw [fail_go (by omega), hinv.trans (firstE_end (by omega) _)])), hs96.tail.tail.drop⟩
          ·
           try simp only [zA, zB, zC, zD, zE, zF] at h99
           refine w_skip ?_
           refine q_blk_normal ?_
           refine q_then (hK70 _ _ ?_)
           refine w_region ?_
           refine w_p (y_move (v := .int _ _) rfl rfl) rfl ?_
           refine w_p (y_add rfl rfl rfl rfl (by omega) (by omega)) rfl ?_
           refine w_p (y_assign (v := .int _ _) rfl rfl) rfl ?_
           refine w_nil ?_
           refine q_then (hN62 _ _ (Nx.intro (b.ctrs.length - (i + 1)) (by omega) (by repeat (first | exact agree_mix | refine agree_upd rfl ?_ | refine agree_updL rfl ?_ _ | refine agree_mixin rfl ?_)) ?_))
           first
             | contradiction
             | exact ⟨i + 1, _, _, rfl, by omega, rfl, hinv.trans (firstE_step hi2 (by rw [ctrE_yes (by assumption)]; assumption)), by rw [← knames_snoc hi2]; exact ho85, hs96.tail⟩
         ·
          try simp only [zA, zB, zC, zD, zE, zF] at h91
          refine w_skip ?_
          refine q_then (hK87 _ _ ?_)
          refine w_seq (fun K103 hK102 => ?_)
          refine w_region ?_
          refine w_p (y_move (v := .int _ _) rfl rfl) rfl ?_
          refine w_p (y_neq rfl rfl rfl rfl) rfl ?_
          refine w_nil ?_
          refine q_then (hK102 _ _ ?_)
          refine w_cond rfl rfl (fun h104 => ?_) (fun h104 => ?_)
          ·
           try simp only [zA, zB, zC, zD, zE, zF] at h104
           refine w_seq (fun K106 hK105 => ?_)
           refine w_region ?_
           refine w_p (y_move (v := .int _ _) rfl rfl) rfl ?_
           refine w_p (y_move (v := .int _ _) rfl rfl) rfl ?_
           refine w_p (y_assign (v := _) rfl rfl) rfl ?_
           refine w_p (y_assign (v := .int _ _) rfl rfl) rfl ?_
           refine w_p (y_assign (v := .int _ _) rfl rfl) rfl ?_
           refine w_nil ?_
           refine q_then (hK105 _ _ ?_)
           refine w_ret ?_
           refine q_blk_ret ?_
           refine q_then_ret ?_
           refine q_then_ret ?_
           refine q_blk_ret ?_
           refine q_then_ret ?_
           refine q_ret (l := [.tmp 2, .tmp 3, .tmp 4]) (vs := [_, _, _]) rfl ⟨⟨rfl, show _ = (.int _ _ : Value) from rfl⟩, ⟨rfl, show _ = (.int _ _ : Value) from rfl⟩, ⟨rfl, show _ = (.int _ _ : Value) from rfl⟩, trivial⟩ ?_
           first
             | contradiction
             | exact ⟨tup3 (chk_1 (by assumption)), hs86.tail.tail.drop⟩
             | exact ⟨tup3 (chk_h (by assumption) (fail_most (by omega)) (by decide)), hs86.tail.tail.drop⟩
             | (refine ⟨tup3 (chk_h (by assumption) ((fail_go (by omega)).trans (hinv.trans (firstE_stop hi2 (by assumption)))) (by assumption)), hs86.tail.tail.drop⟩)
             | exact ⟨tup3 (chk_c (by assumption) (by rw [fail_go (by omega), hhe]) (fail_most (by omega)) (by decide)), hs86.tail.tail.drop⟩
             | (refine ⟨tup3 (chk_c (by assumption) (by rw [fail_go (by omega), hhe]) ((fail_go (by omega)).trans (hinv.trans ((firstE_stop hi2 ?_).trans ?_))) ?_), hs86.tail.tail.drop⟩
                · rw [ctrE_no (by assumption)]; assumption
                · rw [ctrE_no (by assumption)]
                · assumption)
             | (refine ⟨tup3 (chk_c (by assumption) (by rw [fail_go (by omega), hhe]) ((fail_go (by omega)).trans (hinv.trans ((firstE_stop hi2 ?_).trans ?_))) ?_), hs86.tail.tail.drop⟩
                · rw [ctrE_yes (by assumption)]; assumption
                · rw [ctrE_yes (by assumption)]
                · assumption)
             | exact ⟨tup3 (chk_0 (by assumption) (by rw [fail_go (by omega), hhe]) (by rw [fail_go (by omega), hinv.trans (firstE_end (by omega) _)])), hs86.tail.tail.drop⟩
          ·
           try simp only [zA, zB, zC, zD, zE, zF] at h104
           refine w_skip ?_
           refine q_blk_normal ?_
           refine q_then (hK70 _ _ ?_)
           refine w_region ?_
           refine w_p (y_move (v := .int _ _) rfl rfl) rfl ?_
           refine w_p (y_add rfl rfl rfl rfl (by omega) (by omega)) rfl ?_
           refine w_p (y_assign (v := .int _ _) rfl rfl) rfl ?_
           refine w_nil ?_
           refine q_then (hN62 _ _ (Nx.intro (b.ctrs.length - (i + 1)) (by omega) (by repeat (first | exact agree_mix | refine agree_upd rfl ?_ | refine agree_updL rfl ?_ _ | refine agree_mixin rfl ?_)) ?_))
           first
             | contradiction
             | exact ⟨i + 1, _, _, rfl, by omega, rfl, hinv.trans (firstE_step hi2 (by rw [ctrE_yes (by assumption)]; assumption)), by rw [← knames_snoc hi2]; exact ho85, hs86.tail⟩
        ·
         try simp only [zA, zB, zC, zD, zE, zF] at h69
         refine w_exit ?_
         refine q_then_exit ?_
         refine q_then_exit ?_
         refine q_blk_this ?_
         refine q_then (hK58 _ _ ?_)
         refine w_seq (fun K108 hK107 => ?_)
         refine w_region ?_
         refine w_p (y_assign (v := _) rfl rfl) rfl ?_
         refine w_p (y_assign (v := _) rfl rfl) rfl ?_
         refine w_p (y_assign (v := _) rfl rfl) rfl ?_
         refine w_nil ?_
         refine q_then (hK107 _ _ ?_)
         refine w_ret ?_
         refine q_ret (l := [.tmp 2, .tmp 3, .tmp 4]) (vs := [_, _, _]) rfl ⟨⟨rfl, show _ = (.int _ _ : Value) from rfl⟩, ⟨rfl, show _ = (.int _ _ : Value) from rfl⟩, ⟨rfl, show _ = (.int _ _ : Value) from rfl⟩, trivial⟩ ?_
         first
           | contradiction
           | exact ⟨tup3 (chk_1 (by assumption)), hs.tail.drop⟩
           | exact ⟨tup3 (chk_h (by assumption) (fail_most (by omega)) (by decide)), hs.tail.drop⟩
           | (refine ⟨tup3 (chk_h (by assumption) ((fail_go (by omega)).trans (hinv.trans (firstE_stop hi2 (by assumption)))) (by assumption)), hs.tail.drop⟩)
           | exact ⟨tup3 (chk_c (by assumption) (by rw [fail_go (by omega), hhe]) (fail_most (by omega)) (by decide)), hs.tail.drop⟩
           | (refine ⟨tup3 (chk_c (by assumption) (by rw [fail_go (by omega), hhe]) ((fail_go (by omega)).trans (hinv.trans ((firstE_stop hi2 ?_).trans ?_))) ?_), hs.tail.drop⟩
              · rw [ctrE_no (by assumption)]; assumption
              · rw [ctrE_no (by assumption)]
              · assumption)
           | (refine ⟨tup3 (chk_c (by assumption) (by rw [fail_go (by omega), hhe]) ((fail_go (by omega)).trans (hinv.trans ((firstE_stop hi2 ?_).trans ?_))) ?_), hs.tail.drop⟩
              · rw [ctrE_yes (by assumption)]; assumption
              · rw [ctrE_yes (by assumption)]
              · assumption)
           | exact ⟨tup3 (chk_0 (by assumption) (by rw [fail_go (by omega), hhe]) (by rw [fail_go (by omega), hinv.trans (firstE_end (by omega) _)])), hs.tail.drop⟩

end Go.Proofs
