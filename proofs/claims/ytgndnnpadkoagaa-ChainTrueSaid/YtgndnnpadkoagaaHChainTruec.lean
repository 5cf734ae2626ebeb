/- Own texts of this claim, joined. No conditions. -/
import Derived.Maps.RangeRun
import Derived.Test.YtgndnnpadkoagaaRows
import Derived.OpenShut
import Derived.Test.YtgndnnpadkoagaaHChainTruea
import Derived.Test.YtgndnnpadkoagaaHChainTrueb
/- The walking engine, part 18: maps as lists of keys and values; ranges over maps. No conditions. -/
set_option linter.unusedSimpArgs false
set_option linter.unusedVariables false
set_option linter.unusedSectionVars false
namespace Go.Rt
open Go.RowKit
section
variable {α : Type} [DecidableEq α]
/-- A map's entries: key, value, when it was laid. -/
def ents (kv : α → Value) (l : List (α × Value × Nat)) : List MapEntry := l.map fun q => { key := kv q.1, val := q.2.1, born := q.2.2 }
def idxA (a : α) : List (α × Value × Nat) → Nat → Option (Nat × Value)
  | [], _ => none
  | q :: l, i => if q.1 = a then some (i, q.2.1) else idxA a l (i + 1)
def getA (a : α) : List (α × Value × Nat) → Option Value
  | [] => none
  | q :: l => if q.1 = a then some q.2.1 else getA a l
def putA (a : α) (v : Value) (ck : Nat) : List (α × Value × Nat) → List (α × Value × Nat)
  | [] => [(a, v, ck)]
  | q :: l => if q.1 = a then (a, v, q.2.2) :: l else q :: putA a v ck l
/-- What a key's type has to be like. -/
structure KeyG (P : Program) (t : TypeId) (kv : α → Value) (ok : α → Prop) : Prop where
  chk : ∀ (em : Bool) (a : α) (w : World), ok a → (Instr.checkKey em 10000 t (kv a)).run P w = .ok () w
  find : ∀ (a : α) (l : List (α × Value × Nat)) (w : World), ok a → (∀ q ∈ l, ok q.1) → (Instr.findKey t (kv a) (ents kv l)).run P w = .ok (idxA a l 0) w
  stay : ∀ a : α, ok a → Instr.sameBits 10000 (kv a) (kv a) = true
theorem getA_none {a : α} : ∀ {l : List (α × Value × Nat)}, getA a l = none ↔ ∀ q ∈ l, q.1 ≠ a
  | [] => by simp [getA]
  | q :: l => by
    by_cases h : q.1 = a
    · simp [getA, h]
    · simp [getA, h, getA_none (l := l)]
theorem idxA_get {a : α} : ∀ (l : List (α × Value × Nat)) (i : Nat), (idxA a l i).map (·.2) = getA a l
  | [], _ => rfl
  | q :: l, i => by
    by_cases h : q.1 = a
    · simp [idxA, getA, h]
    · simp [idxA, getA, h, idxA_get l]
theorem idxA_off {a : α} : ∀ (l : List (α × Value × Nat)) (i : Nat), idxA a l (i + 1) = (idxA a l i).map fun p => (p.1 + 1, p.2)
  | [], _ => rfl
  | q :: l, i => by
    by_cases h : q.1 = a
    · simp [idxA, h]
    · simp [idxA, h, idxA_off l]
theorem putA_none {a : α} {v : Value} {ck : Nat} : ∀ {l : List (α × Value × Nat)}, idxA a l 0 = none → putA a v ck l = l ++ [(a, v, ck)]
  | [], _ => rfl
  | q :: l, h => by
    by_cases e : q.1 = a
    · simp [idxA, e] at h
    · simp only [idxA, if_neg e] at h
      rw [idxA_off] at h
      simp only [putA, if_neg e, List.cons_append]
      rw [putA_none (by simpa using h)]
theorem putA_some {kv : α → Value} {a : α} {v : Value} {ck : Nat} : ∀ {l : List (α × Value × Nat)} {i : Nat} {u : Value}, idxA a l 0 = some (i, u) → ents kv (putA a v ck l) = (ents kv l).modify i (fun e => { e with key := kv a, val := v })
  | [], _, _, h => by simp [idxA] at h
  | q :: l, i, u, h => by
    by_cases e : q.1 = a
    · simp only [idxA, if_pos e] at h
      injection h with h; injection h with h1 h2
      subst h1
      simp [putA, e, ents]
    · simp only [idxA, if_neg e] at h
      rw [idxA_off] at h
      cases hq : idxA a l 0 with
      | none => rw [hq] at h; cases h
      | some p =>
        rw [hq] at h
        injection h with h; injection h with h1 h2
        subst h1
        have ih := putA_some (kv := kv) (v := v) (ck := ck) (show idxA a l 0 = some (p.1, p.2) from hq)
        have e1 : ents kv (putA a v ck (q :: l)) = { key := kv q.1, val := q.2.1, born := q.2.2 } :: ents kv (putA a v ck l) := by simp [putA, e, ents]
        rw [e1, ih]
        show _ = (_ :: ents kv l).modify (p.1 + 1) _
        simp
theorem idxA_at {kv : α → Value} {a : α} : ∀ {l : List (α × Value × Nat)} {i : Nat} {u : Value}, idxA a l 0 = some (i, u) → ((ents kv l)[i]?).map (·.key) = some (kv a)
  | [], _, _, h => by simp [idxA] at h
  | q :: l, i, u, h => by
    by_cases e : q.1 = a
    · simp only [idxA, if_pos e] at h
      injection h with h; injection h with h1 h2
      subst h1
      simp [ents, e]
    · simp only [idxA, if_neg e] at h
      rw [idxA_off] at h
      cases hq : idxA a l 0 with
      | none => rw [hq] at h; cases h
      | some p =>
        rw [hq] at h
        injection h with h; injection h with h1 h2
        subst h1
        have ih := idxA_at (kv := kv) (show idxA a l 0 = some (p.1, p.2) from hq)
        show ((_ :: ents kv l)[p.1 + 1]?).map _ = _
        simpa using ih
theorem mem_putA {a : α} {v : Value} {ck : Nat} {q : α × Value × Nat} : ∀ {l : List (α × Value × Nat)}, q ∈ putA a v ck l → (q.1 = a ∧ q.2.1 = v) ∨ q ∈ l
  | [], h => by simp [putA] at h; subst h; exact .inl ⟨rfl, rfl⟩
  | x :: l, h => by
    by_cases e : x.1 = a
    · simp only [putA, if_pos e] at h
      cases h with
      | head => exact .inl ⟨rfl, rfl⟩
      | tail _ h => exact .inr (.tail _ h)
    · simp only [putA, if_neg e] at h
      cases h with
      | head => exact .inr (.head _)
      | tail _ h =>
        rcases mem_putA h with h | h
        · exact .inl h
        · exact .inr (.tail _ h)
theorem keys_putA {a : α} {v : Value} {ck : Nat} : ∀ {l : List (α × Value × Nat)} {b : α}, b ∈ (putA a v ck l).map (·.1) ↔ b = a ∨ b ∈ l.map (·.1)
  | [], b => by simp [putA]
  | x :: l, b => by
    by_cases e : x.1 = a
    · simp [putA, e]
    · simp only [putA, if_neg e, List.map_cons, List.mem_cons, keys_putA (l := l)]
      constructor
      · rintro (h | h | h)
        · exact .inr (.inl h)
        · exact .inl h
        · exact .inr (.inr h)
      · rintro (h | h | h)
        · exact .inr (.inl h)
        · exact .inl h
        · exact .inr (.inr h)
/-- A map's entries are laid one after the other, each key once. -/
structure MOk (l : List (α × Value × Nat)) (ck : Nat) : Prop where
  born : ∀ q ∈ l, q.2.2 < ck
  bnd : (l.map (·.2.2)).Nodup
  key : (l.map (·.1)).Nodup
theorem mok_nil : MOk ([] : List (α × Value × Nat)) 0 := ⟨by simp, by simp, by simp⟩
theorem borns_putA {a : α} {v : Value} {ck : Nat} : ∀ {l : List (α × Value × Nat)}, (idxA a l 0 ≠ none ∧ (putA a v ck l).map (·.2.2) = l.map (·.2.2) ∧ (putA a v ck l).map (·.1) = l.map (·.1)) ∨ (idxA a l 0 = none ∧ (putA a v ck l).map (·.2.2) = l.map (·.2.2) ++ [ck] ∧ (putA a v ck l).map (·.1) = l.map (·.1) ++ [a] ∧ a ∉ l.map (·.1))
  | [] => .inr ⟨rfl, rfl, rfl, by simp⟩
  | x :: l => by
    by_cases e : x.1 = a
    · left; simp [idxA, putA, e]
    · have hx : idxA a (x :: l) 0 = (idxA a l 0).map fun p => (p.1 + 1, p.2) := by simp only [idxA, if_neg e]; exact idxA_off l 0
      rcases borns_putA (a := a) (v := v) (ck := ck) (l := l) with ⟨h1, h2, h3⟩ | ⟨h1, h2, h3, h4⟩
      · left
        refine ⟨by rw [hx]; intro h; simp at h; exact h1 h, by simp [putA, e, h2], by simp [putA, e, h3]⟩
      · right
        refine ⟨by rw [hx, h1]; rfl, by simp [putA, e, h2], by simp [putA, e, h3], ?_⟩
        rw [List.map_cons, List.mem_cons, not_or]
        exact ⟨fun h => e h.symm, h4⟩
theorem MOk.put {l : List (α × Value × Nat)} {ck : Nat} (h : MOk l ck) (a : α) (v : Value) : MOk (putA a v ck l) (if idxA a l 0 = none then ck + 1 else ck) := by
  have hb : ∀ z ∈ l.map (·.2.2), z < ck := by intro z hz; obtain ⟨q, hq, rfl⟩ := List.mem_map.1 hz; exact h.born q hq
  rcases borns_putA (a := a) (v := v) (ck := ck) (l := l) with ⟨h1, h2, h3⟩ | ⟨h1, h2, h3, h4⟩
  · rw [if_neg h1]
    exact ⟨fun q hq => hb _ (by rw [← h2]; exact List.mem_map_of_mem hq), by rw [h2]; exact h.bnd, by rw [h3]; exact h.key⟩
  · rw [if_pos h1]
    refine ⟨fun q hq => ?_, ?_, ?_⟩
    · have : q.2.2 ∈ (putA a v ck l).map (·.2.2) := List.mem_map_of_mem (f := fun q : α × Value × Nat => q.2.2) hq
      rw [h2, List.mem_append, List.mem_singleton] at this
      rcases this with h5 | h5
      · have := hb _ h5; omega
      · omega
    · rw [h2, List.nodup_append]
      refine ⟨h.bnd, by simp, fun x hx y hy => ?_⟩
      rw [List.mem_singleton] at hy
      subst hy
      have := hb _ hx; omega
    · rw [h3, List.nodup_append]
      refine ⟨h.key, by simp, fun x hx y hy e => ?_⟩
      rw [List.mem_singleton] at hy
      subst hy e
      exact h4 hx
end
section
variable {r : Option Nat} {P : Program} {ops : Array Oper} {Q : Exit → Act → World → Prop} {rest : List Oper} {n : Nat} {ρ : Nat → Value} {ds : List Deferred} {w w0 : World} {L : List (Nat × Obj)}
  {d : Option Tmp} {ty : TypeId} {p : String} {e : Array Edge} {g : Option (Nat × Bool)} {α : Type} [DecidableEq α] {kv : α → Value} {ok : α → Prop}
theorem G_lookS {mt kt el : TypeId} {x y : Operand} {a : α} {l : List (α × Value × Nat)} {m i ck : Nat} {v : Value} (hU : P.underlying mt = some (.map kt el)) (hK : KeyG P kt kv ok) (hok : ok a) (hall : ∀ q ∈ l, ok q.1)
    (hst : St w0 w L) (ho : okO n x = true) (ho1 : okO n y = true) (hx : ev ρ x = .map (some m)) (hy : ev ρ y = kv a) (hi : L[i]? = some (m, .map (ents kv l).toArray ck)) (hf : getA a l = some v) (both : Bool) :
    Yd P (A n ρ ds) ⟨d, .lookup mt x y both, ty, p, e, g⟩ w (if both then .tuple #[v, .bool true] else v) := by
  have hc := hK.chk (ents kv l).toArray.isEmpty a w hok
  have hg := hK.find a l w hok hall
  have hv := idxA_get (a := a) l 0
  rw [hf] at hv
  cases hq : idxA a l 0 with
  | none => rw [hq] at hv; cases hv
  | some q =>
    rw [hq] at hg hv
    obtain ⟨j, u⟩ := q
    have hu : u = v := by simpa using hv
    subst hu
    unfold Yd
    have : (Instr.lookup mt (.map (some m)) (kv a) both).run P w = .ok (if both then .tuple #[u, .bool true] else u) w := by
      simp only [Instr.lookup, Sem.run_bind, run_underlying hU, Result.andThen_ok, hst.obj hi, Sem.run_pure, hc, hg]
    simp only [execOp, ev_eq ho, ev_eq ho1, hx, hy, Sem.run_bind, this]
    rfl
theorem G_lookN {mt kt el : TypeId} {x y : Operand} {a : α} {l : List (α × Value × Nat)} {m i ck : Nat} {z : Value} (hU : P.underlying mt = some (.map kt el)) (hK : KeyG P kt kv ok) (hok : ok a) (hall : ∀ q ∈ l, ok q.1)
    (hz : ∀ w, (zeroValue el).run P w = .ok z w) (hst : St w0 w L) (ho : okO n x = true) (ho1 : okO n y = true) (hx : ev ρ x = .map (some m)) (hy : ev ρ y = kv a) (hi : L[i]? = some (m, .map (ents kv l).toArray ck)) (hf : getA a l = none) (both : Bool) :
    Yd P (A n ρ ds) ⟨d, .lookup mt x y both, ty, p, e, g⟩ w (if both then .tuple #[z, .bool false] else z) := by
  have hc := hK.chk (ents kv l).toArray.isEmpty a w hok
  have hg := hK.find a l w hok hall
  have hv := idxA_get (a := a) l 0
  rw [hf] at hv
  cases hq : idxA a l 0 with
  | some q => rw [hq] at hv; cases hv
  | none =>
    rw [hq] at hg
    unfold Yd
    have : (Instr.lookup mt (.map (some m)) (kv a) both).run P w = .ok (if both then .tuple #[z, .bool false] else z) w := by
      simp only [Instr.lookup, Sem.run_bind, run_underlying hU, Result.andThen_ok, hst.obj hi, Sem.run_pure, hc, hg, hz]
    simp only [execOp, ev_eq ho, ev_eq ho1, hx, hy, Sem.run_bind, this]
    rfl
theorem G_look2S {mt kt el : TypeId} {x y : Operand} {a : α} {l : List (α × Value × Nat)} {m i ck : Nat} {v : Value} (hU : P.underlying mt = some (.map kt el)) (hK : KeyG P kt kv ok) (hok : ok a) (hall : ∀ q ∈ l, ok q.1)
    (hst : St w0 w L) (ho : okO n x = true) (ho1 : okO n y = true) (hx : ev ρ x = .map (some m)) (hy : ev ρ y = kv a) (hi : L[i]? = some (m, .map (ents kv l).toArray ck)) (hf : getA a l = some v) :
    Yd P (A n ρ ds) ⟨d, .lookup mt x y true, ty, p, e, g⟩ w (.tuple #[v, .bool true]) := G_lookS hU hK hok hall hst ho ho1 hx hy hi hf true
theorem G_look1S {mt kt el : TypeId} {x y : Operand} {a : α} {l : List (α × Value × Nat)} {m i ck : Nat} {v : Value} (hU : P.underlying mt = some (.map kt el)) (hK : KeyG P kt kv ok) (hok : ok a) (hall : ∀ q ∈ l, ok q.1)
    (hst : St w0 w L) (ho : okO n x = true) (ho1 : okO n y = true) (hx : ev ρ x = .map (some m)) (hy : ev ρ y = kv a) (hi : L[i]? = some (m, .map (ents kv l).toArray ck)) (hf : getA a l = some v) :
    Yd P (A n ρ ds) ⟨d, .lookup mt x y false, ty, p, e, g⟩ w v := G_lookS hU hK hok hall hst ho ho1 hx hy hi hf false
theorem G_look2N {mt kt el : TypeId} {x y : Operand} {a : α} {l : List (α × Value × Nat)} {m i ck : Nat} {z : Value} (hU : P.underlying mt = some (.map kt el)) (hK : KeyG P kt kv ok) (hok : ok a) (hall : ∀ q ∈ l, ok q.1)
    (hz : ∀ w, (zeroValue el).run P w = .ok z w) (hst : St w0 w L) (ho : okO n x = true) (ho1 : okO n y = true) (hx : ev ρ x = .map (some m)) (hy : ev ρ y = kv a) (hi : L[i]? = some (m, .map (ents kv l).toArray ck)) (hf : getA a l = none) :
    Yd P (A n ρ ds) ⟨d, .lookup mt x y true, ty, p, e, g⟩ w (.tuple #[z, .bool false]) := G_lookN hU hK hok hall hz hst ho ho1 hx hy hi hf true
theorem G_look1N {mt kt el : TypeId} {x y : Operand} {a : α} {l : List (α × Value × Nat)} {m i ck : Nat} {z : Value} (hU : P.underlying mt = some (.map kt el)) (hK : KeyG P kt kv ok) (hok : ok a) (hall : ∀ q ∈ l, ok q.1)
    (hz : ∀ w, (zeroValue el).run P w = .ok z w) (hst : St w0 w L) (ho : okO n x = true) (ho1 : okO n y = true) (hx : ev ρ x = .map (some m)) (hy : ev ρ y = kv a) (hi : L[i]? = some (m, .map (ents kv l).toArray ck)) (hf : getA a l = none) :
    Yd P (A n ρ ds) ⟨d, .lookup mt x y false, ty, p, e, g⟩ w z := G_lookN hU hK hok hall hz hst ho ho1 hx hy hi hf false
theorem G_put {mt kt el : TypeId} {x y z : Operand} {a : α} {v : Value} {l : List (α × Value × Nat)} {m i ck : Nat} (hw : Want ops (A n ρ ds) ⟨none, .mapUpdate mt x y z, ty, p, e, g⟩) (hU : P.underlying mt = some (.map kt el)) (hK : KeyG P kt kv ok) (hok : ok a) (hall : ∀ q ∈ l, ok q.1)
    (ho : okO n x = true) (ho1 : okO n y = true) (ho2 : okO n z = true) (hx : ev ρ x = .map (some m)) (hy : ev ρ y = kv a) (hz : ev ρ z = v) (hst : St w0 w L) (hi : L[i]? = some (m, .map (ents kv l).toArray ck))
    (hk2 : ∀ w', St w0 w' (L.set i (m, .map (ents kv (putA a v ck l)).toArray (if idxA a l 0 = none then ck + 1 else ck))) → WL r P ops Q rest (A n ρ ds) w') :
    WL r P ops Q (⟨none, .mapUpdate mt x y z, ty, p, e, g⟩ :: rest) (A n ρ ds) w := by
  refine w_unit hw (w' := w.putObj m (.map (ents kv (putA a v ck l)).toArray (if idxA a l 0 = none then ck + 1 else ck))) ?_ rfl (hk2 _ (hst.putObj hi _))
  have hc := hK.chk false a w hok
  have hg := hK.find a l w hok hall
  have hs : ∀ o, (setObj m o).run P w = .ok () (w.putObj m o) := by intro o; simp [setObj, Sem.run, hst.get hi, World.putObj]
  have : (Instr.mapUpdate mt (.map (some m)) (kv a) v).run P w = .ok () (w.putObj m (.map (ents kv (putA a v ck l)).toArray (if idxA a l 0 = none then ck + 1 else ck))) := by
    simp only [Instr.mapUpdate, Sem.run_bind, run_underlying hU, Result.andThen_ok, hst.obj hi, Sem.run_pure, hc, hg]
    cases hq : idxA a l 0 with
    | none =>
      simp only [hs, if_true]
      rw [putA_none hq]
      simp [ents]
    | some q =>
      obtain ⟨j, u⟩ := q
      have h1 := putA_some (kv := kv) (v := v) (ck := ck) hq
      have h2 := idxA_at (kv := kv) hq
      have h3 : (((ents kv l).toArray[j]?).map (·.key)).getD (kv a) = kv a := by rw [List.getElem?_toArray, h2]; rfl
      simp only [h3, Instr.keyThatStays, hK.stay a hok, if_true, Sem.run_bind, Sem.run_pure, Result.andThen_ok, hs]
      rw [h1, if_neg (by simp)]
      congr 3
      apply Array.toList_inj.1
      simp
  simp only [execOp, ev_eq ho, ev_eq ho1, ev_eq ho2, hx, hy, hz, Sem.run_bind, this]
  rfl
theorem G_insert {mt kt el : TypeId} {x y z : Operand} {a : α} {v : Value} {l : List (α × Value × Nat)} {m i ck : Nat} (hw : Want ops (A n ρ ds) ⟨none, .insert mt x y z, ty, p, e, g⟩) (hU : P.underlying mt = some (.map kt el)) (hK : KeyG P kt kv ok) (hok : ok a) (hall : ∀ q ∈ l, ok q.1)
    (ho : okO n x = true) (ho1 : okO n y = true) (ho2 : okO n z = true) (hx : ev ρ x = .map (some m)) (hy : ev ρ y = kv a) (hz : ev ρ z = v) (hst : St w0 w L) (hi : L[i]? = some (m, .map (ents kv l).toArray ck))
    (hk2 : ∀ w', St w0 w' (L.set i (m, .map (ents kv (putA a v ck l)).toArray (if idxA a l 0 = none then ck + 1 else ck))) → WL r P ops Q rest (A n ρ ds) w') :
    WL r P ops Q (⟨none, .insert mt x y z, ty, p, e, g⟩ :: rest) (A n ρ ds) w := by
  refine w_unit hw (w' := w.putObj m (.map (ents kv (putA a v ck l)).toArray (if idxA a l 0 = none then ck + 1 else ck))) ?_ rfl (hk2 _ (hst.putObj hi _))
  have hc := hK.chk false a w hok
  have hg := hK.find a l w hok hall
  have hs : ∀ o, (setObj m o).run P w = .ok () (w.putObj m o) := by intro o; simp [setObj, Sem.run, hst.get hi, World.putObj]
  have : (Instr.mapUpdate mt (.map (some m)) (kv a) v).run P w = .ok () (w.putObj m (.map (ents kv (putA a v ck l)).toArray (if idxA a l 0 = none then ck + 1 else ck))) := by
    simp only [Instr.mapUpdate, Sem.run_bind, run_underlying hU, Result.andThen_ok, hst.obj hi, Sem.run_pure, hc, hg]
    cases hq : idxA a l 0 with
    | none =>
      simp only [hs, if_true]
      rw [putA_none hq]
      simp [ents]
    | some q =>
      obtain ⟨j, u⟩ := q
      have h1 := putA_some (kv := kv) (v := v) (ck := ck) hq
      have h2 := idxA_at (kv := kv) hq
      have h3 : (((ents kv l).toArray[j]?).map (·.key)).getD (kv a) = kv a := by rw [List.getElem?_toArray, h2]; rfl
      simp only [h3, Instr.keyThatStays, hK.stay a hok, if_true, Sem.run_bind, Sem.run_pure, Result.andThen_ok, hs]
      rw [h1, if_neg (by simp)]
      congr 3
      apply Array.toList_inj.1
      simp
  simp only [execOp, ev_eq ho, ev_eq ho1, ev_eq ho2, hx, hy, hz, Sem.run_bind, this]
  rfl
theorem w_rangeMap {d : Nat} {t kt el : TypeId} {x : Operand} {m i : Nat} {es : Array MapEntry} {ck : Nat} (hw : Want ops (A n ρ ds) ⟨some d, .range t x, ty, p, e, g⟩) (hU : P.underlying t = some (.map kt el)) (ho : okO n x = true) (hx : ev ρ x = .map (some m)) (hst : St w0 w L) (hi : L[i]? = some (m, .map es ck))
    (hk : ∀ b w', St w0 w' ((b, .mapIter (some m) ck #[] ck) :: L) → WL r P ops Q rest (A n (upd ρ d (.pointer (some ⟨b, 0, none⟩))) ds) w') :
    WL r P ops Q (⟨some d, .range t x, ty, p, e, g⟩ :: rest) (A n ρ ds) w := by
  refine w_val (v := .pointer (some ⟨w.heap.size, 0, none⟩)) (w' := w.alloc (.mapIter (some m) ck #[] ck)) hw ?_ rfl (hk _ _ (hst.alloc _))
  simp [execOp, Instr.range, ev_eq ho, hx, Sem.run_bind, run_underlying hU, Result.andThen, hst.obj hi]
/-- One more entry, in whatever order, or none is left. -/
theorem w_nextMap {d : Nat} {x : Operand} {m i j b since last ck : Nat} {seen : Array Nat} {l : List (α × Value × Nat)} (hw : Want ops (A n ρ ds) ⟨some d, .next x false, ty, p, e, g⟩) (ho : okO n x = true) (hx : ev ρ x = .pointer (some ⟨b, 0, none⟩)) (hst : St w0 w L)
    (hi : L[i]? = some (b, .mapIter (some m) since seen last)) (hj : L[j]? = some (m, .map (ents kv l).toArray ck)) (hold : ∀ q ∈ l, q.2.2 < since) (hsc : since ≤ last)
    (hk1 : ∀ q ∈ l, q.2.2 ∉ seen.toList → ∀ w', St w0 w' (L.set i (b, .mapIter (some m) since (seen.push q.2.2) ck)) → WL r P ops Q rest (A n (upd ρ d (.tuple #[.bool true, kv q.1, q.2.1])) ds) w')
    (hk2 : (∀ q ∈ l, q.2.2 ∈ seen.toList) → WL r P ops Q rest (A n (upd ρ d (.tuple #[.bool false])) ds) w) :
    WL r P ops Q (⟨some d, .next x false, ty, p, e, g⟩ :: rest) (A n ρ ds) w := by
  have h := run_next_at (P := P) w ty b m since last seen (ents kv l).toArray ck (hst.get hi) (hst.get hj) (fun x hx => by
    simp only [ents, List.mem_map] at hx
    obtain ⟨q, hq, rfl⟩ := hx
    exact hold q hq) hsc
  rcases h with ⟨h1, h2⟩ | ⟨e1, he, w1, hw1, h2⟩
  · refine w_val (v := .tuple #[.bool false]) (w' := w) hw ?_ rfl (hk2 fun q hq => ?_)
    · simp only [execOp, ev_eq ho, hx, Sem.run_bind, h2]; rfl
    · refine Decidable.byContradiction fun hn => ?_
      have hm : ({ key := kv q.1, val := q.2.1, born := q.2.2 } : MapEntry) ∈ leftOf (ents kv l).toArray seen := by
        unfold leftOf
        rw [Array.mem_filter]
        refine ⟨by simp [ents]; exact ⟨q.1, q.2.1, q.2.2, hq, rfl, rfl, rfl⟩, by simpa using hn⟩
      have := Array.size_pos_of_mem hm
      omega
  · have he2 : e1 ∈ (leftOf (ents kv l).toArray seen) := by simpa using he
    unfold leftOf at he2
    rw [Array.mem_filter] at he2
    obtain ⟨q, hq, rfl⟩ : ∃ q ∈ l, ({ key := kv q.1, val := q.2.1, born := q.2.2 } : MapEntry) = e1 := by
      have := he2.1
      simp only [ents, List.mem_toArray, List.mem_map] at this
      exact this
    have hst1 : St w0 w1 L := by rcases hw1 with rfl | rfl; exact hst; exact hst.drew
    refine w_val (v := .tuple #[.bool true, kv q.1, q.2.1]) (w' := w1.putObj b (.mapIter (some m) since (seen.push q.2.2) ck)) hw ?_ rfl (hk1 q hq (by simpa using he2.2) _ (hst1.putObj hi _))
    simp only [execOp, ev_eq ho, hx, Sem.run_bind, h2]; rfl
theorem y_entryG {x : Operand} {m i j b since ck : Nat} {seen : Array Nat} {l : List (α × Value × Nat)} {q : α × Value × Nat} (ho : okO n x = true) (hx : ev ρ x = .pointer (some ⟨b, 0, none⟩)) (hst : St w0 w L)
    (hi : L[i]? = some (b, .mapIter (some m) since (seen.push q.2.2) ck)) (hj : L[j]? = some (m, .map (ents kv l).toArray ck)) (hq : q ∈ l) (hn : (l.map (·.2.2)).Nodup) :
    Yd P (A n ρ ds) ⟨d, .entry x, ty, p, e, g⟩ w (.tuple #[kv q.1, q.2.1]) := by
  have hb : ((ents kv l).toArray.toList.map (·.born)) = l.map (·.2.2) := by simp [ents]
  have h := run_entry_at (P := P) w b m since seen (ents kv l).toArray ck { key := kv q.1, val := q.2.1, born := q.2.2 } (hst.get hi) (hst.get hj) (by simp [ents]; exact ⟨q.1, q.2.1, q.2.2, hq, rfl, rfl, rfl⟩) (by rw [hb]; exact hn)
  unfold Yd
  simp only [execOp, ev_eq ho, hx, Sem.run_bind, h]; rfl
theorem y_neg {t : TypeId} {x : Operand} {a : Int} (ho : okO n x = true) (hx : ev ρ x = .int .i64 a) (h0 : -9223372036854775807 ≤ a) (h1 : a ≤ 9223372036854775807) : Yd P (A n ρ ds) ⟨d, .unOp .neg t x, ty, p, e, g⟩ w (.int .i64 (-a)) := by
  have hw : IntKind.i64.wrap (-a) = -a := wrap_in (by omega) (by omega)
  simp [Yd, execOp, ev_eq ho, hx, Sem.run_bind, Op.unary, Op.intArith, Result.andThen, hw]
end
theorem idx_findNow {t : TypeId} {u : TypeDesc} (hu : ∃ k, u = .int k) (z : Int) : ∀ (l : List (Int × Value × Nat)) (i : Nat), Instr.findNow u (.int .i64 z) (ents (fun z : Int => Value.int .i64 z) l) i = some (idxA z l i)
  | [], i => rfl
  | q :: l, i => by
    obtain ⟨k, rfl⟩ := hu
    have h1 : Instr.sameNow (.int k) (.int .i64 z) (.int .i64 q.1) = some (z == q.1) := by simp [Instr.sameNow]
    show Instr.findNow (.int k) (.int .i64 z) (_ :: ents _ l) i = _
    by_cases e : q.1 = z
    · subst e
      simp [Instr.findNow, h1, idxA]
    · have h2 : (z == q.1) = false := by simpa using fun h => e h.symm
      simp only [Instr.findNow, h1, h2, idxA, if_neg e]
      exact idx_findNow (t := t) ⟨k, rfl⟩ z l (i + 1)
/-- Keys that are ints. -/
theorem keyG_int {P : Program} {t : TypeId} (hu : P.underlying t = some (.int .i64)) : KeyG P t (fun z : Int => Value.int .i64 z) (fun _ => True) where
  chk := fun em a w _ => by
    rw [show (10000 : Nat) = 9999 + 1 from rfl, Instr.checkKey]
    simp only [Sem.run_bind, run_underlying hu, Result.andThen_ok]
    rfl
  find := fun a l w _ _ => by
    simp only [Instr.findKey, Sem.run_bind, run_underlying hu, Result.andThen_ok, idx_findNow (t := t) ⟨_, rfl⟩ a l 0]
    rfl
  stay := fun a _ => by simp [Instr.sameBits]
/-- Keys that are arrays of ints, or structs of ints. -/
theorem keyG_ia {P : Program} {t : TypeId} {k : Nat} (hK : KeyTy P t k) : KeyG P t (fun l : List Int => ia l) (fun l => l.length = k) where
  chk := fun em a w h => hK.chk em a w h
  find := fun a l w h hall => by
    obtain ⟨u, hu, hn, h0⟩ := hK.desc
    have key : ∀ (l : List (List Int × Value × Nat)) (i : Nat), (∀ q ∈ l, q.1.length = k) → (Instr.findAsking t (ia a) (ents (fun l : List Int => ia l) l) i).run P w = .ok (idxA a l i) w := by
      intro l
      induction l with
      | nil => intro i _; simp [Instr.findAsking, ents, idxA]
      | cons q l ih =>
        intro i hq
        have h1 := hK.eq a q.1 w h (hq q (.head _))
        show (Instr.findAsking t (ia a) (_ :: ents _ l) i).run P w = _
        by_cases e : q.1 = a
        · rw [decide_eq_true e.symm] at h1
          simp only [Instr.findAsking, Sem.run_bind, h1, Result.andThen_ok, idxA, if_pos e]
          rfl
        · rw [decide_eq_false (fun z => e z.symm)] at h1
          simp only [Instr.findAsking, Sem.run_bind, h1, Result.andThen_ok, idxA, if_neg e]
          exact ih (i + 1) fun x hx => hq x (.tail _ hx)
    cases l with
    | nil => exact h0 a w
    | cons q l =>
      have h1 := hn a { key := ia q.1, val := q.2.1, born := q.2.2 } (ents (fun l : List Int => ia l) l)
      have h2 := key (q :: l) 0 hall
      have h3 : ents (fun l : List Int => ia l) (q :: l) = { key := ia q.1, val := q.2.1, born := q.2.2 } :: ents (fun l : List Int => ia l) l := rfl
      rw [h3] at h2 ⊢
      simp only [Instr.findKey, Sem.run_bind, run_underlying hu, Result.andThen_ok, h1]
      exact h2
  stay := fun a _ => by
    show Instr.sameBits (9999 + 1) (.agg (iv a).toArray) (.agg (iv a).toArray) = true
    have : ∀ l : List Int, ((iv l).zip (iv l)).all (fun x => Instr.sameBits 9999 x.1 x.2) = true := by
      intro l
      induction l with
      | nil => rfl
      | cons z l ih => simp only [iv, List.map_cons, List.zip_cons_cons, List.all_cons]; rw [show Instr.sameBits 9999 (.int .i64 z) (.int .i64 z) = true by simp [Instr.sameBits]]; exact ih
    simp [Instr.sameBits]
    simpa using this a
end Go.Rt
/- The walking engine, part 19: structs of two ints and a bool compared; slices of bools that are made. No conditions. -/
set_option linter.unusedSimpArgs false
set_option linter.unusedVariables false
namespace Go.Rt
open Go.RowKit
variable {r : Option Nat} {P : Program} {ops : Array Oper} {Q : Exit → Act → World → Prop} {rest : List Oper} {n : Nat} {ρ : Nat → Value} {ds : List Deferred} {w w0 : World} {L : List (Nat × Obj)}
  {d : Option Tmp} {ty : TypeId} {p : String} {e : Array Edge} {g : Option (Nat × Bool)}
theorem run_part_bool {t : TypeId} (h : P.underlying t = some .bool) {xs : Array Value} {i : Nat} {v : Value} (hi : xs[i]? = some v) : (part t xs i).run P w = .ok v w := by
  simp [part, isAgg, Sem.run_bind, run_underlying h, hi, Result.andThen]
/-- A struct of two ints and a bool. -/
structure IIB (P : Program) (t : TypeId) (f0 f1 f2 : Field) : Prop where
  u : P.underlying t = some (.struct #[f0, f1, f2])
  s : P.stoodInHeld t = false
  g : P.eqGuardType P.depth t = false
  n0 : f0.name ≠ "_" ∧ f0.offset = 0 ∧ P.underlying f0.type = some (.int .i64)
  n1 : f1.name ≠ "_" ∧ f1.offset = 1 ∧ P.underlying f1.type = some (.int .i64)
  n2 : f2.name ≠ "_" ∧ f2.offset = 2 ∧ P.underlying f2.type = some .bool
theorem y_eqIIB {t t2 : TypeId} {f0 f1 f2 : Field} {x y : Operand} {a b c d' : Int} {u v : Bool} (hT : IIB P t f0 f1 f2) (ho : okO n x = true) (ho1 : okO n y = true) (hx : ev ρ x = .agg #[.int .i64 a, .int .i64 b, .bool u]) (hy : ev ρ y = .agg #[.int .i64 c, .int .i64 d', .bool v]) :
    Yd P (A n ρ ds) ⟨d, .binOp .eql t x y t2, ty, p, e, g⟩ w (.bool (decide (a = c ∧ b = d' ∧ u = v))) := by
  have hfs : P.fieldsOf t = #[f0, f1, f2] := by simp [Program.fieldsOf, hT.u]
  have h1 : (Op.equalIn (9998 + 2) t (.agg #[.int .i64 a, .int .i64 b, .bool u]) (.agg #[.int .i64 c, .int .i64 d', .bool v])).run P w = .ok (decide (a = c ∧ b = d' ∧ u = v)) w := by
    rw [run_equalIn_struct w (9998 + 1) t _ _ (by rw [hfs]; exact hT.u) hT.s, hfs]
    obtain ⟨n0, o0, u0⟩ := hT.n0
    obtain ⟨n1, o1, u1⟩ := hT.n1
    obtain ⟨n2, o2, u2⟩ := hT.n2
    have k0 : ∀ x y : Int, (Op.equalIn (9998 + 1) f0.type (.int .i64 x) (.int .i64 y)).run P w = .ok (x == y) w := fun x y => run_equalIn_int w 9998 f0.type .i64 .i64 _ _ u0
    have k1 : ∀ x y : Int, (Op.equalIn (9998 + 1) f1.type (.int .i64 x) (.int .i64 y)).run P w = .ok (x == y) w := fun x y => run_equalIn_int w 9998 f1.type .i64 .i64 _ _ u1
    have k2 : (Op.equalIn (9998 + 1) f2.type (.bool u) (.bool v)).run P w = .ok (u == v) w := by
      rw [Op.equalIn]
      simp only [Sem.run_bind, run_underlying u2, Result.andThen_ok]
      rfl
    have p0 : ∀ (x y : Int) (z : Bool), (part f0.type #[.int .i64 x, .int .i64 y, .bool z] 0).run P w = .ok (.int .i64 x) w := fun x y z => run_part_int u0 rfl
    have p1 : ∀ (x y : Int) (z : Bool), (part f1.type #[.int .i64 x, .int .i64 y, .bool z] 1).run P w = .ok (.int .i64 y) w := fun x y z => run_part_int u1 rfl
    have p2 : ∀ (x y : Int) (z : Bool), (part f2.type #[.int .i64 x, .int .i64 y, .bool z] 2).run P w = .ok (.bool z) w := fun x y z => run_part_bool u2 rfl
    simp only [Op.eqFields, n0, n1, n2, o0, o1, o2, ne_eq, not_false_eq_true, if_true, Sem.run_bind, p0, p1, p2, k0, k1, k2, Result.andThen_ok]
    by_cases e0 : a = c
    · subst e0
      rw [beq_self_eq_true]
      simp only [Bool.not_true, Bool.false_eq_true, if_false, true_and, Sem.run_bind, p1, k1, Result.andThen_ok]
      by_cases e1 : b = d'
      · subst e1
        rw [beq_self_eq_true]
        simp only [Bool.not_true, Bool.false_eq_true, if_false, true_and, Sem.run_bind, k2, p2, Result.andThen_ok]
        cases u <;> cases v <;> simp [Sem.run_pure, Op.eqFields]
      · rw [beq_false_of_ne e1]
        simp [e1, Sem.run_pure]
    · rw [beq_false_of_ne e0]
      simp [e0, Sem.run_pure]
  have h2 := run_eqGuard_flat (P := P) (w := w) (op := .eql) (x := x) (y := y) (a := #[.int .i64 a, .int .i64 b, .bool u]) (b := #[.int .i64 c, .int .i64 d', .bool v]) hT.g
  unfold Yd
  simp only [execOp, ev_eq ho, ev_eq ho1, hx, hy, Sem.run_bind]
  have h3 : (binOp .eql t (.agg #[.int .i64 a, .int .i64 b, .bool u]) (.agg #[.int .i64 c, .int .i64 d', .bool v])).run P w = .ok (.bool (decide (a = c ∧ b = d' ∧ u = v))) w := by
    rw [run_eql_struct, h1]
    rfl
  rw [h2]
  simp only [Result.andThen_ok]
  rw [h3]
  rfl
/-! ### Slices of bools -/
def bvs (l : List Bool) : List Value := l.map Value.bool
end Go.Rt
/- Walks of this seat, printed by gen.py over the engine: what each function returns, in whatever world. No conditions but those of each contract. -/
set_option linter.unusedVariables false
set_option linter.unusedSimpArgs false
set_option maxRecDepth 20000
namespace Go.Proofs
open Go.Rt Go.Rt.Ch
open Go.Rt.Ha (firstE firstE_step firstE_stop firstE_end failE nameE felt spanL upto span_mem listL fewest fewTo bit)
attribute [local irreducible] WL WC Con Yd At Ats Sl Agree DW
theorem Try_info3 : Try.prog.info? 3 = some Try.t3 := by kernel_rfl
theorem Try_C_fb1 (x0 : Int) (w : World) : (Instr.buildSlice 39 1 [(0, .int .i64 x0)].toArray).run Try.prog w = .ok (.slice (some ⟨w.heap.size, 0, none⟩) 1 1) (w.alloc (Go.Rt.blk 3 [.int .i64 x0])) := by kernel_rfl
theorem Try_C_fb2 (x0 : Int) (x1 : Int) (w : World) : (Instr.buildSlice 39 2 [(0, .int .i64 x0), (1, .int .i64 x1)].toArray).run Try.prog w = .ok (.slice (some ⟨w.heap.size, 0, none⟩) 2 2) (w.alloc (Go.Rt.blk 3 [.int .i64 x0, .int .i64 x1])) := by kernel_rfl
theorem sl_hrows {w0 : World} {F : List (Nat × Obj)} {a : Option Addr} {l : List Hour} {i : Nat} (h : Sl w0 F a 3 (hrows l)) (hi : i < l.length) : ∃ b off, a = some ⟨b, off, none⟩ ∧ Ats w0 F b (off + i * 3) l[i].cells := by
  obtain ⟨b, off, ha, _, hat⟩ := h.at (i := i) (row := l[i].cells) (by simp [hrows, hi])
  exact ⟨b, off, ha, hat⟩
theorem krows_at {l : List Ctr} {q : Nat → AtC} {i : Nat} (hi : i < l.length) : (krows l q)[i]? = some (l[i].cells (q i)) := by simp [krows, hi]
theorem krows_len (l : List Ctr) (q : Nat → AtC) : (krows l q).length = l.length := by simp [krows]
theorem krows_row (l : List Ctr) (q : Nat → AtC) : ∀ row ∈ krows l q, row.length = 6 := by
  intro row h
  obtain ⟨i, hi, rfl⟩ := List.getElem_of_mem h
  simp [krows, Ctr.cells]
theorem sl_krows {w0 : World} {F : List (Nat × Obj)} {a : Option Addr} {l : List Ctr} {q : Nat → AtC} {i : Nat} (h : Sl w0 F a 6 (krows l q)) (hi : i < l.length) : ∃ b off, a = some ⟨b, off, none⟩ ∧ Ats w0 F b (off + i * 6) (l[i].cells (q i)) := by
  obtain ⟨b, off, ha, _, hat⟩ := h.at (i := i) (row := l[i].cells (q i)) (krows_at hi)
  exact ⟨b, off, ha, hat⟩
/-- What is known of a board that comes in. -/
structure BIn (w0 : World) (F : List (Nat × Obj)) (b : Board) (p : AtB) : Prop where
  h : Sl w0 F p.ah 3 (hrows b.hours)
  c : Sl w0 F p.ac 6 (krows b.ctrs p.pc)
  z : ∀ i (hi : i < b.ctrs.length), Sl w0 F (p.pc i).az 1 (b.ctrs[i].zero.map fun x => [Value.int .i64 x])
  s : ∀ i (hi : i < b.ctrs.length), Sl w0 F (p.pc i).as 1 (b.ctrs[i].shown.map fun x => [Value.int .i64 x])
  lh : b.hours.length ≤ 9223372036854775807
  lc : b.ctrs.length ≤ 9223372036854775807
  ch : b.hours.length ≤ p.ch
  cc : b.ctrs.length ≤ p.cc
  lz : ∀ i (hi : i < b.ctrs.length), b.ctrs[i].zero.length ≤ 9223372036854775807 ∧ b.ctrs[i].zero.length ≤ (p.pc i).cz
  ls : ∀ i (hi : i < b.ctrs.length), b.ctrs[i].shown.length ≤ 9223372036854775807 ∧ b.ctrs[i].shown.length ≤ (p.pc i).cs
  nm : ∀ x ∈ b.ctrs, x.name.size ≤ 9223372036854775807
theorem BIn.mono {w0 : World} {F F' : List (Nat × Obj)} {b : Board} {p : AtB} (h : BIn w0 F b p) (hs : ∀ w, St w0 w F' → St w0 w F) : BIn w0 F' b p := ⟨h.h.mono hs, h.c.mono hs, fun i hi => (h.z i hi).mono hs, fun i hi => (h.s i hi).mono hs, h.lh, h.lc, h.ch, h.cc, h.lz, h.ls, h.nm⟩
theorem BIn.cons {w0 : World} {F : List (Nat × Obj)} {x : Nat × Obj} {b : Board} {p : AtB} (h : BIn w0 F b p) : BIn w0 (x :: F) b p := h.mono fun _ h => h.tail
theorem BIn.app {w0 : World} {F B : List (Nat × Obj)} {b : Board} {p : AtB} (h : BIn w0 F b p) : BIn w0 (B ++ F) b p := h.mono fun _ h => h.drop
theorem tup3 {x : Int × Int × Int} {a b c : Int} (h : x = (a, b, c)) : Value.tuple #[.int .i64 a, .int .i64 b, .int .i64 c] = .tuple #[.int .i64 x.1, .int .i64 x.2.1, .int .i64 x.2.2] := by subst h; rfl
theorem out_nat (k : Int) (n : Nat) : out 0 k (n : Int) = decide (k < (n : Int)) := by unfold out; rw [Bool.eq_iff_iff]; simp; intro h; omega
theorem yd_cast {P : Program} {a : Act} {o : Oper} {w : World} {k : IntKind} {z z' : Int} (h : z = z') (hy : Yd P a o w (.int k z)) : Yd P a o w (.int k z') := h ▸ hy
theorem iv1 {a b : Int} (h : a = b) : [Value.int .i64 a] = [Value.int .i64 b] := by rw [h]
theorem iv2 {a b c d : Int} (h : a = b) (h2 : c = d) : [Value.int .i64 a, Value.int .i64 c] = [Value.int .i64 b, Value.int .i64 d] := by rw [h, h2]
theorem own_rows0 {w0 : World} {v : Value} {t : TypeId} {sz n : Nat} {xs : List Value} {B : List (Nat × Obj)} {rows : List (List Value)} (h : Rt.Own v t sz n xs B) (hr : ∀ row ∈ rows, row.length = sz) (hn : rows.length = n) (hx : xs = rows.flatten) : ∃ a c, v = .slice a n c ∧ Sl w0 B a sz rows ∧ n ≤ c ∧ (a = none → c = 0) := by
  subst hx
  rcases h.2 with ⟨h2, h0, rfl⟩ | ⟨b, cap, cs, h2, rfl, h4, _, _, h5⟩
  · have : rows = [] := List.length_eq_zero_iff.1 (by omega)
    subst this
    exact ⟨none, 0, by rw [h2, ← hn]; rfl, Sl.nil _ _, by omega, fun _ => rfl⟩
  · exact ⟨some ⟨b, 0, none⟩, cap, h2, sl_own (i := 0) rfl hr (by rw [hn]; exact h5), by omega, fun h => by cases h⟩
theorem _root_.Go.Rt.Sl.top {w0 : World} {B F : List (Nat × Obj)} {a : Option Addr} {sz : Nat} {rows : List (List Value)} (h : Sl w0 B a sz rows) : Sl w0 (B ++ F) a sz rows := h.mono fun _ h => h.front
theorem _root_.Go.Rt.Ats.top {w0 : World} {B F : List (Nat × Obj)} {b off : Nat} {vs : List Value} (h : Ats w0 B b off vs) : Ats w0 (B ++ F) b off vs := h.mono fun _ h => h.front
theorem yd_slice {P : Program} {a : Act} {o : Oper} {w : World} {x y : Option Addr} {l c : Nat} (h : x = y) (hy : Yd P a o w (.slice x l c)) : Yd P a o w (.slice y l c) := h ▸ hy
theorem swp2 {w0 w : World} {a b : Nat × Obj} {F : List (Nat × Obj)} (h : St w0 w (a :: b :: F)) : St w0 w (b :: a :: F) := h.perm (perm_mid [a] [b] F)
theorem vi {v : Value} {a b : Int} (h : a = b) : [v, Value.int .i64 a] = [v, Value.int .i64 b] := by rw [h]
/-- Where the first one with a property is. -/
def cidx (p : Ctr → Bool) : List Ctr → Int → Int
  | [], _ => -1
  | g :: l, i => if p g then i else cidx p l (i + 1)
theorem cidx_step {p : Ctr → Bool} {l : List Ctr} {i : Nat} (hi : i < l.length) (h : p l[i] = false) : cidx p (l.drop i) i = cidx p (l.drop (i + 1)) (i + 1 : Nat) := by
  rw [List.drop_eq_getElem_cons hi]; simp only [cidx, h]; rfl
theorem cidx_here {p : Ctr → Bool} {l : List Ctr} {i : Nat} (hi : i < l.length) (h : p l[i] = true) : cidx p (l.drop i) i = i := by
  rw [List.drop_eq_getElem_cons hi]; simp only [cidx, h]; rfl
theorem cidx_end {p : Ctr → Bool} {l : List Ctr} {i : Nat} (hi : l.length ≤ i) : cidx p (l.drop i) i = -1 := by
  rw [List.drop_of_length_le hi]; rfl
theorem cidx_any (p : Ctr → Bool) : ∀ (l : List Ctr) (i : Int), 0 ≤ i → decide (0 ≤ cidx p l i) = l.any p
  | [], i, h => by simp [cidx]
  | g :: l, i, h => by
    rw [List.any_cons, ← cidx_any p l (i + 1) (by omega), Bool.eq_iff_iff]
    by_cases hp : p g = true
    · simp [cidx, hp, h]
    · simp [cidx, hp]
theorem krows_take {l : List Ctr} {q : Nat → AtC} {i : Nat} : (krows l q).take i = krows (l.take i) q := by
  refine List.ext_getElem? fun k => ?_
  rw [List.getElem?_take]
  by_cases hk : k < i
  · rw [if_pos hk]; simp [krows, List.getElem?_take, hk]
  · rw [if_neg hk]; simp [krows, List.getElem?_take, hk]
theorem sl_takeK {w0 : World} {F : List (Nat × Obj)} {a : Option Addr} {l : List Ctr} {q : Nat → AtC} {i c : Nat} (h : Sl w0 F a 6 (krows l q)) (hi : i ≤ l.length) (hc : l.length ≤ c) : Sl w0 F (if c = 0 then a else a.map (·.add (0 * 6))) 6 (krows (l.take i) q) := by
  have := h.cut (l' := 0) (h' := i) (c := c) (by omega) (by rw [krows_len]; exact hi) (by rw [krows_len]; exact hc)
  simpa [krows_take] using this
theorem has_namesK (l : List Ctr) (s : ByteArray) : (l.any fun x => decide (x.name = s)) = has (l.map (·.name)) s := by
  simp [has, List.any_map, Function.comp_def]
theorem ctrE_a {n : Nat} {bf : List Ctr} {c : Ctr} (h : nmOk c.name = false) : ctrE n bf c = 6 := by unfold ctrE nameE; simp [h]
theorem ctrE_b {n : Nat} {bf : List Ctr} {c : Ctr} (h : nmOk c.name = true) (h2 : (bf.any fun x => decide (x.name = c.name)) = true) : ctrE n bf c = 5 := by
  rw [has_namesK] at h2
  unfold ctrE nameE; rw [h, h2]; rfl
theorem ctrE_c {n : Nat} {bf : List Ctr} {c : Ctr} (h : nmOk c.name = true) (h2 : (bf.any fun x => decide (x.name = c.name)) = false) : ctrE n bf c = if (out 0 3 c.skip || out 0 3 c.twice) || out 0 99 c.start then 7 else if c.zero.length ≠ n ∨ c.shown.length ≠ n then 3 else if c.zero.any (out 0 2) || c.shown.any (out (-1) 99) then 7 else 0 := by
  rw [has_namesK] at h2
  unfold ctrE nameE; rw [h, h2]; rfl
theorem ctrE_d {n : Nat} {bf : List Ctr} {c : Ctr} (h : nmOk c.name = true) (h2 : (bf.any fun x => decide (x.name = c.name)) = false) (h3 : ((out 0 3 c.skip || out 0 3 c.twice) || out 0 99 c.start) = false) (h4 : ¬ (c.zero.length = n ∧ c.shown.length = n)) : ctrE n bf c = 3 := by
  rw [ctrE_c h h2, h3, if_neg (by simp), if_pos (by omega)]
theorem ctrE_e {n : Nat} {bf : List Ctr} {c : Ctr} (h : nmOk c.name = true) (h2 : (bf.any fun x => decide (x.name = c.name)) = false) (h3 : ((out 0 3 c.skip || out 0 3 c.twice) || out 0 99 c.start) = false) (h4 : c.zero.length = n ∧ c.shown.length = n) : ctrE n bf c = if c.zero.any (out 0 2) || c.shown.any (out (-1) 99) then 7 else 0 := by
  rw [ctrE_c h h2, h3, if_neg (by simp), if_neg (by omega)]
theorem c52 {w0 w : World} {F : List (Nat × Obj)} (a : Option Addr) (c : Nat) (l : List Hour) (hl : l.length ≤ 9223372036854775807) (ha : Sl w0 F a 3 (hrows l)) (fv : Value) (err : List Hour → Hour → Int)
    (hp : ∀ (i : Nat) (hi : i < l.length) (X : List (Nat × Obj)) (w : World), St w0 w (X ++ F) → FCon Try.prog fv [.int .i64 i, .agg l[i].cells.toArray] w fun v w' => v = .int .i64 (err (l.take i) l[i]) ∧ St w0 w' (X ++ F)) (hs : St w0 w F) :
  Con Try.prog 52 [.slice a l.length c, fv] w fun v w' => v = .tuple #[.int .i64 (firstE err [] 0 l).1, .int .i64 (firstE err [] 0 l).2] ∧ St w0 w' F := by
  refine con_of_wc (n := 25) Try.func52 rfl rfl (Nat.le_of_ble_eq_true rfl) ?_
  refine w_seq (fun K2 hK1 => ?_)
  refine w_region ?_
  refine w_p (y_assign (v := _) rfl rfl) rfl ?_
  refine w_p (y_assign (v := _) rfl rfl) rfl ?_
  refine w_nil ?_
  refine q_then (hK1 _ _ ?_)
  refine w_seq (fun K4 hK3 => ?_)
  refine w_seq (fun K6 hK5 => ?_)
  refine w_region ?_
  refine w_p (y_move (v := .slice _ _ _) rfl rfl) rfl ?_
  refine w_p (y_lenS Try.underlying22 rfl rfl) rfl ?_
  refine w_p (y_move (v := _) rfl rfl) rfl ?_
  refine w_nil ?_
  refine q_then (hK5 _ _ ?_)
  refine w_block ?_
  refine w_loop [4, 5, 6, 7, 8, 11, 12, 13, 14, 15, 16, 17, 18, 19, 20, 21, 22, 23, 24] [11] (fun k vs w => ∃ (i : Nat), vs = [.int .i64 i] ∧ i ≤ l.length ∧ k = l.length - i ∧ firstE err [] 0 l = firstE err (l.take i) i (l.drop i) ∧ St w0 w F) (l.length) ?_ ?_
  ·
   exact ⟨0, rfl, by omega, by omega, by simp, hs⟩
  ·
   intro k vs μ w9 hI K8 hN7
   obtain ⟨i, rfl, hia, rfl, hinv, hs⟩ := hI
   refine w_seq (fun K11 hK10 => ?_)
   refine w_region ?_
   refine w_p (y_lss rfl rfl rfl rfl) rfl ?_
   refine w_nil ?_
   refine q_then (hK10 _ _ ?_)
   refine w_seq (fun K13 hK12 => ?_)
   refine w_cond rfl rfl (fun h14 => ?_) (fun h14 => ?_)
   ·
    try simp only [zA, zB, zC, zD, zE, zF] at h14
    refine w_skip ?_
    refine q_then (hK12 _ _ ?_)
    refine w_seq (fun K16 hK15 => ?_)
    refine w_block ?_
    refine w_seq (fun K18 hK17 => ?_)
    have hi2 : i < l.length := by omega
    obtain ⟨bx, ox, rfl, hx⟩ := sl_hrows ha hi2
    refine w_region ?_
    refine w_p (y_move (v := .int _ _) rfl rfl) rfl ?_
    refine w_p (y_indexS Try.underlying22 Try.sizeOf70 rfl rfl rfl rfl (i := _) rfl (by omega)) rfl ?_
    refine w_p (y_loadN (vs := [_, _, _]) Try.isAgg70 Try.sizeOf70 hs rfl rfl hx) rfl ?_
    refine w_alloc (cs := [_, _, _]) want_none Try.zeroValue70 rfl hs (fun b19 w20 hs21 => ?_)
    refine w_p (y_assign (v := .int _ _) rfl rfl) rfl ?_
    refine w_store (i := 0) (v := .agg #[.int _ _, .int _ _, .int _ _]) (vs := [_, _, _]) want_none Try.sizeOf70 rfl rfl rfl rfl rfl (by simp [Value.oneCell']) hs21 rfl (Nat.le_of_ble_eq_true rfl) (fun w22 hs23 => ?_)
    refine w_nil ?_
    refine q_then (hK17 _ _ ?_)
    refine w_seq (fun K25 hK24 => ?_)
    refine w_region ?_
    refine w_p (y_move (v := fv) rfl rfl) rfl ?_
    refine w_p (y_move (v := .int _ _) rfl rfl) rfl ?_
    refine w_p (y_loadN (vs := [_, _, _]) Try.isAgg70 Try.sizeOf70 hs23 rfl rfl (ats_own (i := 0) (vs := [_, _, _]) rfl rfl)) rfl ?_
    refine w_callV want_none rfl rfl rfl rfl (hp i hi2 [_] _ hs23) ?_
    rintro _ w27 ⟨rfl, hs28⟩
    refine w_p (y_assign (v := .int _ _) rfl rfl) rfl ?_
    refine w_nil ?_
    refine q_then (hK24 _ _ ?_)
    refine w_seq (fun K30 hK29 => ?_)
    refine w_region ?_
    refine w_p (y_move (v := .int _ _) rfl rfl) rfl ?_
    refine w_p (y_neq rfl rfl rfl rfl) rfl ?_
    refine w_nil ?_
    refine q_then (hK29 _ _ ?_)
    refine w_cond rfl rfl (fun h31 => ?_) (fun h31 => ?_)
    ·
     try simp only [zA, zB, zC, zD, zE, zF] at h31
     refine w_seq (fun K33 hK32 => ?_)
     refine w_region ?_
     refine w_p (y_move (v := .int _ _) rfl rfl) rfl ?_
     refine w_p (y_move (v := .int _ _) rfl rfl) rfl ?_
     refine w_p (y_assign (v := .int _ _) rfl rfl) rfl ?_
     refine w_p (y_assign (v := .int _ _) rfl rfl) rfl ?_
     refine w_nil ?_
     refine q_then (hK32 _ _ ?_)
     refine w_ret ?_
     refine q_blk_ret ?_
     refine q_then_ret ?_
     refine q_then_ret ?_
     refine q_blk_ret ?_
     refine q_then_ret ?_
     refine q_ret (l := [.tmp 4, .tmp 5]) (vs := [_, _]) rfl ⟨⟨rfl, show _ = (.int _ _ : Value) from rfl⟩, ⟨rfl, show _ = (.int _ _ : Value) from rfl⟩, trivial⟩ ?_
     first
       | (rw [hinv, firstE_stop hi2 (by assumption)]
          exact ⟨rfl, hs28.tail⟩)
       | (rw [hinv, firstE_end (by omega)]
          exact ⟨rfl, hs28⟩)
    ·
     try simp only [zA, zB, zC, zD, zE, zF] at h31
     refine w_skip ?_
     refine q_blk_normal ?_
     refine q_then (hK15 _ _ ?_)
     refine w_region ?_
     refine w_p (y_add rfl rfl rfl rfl (by omega) (by omega)) rfl ?_
     refine w_p (y_move (v := .int _ _) rfl rfl) rfl ?_
     refine w_nil ?_
     refine q_then (hN7 _ _ (Nx.intro (l.length - (i + 1)) (by omega) (by repeat (first | exact agree_mix | refine agree_upd rfl ?_ | refine agree_updL rfl ?_ _ | refine agree_mixin rfl ?_)) ?_))
     exact ⟨i + 1, rfl, by omega, rfl, hinv.trans (firstE_step hi2 (by assumption)), hs28.tail⟩
   ·
    try simp only [zA, zB, zC, zD, zE, zF] at h14
    refine w_exit ?_
    refine q_then_exit ?_
    refine q_then_exit ?_
    refine q_blk_this ?_
    refine q_then (hK3 _ _ ?_)
    refine w_seq (fun K35 hK34 => ?_)
    refine w_region ?_
    refine w_p (y_assign (v := _) rfl rfl) rfl ?_
    refine w_p (y_assign (v := _) rfl rfl) rfl ?_
    refine w_nil ?_
    refine q_then (hK34 _ _ ?_)
    refine w_ret ?_
    refine q_ret (l := [.tmp 4, .tmp 5]) (vs := [_, _]) rfl ⟨⟨rfl, show _ = (.int _ _ : Value) from rfl⟩, ⟨rfl, show _ = (.int _ _ : Value) from rfl⟩, trivial⟩ ?_
    first
      | (rw [hinv, firstE_stop hi2 (by assumption)]
         exact ⟨rfl, hs.tail⟩)
      | (rw [hinv, firstE_end (by omega)]
         exact ⟨rfl, hs⟩)

theorem c54 {w0 w : World} {F : List (Nat × Obj)} (a : Option Addr) (c : Nat) (l : List Ctr) (q : Nat → AtC) (hl : l.length ≤ 9223372036854775807) (ha : Sl w0 F a 6 (krows l q)) (fv : Value) (err : List Ctr → Ctr → Int)
    (hp : ∀ (i : Nat) (hi : i < l.length) (X : List (Nat × Obj)) (w : World), St w0 w (X ++ F) → FCon Try.prog fv [.int .i64 i, .agg (l[i].cells (q i)).toArray] w fun v w' => v = .int .i64 (err (l.take i) l[i]) ∧ St w0 w' (X ++ F)) (hs : St w0 w F) :
  Con Try.prog 54 [.slice a l.length c, fv] w fun v w' => v = .tuple #[.int .i64 (firstE err [] 0 l).1, .int .i64 (firstE err [] 0 l).2] ∧ St w0 w' F := by
  refine con_of_wc (n := 25) Try.func54 rfl rfl (Nat.le_of_ble_eq_true rfl) ?_
  refine w_seq (fun K2 hK1 => ?_)
  refine w_region ?_
  refine w_p (y_assign (v := _) rfl rfl) rfl ?_
  refine w_p (y_assign (v := _) rfl rfl) rfl ?_
  refine w_nil ?_
  refine q_then (hK1 _ _ ?_)
  refine w_seq (fun K4 hK3 => ?_)
  refine w_seq (fun K6 hK5 => ?_)
  refine w_region ?_
  refine w_p (y_move (v := .slice _ _ _) rfl rfl) rfl ?_
  refine w_p (y_lenS Try.underlying23 rfl rfl) rfl ?_
  refine w_p (y_move (v := _) rfl rfl) rfl ?_
  refine w_nil ?_
  refine q_then (hK5 _ _ ?_)
  refine w_block ?_
  refine w_loop [4, 5, 6, 7, 8, 11, 12, 13, 14, 15, 16, 17, 18, 19, 20, 21, 22, 23, 24] [11] (fun k vs w => ∃ (i : Nat), vs = [.int .i64 i] ∧ i ≤ l.length ∧ k = l.length - i ∧ firstE err [] 0 l = firstE err (l.take i) i (l.drop i) ∧ St w0 w F) (l.length) ?_ ?_
  ·
   exact ⟨0, rfl, by omega, by omega, by simp, hs⟩
  ·
   intro k vs μ w9 hI K8 hN7
   obtain ⟨i, rfl, hia, rfl, hinv, hs⟩ := hI
   refine w_seq (fun K11 hK10 => ?_)
   refine w_region ?_
   refine w_p (y_lss rfl rfl rfl rfl) rfl ?_
   refine w_nil ?_
   refine q_then (hK10 _ _ ?_)
   refine w_seq (fun K13 hK12 => ?_)
   refine w_cond rfl rfl (fun h14 => ?_) (fun h14 => ?_)
   ·
    try simp only [zA, zB, zC, zD, zE, zF] at h14
    refine w_skip ?_
    refine q_then (hK12 _ _ ?_)
    refine w_seq (fun K16 hK15 => ?_)
    refine w_block ?_
    refine w_seq (fun K18 hK17 => ?_)
    have hi2 : i < l.length := by omega
    obtain ⟨bx, ox, rfl, hx⟩ := sl_krows ha hi2
    refine w_region ?_
    refine w_p (y_move (v := .int _ _) rfl rfl) rfl ?_
    refine w_p (y_indexS Try.underlying23 Try.sizeOf76 rfl rfl rfl rfl (i := _) rfl (by omega)) rfl ?_
    refine w_p (y_loadN (vs := [_, _, _, _, _, _]) Try.isAgg76 Try.sizeOf76 hs rfl rfl hx) rfl ?_
    refine w_alloc (cs := [_, _, _, _, _, _]) want_none Try.zeroValue76 rfl hs (fun b19 w20 hs21 => ?_)
    refine w_p (y_assign (v := .int _ _) rfl rfl) rfl ?_
    refine w_store (i := 0) (v := .agg #[.string _, .int _ _, .int _ _, .int _ _, .slice _ _ _, .slice _ _ _]) (vs := [_, _, _, _, _, _]) want_none Try.sizeOf76 rfl rfl rfl rfl rfl (by simp [Value.oneCell']) hs21 rfl (Nat.le_of_ble_eq_true rfl) (fun w22 hs23 => ?_)
    refine w_nil ?_
    refine q_then (hK17 _ _ ?_)
    refine w_seq (fun K25 hK24 => ?_)
    refine w_region ?_
    refine w_p (y_move (v := fv) rfl rfl) rfl ?_
    refine w_p (y_move (v := .int _ _) rfl rfl) rfl ?_
    refine w_p (y_loadN (vs := [_, _, _, _, _, _]) Try.isAgg76 Try.sizeOf76 hs23 rfl rfl (ats_own (i := 0) (vs := [_, _, _, _, _, _]) rfl rfl)) rfl ?_
    refine w_callV want_none rfl rfl rfl rfl (hp i hi2 [_] _ hs23) ?_
    rintro _ w27 ⟨rfl, hs28⟩
    refine w_p (y_assign (v := .int _ _) rfl rfl) rfl ?_
    refine w_nil ?_
    refine q_then (hK24 _ _ ?_)
    refine w_seq (fun K30 hK29 => ?_)
    refine w_region ?_
    refine w_p (y_move (v := .int _ _) rfl rfl) rfl ?_
    refine w_p (y_neq rfl rfl rfl rfl) rfl ?_
    refine w_nil ?_
    refine q_then (hK29 _ _ ?_)
    refine w_cond rfl rfl (fun h31 => ?_) (fun h31 => ?_)
    ·
     try simp only [zA, zB, zC, zD, zE, zF] at h31
     refine w_seq (fun K33 hK32 => ?_)
     refine w_region ?_
     refine w_p (y_move (v := .int _ _) rfl rfl) rfl ?_
     refine w_p (y_move (v := .int _ _) rfl rfl) rfl ?_
     refine w_p (y_assign (v := .int _ _) rfl rfl) rfl ?_
     refine w_p (y_assign (v := .int _ _) rfl rfl) rfl ?_
     refine w_nil ?_
     refine q_then (hK32 _ _ ?_)
     refine w_ret ?_
     refine q_blk_ret ?_
     refine q_then_ret ?_
     refine q_then_ret ?_
     refine q_blk_ret ?_
     refine q_then_ret ?_
     refine q_ret (l := [.tmp 4, .tmp 5]) (vs := [_, _]) rfl ⟨⟨rfl, show _ = (.int _ _ : Value) from rfl⟩, ⟨rfl, show _ = (.int _ _ : Value) from rfl⟩, trivial⟩ ?_
     first
       | (rw [hinv, firstE_stop hi2 (by assumption)]
          exact ⟨rfl, hs28.tail⟩)
       | (rw [hinv, firstE_end (by omega)]
          exact ⟨rfl, hs28⟩)
    ·
     try simp only [zA, zB, zC, zD, zE, zF] at h31
     refine w_skip ?_
     refine q_blk_normal ?_
     refine q_then (hK15 _ _ ?_)
     refine w_region ?_
     refine w_p (y_add rfl rfl rfl rfl (by omega) (by omega)) rfl ?_
     refine w_p (y_move (v := .int _ _) rfl rfl) rfl ?_
     refine w_nil ?_
     refine q_then (hN7 _ _ (Nx.intro (l.length - (i + 1)) (by omega) (by repeat (first | exact agree_mix | refine agree_upd rfl ?_ | refine agree_updL rfl ?_ _ | refine agree_mixin rfl ?_)) ?_))
     exact ⟨i + 1, rfl, by omega, rfl, hinv.trans (firstE_step hi2 (by assumption)), hs28.tail⟩
   ·
    try simp only [zA, zB, zC, zD, zE, zF] at h14
    refine w_exit ?_
    refine q_then_exit ?_
    refine q_then_exit ?_
    refine q_blk_this ?_
    refine q_then (hK3 _ _ ?_)
    refine w_seq (fun K35 hK34 => ?_)
    refine w_region ?_
    refine w_p (y_assign (v := _) rfl rfl) rfl ?_
    refine w_p (y_assign (v := _) rfl rfl) rfl ?_
    refine w_nil ?_
    refine q_then (hK34 _ _ ?_)
    refine w_ret ?_
    refine q_ret (l := [.tmp 4, .tmp 5]) (vs := [_, _]) rfl ⟨⟨rfl, show _ = (.int _ _ : Value) from rfl⟩, ⟨rfl, show _ = (.int _ _ : Value) from rfl⟩, trivial⟩ ?_
    first
      | (rw [hinv, firstE_stop hi2 (by assumption)]
         exact ⟨rfl, hs.tail⟩)
      | (rw [hinv, firstE_end (by omega)]
         exact ⟨rfl, hs⟩)

theorem c95 {w0 w : World} {F : List (Nat × Obj)} (a : Option Addr) (l : List Ctr) (q : Nat → AtC) (c : Nat) (hla : l.length ≤ 9223372036854775807) (ha : Sl w0 F a 6 (krows l q)) {fk : FuncId} (hC : CF Try.prog fk) (first captured : Array Value) (p : Ctr → Bool)
    (hp : ∀ i (hi : i < l.length), ∀ w, St w0 w F → Con Try.prog fk (first.toList ++ ([.agg (l[i].cells (q i)).toArray] ++ captured.toList)) w fun v w' => v = .bool (p l[i]) ∧ St w0 w' F) (hs : St w0 w F) :
  Con Try.prog 95 [.slice a l.length c, .func (.func fk) first captured] w fun v w' => v = .int .i64 (cidx p l 0) ∧ St w0 w' F := by
  refine con_of_wc (n := 19) Try.func95 rfl rfl (Nat.le_of_ble_eq_true rfl) ?_
  refine w_seq (fun K2 hK1 => ?_)
  refine w_region ?_
  refine w_p (y_assign (v := _) rfl rfl) rfl ?_
  refine w_nil ?_
  refine q_then (hK1 _ _ ?_)
  refine w_seq (fun K4 hK3 => ?_)
  refine w_seq (fun K6 hK5 => ?_)
  refine w_region ?_
  refine w_p (y_move (v := .slice _ _ _) rfl rfl) rfl ?_
  refine w_p (y_lenS Try.underlying23 rfl rfl) rfl ?_
  refine w_p (y_move (v := _) rfl rfl) rfl ?_
  refine w_nil ?_
  refine q_then (hK5 _ _ ?_)
  refine w_block ?_
  refine w_loop [4, 5, 8, 9, 10, 11, 12, 13, 14, 15, 16, 17, 18] [8] (fun k vs w => ∃ i : Nat, vs = [.int .i64 i] ∧ i ≤ l.length ∧ k = l.length - i ∧ cidx p l 0 = cidx p (l.drop i) i ∧ St w0 w F) (l.length) ?_ ?_
  ·
   exact ⟨0, rfl, by omega, by omega, rfl, hs⟩
  ·
   intro k vs μ w9 hI K8 hN7
   obtain ⟨i, rfl, hia, rfl, hpre, hs⟩ := hI
   refine w_seq (fun K11 hK10 => ?_)
   refine w_region ?_
   refine w_p (y_lss rfl rfl rfl rfl) rfl ?_
   refine w_nil ?_
   refine q_then (hK10 _ _ ?_)
   refine w_seq (fun K13 hK12 => ?_)
   refine w_cond rfl rfl (fun h14 => ?_) (fun h14 => ?_)
   ·
    try simp only [zA, zB, zC, zD, zE, zF] at h14
    refine w_skip ?_
    refine q_then (hK12 _ _ ?_)
    refine w_seq (fun K16 hK15 => ?_)
    refine w_block ?_
    refine w_seq (fun K18 hK17 => ?_)
    refine w_region ?_
    refine w_p (y_move (v := .int _ _) rfl rfl) rfl ?_
    refine w_p (y_assign (v := .int _ _) rfl rfl) rfl ?_
    refine w_nil ?_
    refine q_then (hK17 _ _ ?_)
    refine w_seq (fun K20 hK19 => ?_)
    have hi2 : i < l.length := by omega
    obtain ⟨bx, ox, rfl, hx⟩ := sl_krows ha hi2
    refine w_region ?_
    refine w_p (y_move (v := .func _ _ _) rfl rfl) rfl ?_
    refine w_p (y_move (v := .slice _ _ _) rfl rfl) rfl ?_
    refine w_p (y_move (v := .int _ _) rfl rfl) rfl ?_
    refine w_p (y_indexS Try.underlying23 Try.sizeOf76 rfl rfl rfl rfl (i := _) rfl (by omega)) rfl ?_
    refine w_p (y_loadN (vs := [_, _, _, _, _, _]) Try.isAgg76 Try.sizeOf76 hs rfl rfl hx) rfl ?_
    refine w_call want_none hC rfl rfl rfl rfl (hp i hi2 _ hs) ?_
    rintro _ w22 ⟨rfl, hs23⟩
    refine w_nil ?_
    refine q_then (hK19 _ _ ?_)
    refine w_cond rfl rfl (fun h24 => ?_) (fun h24 => ?_)
    ·
     try simp only [zA, zB, zC, zD, zE, zF] at h24
     refine w_seq (fun K26 hK25 => ?_)
     refine w_region ?_
     refine w_p (y_move (v := .int _ _) rfl rfl) rfl ?_
     refine w_p (y_assign (v := .int _ _) rfl rfl) rfl ?_
     refine w_nil ?_
     refine q_then (hK25 _ _ ?_)
     refine w_ret ?_
     refine q_blk_ret ?_
     refine q_then_ret ?_
     refine q_then_ret ?_
     refine q_blk_ret ?_
     refine q_then_ret ?_
     refine q_ret (l := [.tmp 4]) (vs := [_]) rfl ⟨⟨rfl, show _ = (.int _ _ : Value) from rfl⟩, trivial⟩ ?_
     first
       | exact ⟨congrArg (Value.int .i64) (hpre.trans (cidx_end (by omega))).symm, hs23⟩
       | exact ⟨congrArg (Value.int .i64) (hpre.trans (cidx_here hi2 (by assumption))).symm, hs23⟩
    ·
     try simp only [zA, zB, zC, zD, zE, zF] at h24
     refine w_skip ?_
     refine q_blk_normal ?_
     refine q_then (hK15 _ _ ?_)
     refine w_region ?_
     refine w_p (y_add rfl rfl rfl rfl (by omega) (by omega)) rfl ?_
     refine w_p (y_move (v := .int _ _) rfl rfl) rfl ?_
     refine w_nil ?_
     refine q_then (hN7 _ _ (Nx.intro (l.length - (i + 1)) (by omega) (by repeat (first | exact agree_mix | refine agree_upd rfl ?_ | refine agree_updL rfl ?_ _ | refine agree_mixin rfl ?_)) ?_))
     exact ⟨i + 1, rfl, by omega, rfl, hpre.trans (cidx_step hi2 (by assumption)), hs23⟩
   ·
    try simp only [zA, zB, zC, zD, zE, zF] at h14
    refine w_exit ?_
    refine q_then_exit ?_
    refine q_then_exit ?_
    refine q_blk_this ?_
    refine q_then (hK3 _ _ ?_)
    refine w_seq (fun K28 hK27 => ?_)
    refine w_region ?_
    refine w_p (y_assign (v := _) rfl rfl) rfl ?_
    refine w_nil ?_
    refine q_then (hK27 _ _ ?_)
    refine w_ret ?_
    refine q_ret (l := [.tmp 4]) (vs := [_]) rfl ⟨⟨rfl, show _ = (.int _ _ : Value) from rfl⟩, trivial⟩ ?_
    first
      | exact ⟨congrArg (Value.int .i64) (hpre.trans (cidx_end (by omega))).symm, hs⟩
      | exact ⟨congrArg (Value.int .i64) (hpre.trans (cidx_here hi2 (by assumption))).symm, hs⟩

theorem c57 {w0 w : World} {F : List (Nat × Obj)} (a : Option Addr) (l : List Ctr) (q : Nat → AtC) (c : Nat) (hla : l.length ≤ 9223372036854775807) (ha : Sl w0 F a 6 (krows l q)) {fk : FuncId} (hC : CF Try.prog fk) (first captured : Array Value) (p : Ctr → Bool)
    (hp : ∀ i (hi : i < l.length), ∀ w, St w0 w F → Con Try.prog fk (first.toList ++ ([.agg (l[i].cells (q i)).toArray] ++ captured.toList)) w fun v w' => v = .bool (p l[i]) ∧ St w0 w' F) (hs : St w0 w F) :
  Con Try.prog 57 [.slice a l.length c, .func (.func fk) first captured] w fun v w' => v = .bool (l.any p) ∧ St w0 w' F := by
  refine con_of_wc (n := 9) Try.func57 rfl rfl (Nat.le_of_ble_eq_true rfl) ?_
  refine w_seq (fun K2 hK1 => ?_)
  refine w_region ?_
  refine w_p (y_assign (v := _) rfl rfl) rfl ?_
  refine w_nil ?_
  refine q_then (hK1 _ _ ?_)
  refine w_seq (fun K4 hK3 => ?_)
  refine w_region ?_
  refine w_p (y_move (v := .slice _ _ _) rfl rfl) rfl ?_
  refine w_p (y_move (v := .func _ _ _) rfl rfl) rfl ?_
  refine w_call want_none Try.call95 rfl rfl rfl rfl (c95 _ _ _ _ hla ha hC _ _ p hp hs) ?_
  rintro _ w6 ⟨rfl, hs7⟩
  refine w_p (y_geq rfl rfl rfl rfl) rfl ?_
  refine w_p (y_assign (v := .bool _) rfl rfl) rfl ?_
  refine w_nil ?_
  refine q_then (hK3 _ _ ?_)
  refine w_ret ?_
  refine q_ret (l := [.tmp 4]) (vs := [_]) rfl ⟨⟨rfl, show _ = (.bool _ : Value) from rfl⟩, trivial⟩ ?_
  exact ⟨congrArg Value.bool (cidx_any p l 0 (by omega)), hs7⟩

theorem c53 {w0 w : World} {F : List (Nat × Obj)} (b : Board) (p : AtB) (hh : 1 ≤ b.holds ∧ b.holds ≤ 3) (i : Int) (h : Hour) (bf : List Hour) (bm : Nat) (hb : Ats w0 F bm 0 (b.cells p)) (hs : St w0 w F) :
  Con Try.prog 53 [.int .i64 i, .agg h.cells.toArray, .pointer (some ⟨bm, 0, none⟩)] w fun v w' => v = .int .i64 (hourE b.holds bf h) ∧ St w0 w' F := by
  refine con_of_wc (n := 33) Try.func53 rfl rfl (Nat.le_of_ble_eq_true rfl) ?_
  refine w_seq (fun K2 hK1 => ?_)
  refine w_region ?_
  refine w_box (v := .agg #[.int _ _, .int _ _, .int _ _]) (cs := [_, _, _]) want_none rfl rfl rfl hs (fun b3 w4 hs5 => ?_)
  refine w_p (y_assign (v := _) rfl rfl) rfl ?_
  refine w_nil ?_
  refine q_then (hK1 _ _ ?_)
  refine w_seq (fun K7 hK6 => ?_)
  refine w_block ?_
  refine w_seq (fun K9 hK8 => ?_)
  refine w_region ?_
  refine w_p (y_fieldAddr (o := 0) (i := 0) Try.underlying25 rfl Try.sizeOf3 rfl rfl rfl) rfl ?_
  refine w_p (y_load1 Try.isAgg3 hs5.tail rfl rfl (show Ats _ _ _ _ [_] from Ats.part hb 0 1)) rfl ?_
  refine w_p (y_sub rfl rfl rfl rfl (by omega) (by omega)) rfl ?_
  refine w_p (y_fieldAddr (o := 0) (i := 0) Try.underlying70 rfl Try.sizeOf3 rfl rfl rfl) rfl ?_
  refine w_p (y_load1 Try.isAgg3 hs5 rfl rfl (ats_own (i := 0) (vs := [_]) rfl rfl)) rfl ?_
  refine w_bslice (ps := [(0, _)]) (pv := [(0, .int _ _)]) (cs := [_]) want_none rfl rfl (fun w => Try_C_fb1 _ w) hs5 (fun b10 w11 hs12 => ?_)
  refine w_call want_none Try.call51 rfl rfl rfl rfl (c51 _ _ _ [_] _ (by simp) (sl_own (i := 0) (rows := [[_]]) rfl (by simp) rfl) hs12) ?_
  rintro _ w14 ⟨rfl, hs15⟩
  refine w_p (y_assign (v := .bool _) rfl rfl) rfl ?_
  refine w_nil ?_
  refine q_then (hK8 _ _ ?_)
  refine w_cond rfl rfl (fun h16 => ?_) (fun h16 => ?_)
  ·
   try simp only [zA, zB, zC, zD, zE, zF] at h16
   refine w_seq (fun K18 hK17 => ?_)
   refine w_region ?_
   refine w_p (y_assign (v := _) rfl rfl) rfl ?_
   refine w_nil ?_
   refine q_then (hK17 _ _ ?_)
   refine w_ret ?_
   refine q_blk_ret ?_
   refine q_then_ret ?_
   refine q_ret (l := [.tmp 5]) (vs := [_]) rfl ⟨⟨rfl, show _ = (.int _ _ : Value) from rfl⟩, trivial⟩ ?_
   try simp only [List.any_cons, List.any_nil, Bool.or_false, Bool.or_eq_false_iff] at h16
   exact ⟨congrArg (Value.int .i64) (by simp [hourE, h16]), hs15.tail.tail⟩
  ·
   try simp only [zA, zB, zC, zD, zE, zF] at h16
   refine w_seq (fun K20 hK19 => ?_)
   refine w_region ?_
   refine w_p (y_fieldAddr (o := 1) (i := 1) Try.underlying70 rfl Try.sizeOf31 rfl rfl rfl) rfl ?_
   refine w_p (y_fieldAddr (o := 0) (i := 0) Try.underlying31 rfl Try.sizeOf3 rfl rfl rfl) rfl ?_
   refine w_p (y_load1 Try.isAgg3 hs15 rfl rfl (ats_own (i := 1) (vs := [_]) rfl rfl)) rfl ?_
   refine w_p (y_fieldAddr (o := 1) (i := 1) Try.underlying70 rfl Try.sizeOf31 rfl rfl rfl) rfl ?_
   refine w_p (y_fieldAddr (o := 1) (i := 1) Try.underlying31 rfl Try.sizeOf3 rfl rfl rfl) rfl ?_
   refine w_p (y_load1 Try.isAgg3 hs15 rfl rfl (ats_own (i := 1) (vs := [_]) rfl rfl)) rfl ?_
   refine w_bslice (ps := [(0, _), (1, _)]) (pv := [(0, .int _ _), (1, .int _ _)]) (cs := [_, _]) want_none rfl rfl (fun w => Try_C_fb2 _ _ w) hs15 (fun b21 w22 hs23 => ?_)
   refine w_call want_none Try.call51 rfl rfl rfl rfl (c51 _ _ _ [_, _] _ (by simp) (sl_own (i := 0) (rows := [[_], [_]]) rfl (by simp) rfl) hs23) ?_
   rintro _ w25 ⟨rfl, hs26⟩
   refine w_p (y_assign (v := .bool _) rfl rfl) rfl ?_
   refine w_nil ?_
   refine q_then (hK19 _ _ ?_)
   refine w_cond rfl rfl (fun h27 => ?_) (fun h27 => ?_)
   ·
    try simp only [zA, zB, zC, zD, zE, zF] at h27
    refine w_seq (fun K29 hK28 => ?_)
    refine w_region ?_
    refine w_p (y_assign (v := _) rfl rfl) rfl ?_
    refine w_nil ?_
    refine q_then (hK28 _ _ ?_)
    refine w_ret ?_
    refine q_blk_ret ?_
    refine q_then_ret ?_
    refine q_ret (l := [.tmp 5]) (vs := [_]) rfl ⟨⟨rfl, show _ = (.int _ _ : Value) from rfl⟩, trivial⟩ ?_
    try simp only [List.any_cons, List.any_nil, Bool.or_false, Bool.or_eq_false_iff] at h16 h27
    exact ⟨congrArg (Value.int .i64) (by simp [hourE, h16, h27]), hs26.tail.tail.tail⟩
   ·
    try simp only [zA, zB, zC, zD, zE, zF] at h27
    refine w_seq (fun K31 hK30 => ?_)
    have hbb : 0 ≤ h.lo ∧ h.lo ≤ 40 ∧ 0 ≤ h.hi ∧ h.hi ≤ 40 := by
      have hq : [h.lo, h.hi].any (out 0 40) = false := by assumption
      simp [out] at hq; omega
    refine w_region ?_
    refine w_p (y_fieldAddr (o := 1) (i := 1) Try.underlying70 rfl Try.sizeOf31 rfl rfl rfl) rfl ?_
    refine w_p (y_fieldAddr (o := 1) (i := 1) Try.underlying31 rfl Try.sizeOf3 rfl rfl rfl) rfl ?_
    refine w_p (y_load1 Try.isAgg3 hs26 rfl rfl (ats_own (i := 2) (vs := [_]) rfl rfl)) rfl ?_
    refine w_p (y_fieldAddr (o := 1) (i := 1) Try.underlying70 rfl Try.sizeOf31 rfl rfl rfl) rfl ?_
    refine w_p (y_fieldAddr (o := 0) (i := 0) Try.underlying31 rfl Try.sizeOf3 rfl rfl rfl) rfl ?_
    refine w_p (y_load1 Try.isAgg3 hs26 rfl rfl (ats_own (i := 2) (vs := [_]) rfl rfl)) rfl ?_
    refine w_p (y_sub rfl rfl rfl rfl (by omega) (by omega)) rfl ?_
    refine w_bslice (ps := [(0, _)]) (pv := [(0, .int _ _)]) (cs := [_]) want_none rfl rfl (fun w => Try_C_fb1 _ w) hs26 (fun b32 w33 hs34 => ?_)
    refine w_call want_none Try.call51 rfl rfl rfl rfl (c51 _ _ _ [_] _ (by simp) (sl_own (i := 0) (rows := [[_]]) rfl (by simp) rfl) hs34) ?_
    rintro _ w36 ⟨rfl, hs37⟩
    refine w_p (y_assign (v := .bool _) rfl rfl) rfl ?_
    refine w_nil ?_
    refine q_then (hK30 _ _ ?_)
    refine w_cond rfl rfl (fun h38 => ?_) (fun h38 => ?_)
    ·
     try simp only [zA, zB, zC, zD, zE, zF] at h38
     refine w_seq (fun K40 hK39 => ?_)
     refine w_region ?_
     refine w_p (y_assign (v := _) rfl rfl) rfl ?_
     refine w_nil ?_
     refine q_then (hK39 _ _ ?_)
     refine w_ret ?_
     refine q_blk_ret ?_
     refine q_then_ret ?_
     refine q_ret (l := [.tmp 5]) (vs := [_]) rfl ⟨⟨rfl, show _ = (.int _ _ : Value) from rfl⟩, trivial⟩ ?_
     try simp only [List.any_cons, List.any_nil, Bool.or_false, Bool.or_eq_false_iff] at h16 h27 h38
     exact ⟨congrArg (Value.int .i64) (by simp [hourE, h16, h27, h38]), hs37.tail.tail.tail.tail⟩
    ·
     try simp only [zA, zB, zC, zD, zE, zF] at h38
     refine w_skip ?_
     refine q_blk_normal ?_
     refine q_then (hK6 _ _ ?_)
     refine w_seq (fun K42 hK41 => ?_)
     refine w_region ?_
     refine w_p (y_assign (v := _) rfl rfl) rfl ?_
     refine w_nil ?_
     refine q_then (hK41 _ _ ?_)
     refine w_ret ?_
     refine q_ret (l := [.tmp 5]) (vs := [_]) rfl ⟨⟨rfl, show _ = (.int _ _ : Value) from rfl⟩, trivial⟩ ?_
     try simp only [List.any_cons, List.any_nil, Bool.or_false, Bool.or_eq_false_iff] at h16 h27 h38
     exact ⟨congrArg (Value.int .i64) (by simp [hourE, h16, h27, h38]), hs37.tail.tail.tail.tail⟩

theorem c58 {w0 w : World} {F : List (Nat × Obj)} (x c : Ctr) (px pc : AtC) (bm : Nat) (hb : Ats w0 F bm 0 (c.cells pc)) (hs : St w0 w F) :
  Con Try.prog 58 [.agg (x.cells px).toArray, .pointer (some ⟨bm, 0, none⟩)] w fun v w' => v = .bool (decide (x.name = c.name)) ∧ St w0 w' F := by
  refine con_of_wc (n := 9) Try.func58 rfl rfl (Nat.le_of_ble_eq_true rfl) ?_
  refine w_seq (fun K2 hK1 => ?_)
  refine w_region ?_
  refine w_box (v := .agg #[.string _, .int _ _, .int _ _, .int _ _, .slice _ _ _, .slice _ _ _]) (cs := [_, _, _, _, _, _]) want_none rfl rfl rfl hs (fun b3 w4 hs5 => ?_)
  refine w_p (y_assign (v := _) rfl rfl) rfl ?_
  refine w_nil ?_
  refine q_then (hK1 _ _ ?_)
  refine w_seq (fun K7 hK6 => ?_)
  refine w_region ?_
  refine w_p (y_fieldAddr (o := 0) (i := 0) Try.underlying76 rfl Try.sizeOf9 rfl rfl rfl) rfl ?_
  refine w_p (y_load1 Try.isAgg9 hs5 rfl rfl (ats_own (i := 0) (vs := [_]) rfl rfl)) rfl ?_
  refine w_p (y_fieldAddr (o := 0) (i := 0) Try.underlying76 rfl Try.sizeOf9 rfl rfl rfl) rfl ?_
  refine w_p (y_load1 Try.isAgg9 hs5.tail rfl rfl (show Ats _ _ _ _ [_] from Ats.part hb 0 1)) rfl ?_
  refine w_p (y_strEq rfl rfl rfl rfl) rfl ?_
  refine w_p (y_assign (v := .bool _) rfl rfl) rfl ?_
  refine w_nil ?_
  refine q_then (hK6 _ _ ?_)
  refine w_ret ?_
  refine q_ret (l := [.tmp 3]) (vs := [_]) rfl ⟨⟨rfl, show _ = (.bool _ : Value) from rfl⟩, trivial⟩ ?_
  exact ⟨rfl, hs5.tail⟩

theorem c55 {w0 w : World} {F : List (Nat × Obj)} (b : Board) (p : AtB) (hm : BIn w0 F b p) (i : Nat) (hi : i < b.ctrs.length) (bm bn : Nat) (hb : Ats w0 F bm 0 (b.cells p)) (hn : Ats w0 F bn 0 [.int .i64 (b.hours.length : Int)]) (hs : St w0 w F) :
  Con Try.prog 55 [.int .i64 (i : Int), .agg (b.ctrs[i].cells (p.pc i)).toArray, .pointer (some ⟨bm, 0, none⟩), .pointer (some ⟨bn, 0, none⟩)] w fun v w' => v = .int .i64 (ctrE b.hours.length (b.ctrs.take i) b.ctrs[i]) ∧ St w0 w' F := by
  refine con_of_wc (n := 54) Try.func55 rfl rfl (Nat.le_of_ble_eq_true rfl) ?_
  have hnm := hm.nm _ (List.getElem_mem hi)
  have hlz := hm.lz i hi
  have hls := hm.ls i hi
  have hlc := hm.lc
  have hcc := hm.cc
  refine w_seq (fun K2 hK1 => ?_)
  refine w_region ?_
  refine w_box (v := .agg #[.string _, .int _ _, .int _ _, .int _ _, .slice _ _ _, .slice _ _ _]) (cs := [_, _, _, _, _, _]) want_none rfl rfl rfl hs (fun b3 w4 hs5 => ?_)
  refine w_p (y_assign (v := _) rfl rfl) rfl ?_
  refine w_nil ?_
  refine q_then (hK1 _ _ ?_)
  refine w_seq (fun K7 hK6 => ?_)
  refine w_block ?_
  refine w_seq (fun K9 hK8 => ?_)
  refine w_region ?_
  refine w_p (y_fieldAddr (o := 0) (i := 0) Try.underlying76 rfl Try.sizeOf9 rfl rfl rfl) rfl ?_
  refine w_p (y_load1 Try.isAgg9 hs5 rfl rfl (ats_own (i := 0) (vs := [_]) rfl rfl)) rfl ?_
  refine w_call want_none Try.call56 rfl rfl rfl rfl (c56 _ hnm hs5) ?_
  rintro _ w11 ⟨rfl, hs12⟩
  refine w_p (y_not rfl rfl) rfl ?_
  refine w_p (y_assign (v := .bool _) rfl rfl) rfl ?_
  refine w_nil ?_
  refine q_then (hK8 _ _ ?_)
  refine w_cond rfl rfl (fun h13 => ?_) (fun h13 => ?_)
  ·
   try simp only [zA, zB, zC, zD, zE, zF] at h13
   refine w_seq (fun K15 hK14 => ?_)
   refine w_region ?_
   refine w_p (y_assign (v := _) rfl rfl) rfl ?_
   refine w_nil ?_
   refine q_then (hK14 _ _ ?_)
   refine w_ret ?_
   refine q_blk_ret ?_
   refine q_then_ret ?_
   refine q_ret (l := [.tmp 6]) (vs := [_]) rfl ⟨⟨rfl, show _ = (.int _ _ : Value) from rfl⟩, trivial⟩ ?_
   try simp only [List.any_cons, List.any_nil, Bool.or_false, Bool.or_eq_false_iff] at h13
   first
     | exact ⟨congrArg (Value.int .i64) (ctrE_a (by assumption)).symm, hs12.tail⟩
     | exact ⟨congrArg (Value.int .i64) (ctrE_b (by assumption) (by assumption)).symm, hs12.tail⟩
     | exact ⟨congrArg (Value.int .i64) (ctrE_d (by assumption) (by assumption) (by simp [h13]; done) (by omega)).symm, hs12.tail⟩
     | exact ⟨congrArg (Value.int .i64) (by rw [ctrE_e (by assumption) (by assumption) (by simp [h13]; done) (by omega)]; simp [h13]), hs12.tail⟩
     | exact ⟨congrArg (Value.int .i64) (by rw [ctrE_c (by assumption) (by assumption)]; simp [h13]), hs12.tail⟩
  ·
   try simp only [zA, zB, zC, zD, zE, zF] at h13
   refine w_seq (fun K17 hK16 => ?_)
   refine w_region ?_
   refine w_p (y_fieldAddr (o := 2) (i := 2) Try.underlying25 rfl Try.sizeOf23 rfl rfl rfl) rfl ?_
   refine w_p (y_load1 Try.isAgg23 hs12.tail rfl rfl (show Ats _ _ _ _ [_] from Ats.part hb 2 1)) rfl ?_
   refine w_p (y_move (v := .int _ _) rfl rfl) rfl ?_
   refine w_p (y_sliceS (l' := 0) (h' := i) Try.underlying23 Try.sizeOf76 rfl rfl rfl ⟨rfl, _, _, rfl, rfl⟩ (by omega) (by omega)) rfl ?_
   refine w_p (y_makeFunc (fv := []) (cv := [_]) rfl rfl rfl rfl) rfl ?_
   refine w_call want_none Try.call57 rfl rfl rfl rfl ((by have h := c57 _ (b.ctrs.take i) p.pc (p.cc - 0) (by rw [List.length_take]; omega) (sl_takeK hm.c.cons (by omega) hm.cc) Try.call58 #[] #[.pointer (some ⟨b3, 0, none⟩)] (fun x => decide (x.name = (b.ctrs[i]'hi).name)) (fun j hj w hs => c58 _ _ _ _ _ (ats_own (i := 0) (vs := Ctr.cells (b.ctrs[i]'hi) (p.pc i)) rfl rfl) hs) hs12; rw [show (b.ctrs.take i).length = i from by rw [List.length_take]; omega] at h; exact h)) ?_
   rintro _ w19 ⟨rfl, hs20⟩
   refine w_p (y_assign (v := .bool _) rfl rfl) rfl ?_
   refine w_nil ?_
   refine q_then (hK16 _ _ ?_)
   refine w_cond rfl rfl (fun h21 => ?_) (fun h21 => ?_)
   ·
    try simp only [zA, zB, zC, zD, zE, zF] at h21
    refine w_seq (fun K23 hK22 => ?_)
    refine w_region ?_
    refine w_p (y_assign (v := _) rfl rfl) rfl ?_
    refine w_nil ?_
    refine q_then (hK22 _ _ ?_)
    refine w_ret ?_
    refine q_blk_ret ?_
    refine q_then_ret ?_
    refine q_ret (l := [.tmp 6]) (vs := [_]) rfl ⟨⟨rfl, show _ = (.int _ _ : Value) from rfl⟩, trivial⟩ ?_
    try simp only [List.any_cons, List.any_nil, Bool.or_false, Bool.or_eq_false_iff] at h13 h21
    first
      | exact ⟨congrArg (Value.int .i64) (ctrE_a (by assumption)).symm, hs20.tail⟩
      | exact ⟨congrArg (Value.int .i64) (ctrE_b (by assumption) (by assumption)).symm, hs20.tail⟩
      | exact ⟨congrArg (Value.int .i64) (ctrE_d (by assumption) (by assumption) (by simp [h13, h21]; done) (by omega)).symm, hs20.tail⟩
      | exact ⟨congrArg (Value.int .i64) (by rw [ctrE_e (by assumption) (by assumption) (by simp [h13, h21]; done) (by omega)]; simp [h13, h21]), hs20.tail⟩
      | exact ⟨congrArg (Value.int .i64) (by rw [ctrE_c (by assumption) (by assumption)]; simp [h13, h21]), hs20.tail⟩
   ·
    try simp only [zA, zB, zC, zD, zE, zF] at h21
    refine w_seq (fun K25 hK24 => ?_)
    refine w_region ?_
    refine w_p (y_fieldAddr (o := 1) (i := 1) Try.underlying76 rfl Try.sizeOf3 rfl rfl rfl) rfl ?_
    refine w_p (y_load1 Try.isAgg3 hs20 rfl rfl (ats_own (i := 0) (vs := [_]) rfl rfl)) rfl ?_
    refine w_p (y_fieldAddr (o := 2) (i := 2) Try.underlying76 rfl Try.sizeOf3 rfl rfl rfl) rfl ?_
    refine w_p (y_load1 Try.isAgg3 hs20 rfl rfl (ats_own (i := 0) (vs := [_]) rfl rfl)) rfl ?_
    refine w_bslice (ps := [(0, _), (1, _)]) (pv := [(0, .int _ _), (1, .int _ _)]) (cs := [_, _]) want_none rfl rfl (fun w => Try_C_fb2 _ _ w) hs20 (fun b26 w27 hs28 => ?_)
    refine w_call want_none Try.call51 rfl rfl rfl rfl (c51 _ _ _ [_, _] _ (by simp) (sl_own (i := 0) (rows := [[_], [_]]) rfl (by simp) rfl) hs28) ?_
    rintro _ w30 ⟨rfl, hs31⟩
    refine w_p (y_move (v := .bool _) rfl rfl) rfl ?_
    refine w_split (fun h32 => ?_) (fun h32 => ?_)
    ·
     try simp only [zA, zB, zC, zD, zE, zF] at h32
     refine w_skipop rfl rfl rfl ?_
     refine w_skipop rfl rfl rfl ?_
     refine w_skipop rfl rfl rfl ?_
     refine w_skipop rfl rfl rfl ?_
     refine w_p (y_pickT (v := _) rfl rfl rfl rfl) rfl ?_
     refine w_p (y_assign (v := .bool _) rfl rfl) rfl ?_
     refine w_nil ?_
     refine q_then (hK24 _ _ ?_)
     refine w_condT rfl rfl ?_
     refine w_seq (fun K34 hK33 => ?_)
     refine w_region ?_
     refine w_p (y_assign (v := _) rfl rfl) rfl ?_
     refine w_nil ?_
     refine q_then (hK33 _ _ ?_)
     refine w_ret ?_
     refine q_blk_ret ?_
     refine q_then_ret ?_
     refine q_ret (l := [.tmp 6]) (vs := [_]) rfl ⟨⟨rfl, show _ = (.int _ _ : Value) from rfl⟩, trivial⟩ ?_
     try simp only [List.any_cons, List.any_nil, Bool.or_false, Bool.or_eq_false_iff] at h13 h21 h32
     first
       | exact ⟨congrArg (Value.int .i64) (ctrE_a (by assumption)).symm, hs31.tail.tail⟩
       | exact ⟨congrArg (Value.int .i64) (ctrE_b (by assumption) (by assumption)).symm, hs31.tail.tail⟩
       | exact ⟨congrArg (Value.int .i64) (ctrE_d (by assumption) (by assumption) (by simp [h13, h21, h32]; done) (by omega)).symm, hs31.tail.tail⟩
       | exact ⟨congrArg (Value.int .i64) (by rw [ctrE_e (by assumption) (by assumption) (by simp [h13, h21, h32]; done) (by omega)]; simp [h13, h21, h32]), hs31.tail.tail⟩
       | exact ⟨congrArg (Value.int .i64) (by rw [ctrE_c (by assumption) (by assumption)]; simp [h13, h21, h32]), hs31.tail.tail⟩
    ·
     try simp only [zA, zB, zC, zD, zE, zF] at h32
     refine w_y rfl rfl rfl (y_fieldAddr (o := 3) (i := 3) Try.underlying76 rfl Try.sizeOf3 rfl rfl rfl) rfl ?_
     refine w_y rfl rfl rfl (y_load1 Try.isAgg3 hs31 rfl rfl (ats_own (i := 1) (vs := [_]) rfl rfl)) rfl ?_
     refine w_bslice (ps := [(0, _)]) (pv := [(0, .int _ _)]) (cs := [_]) (want_yes rfl rfl rfl) rfl rfl (fun w => Try_C_fb1 _ w) hs31 (fun b35 w36 hs37 => ?_)
     refine w_call (want_yes rfl rfl rfl) Try.call51 rfl rfl rfl rfl (c51 _ _ _ [_] _ (by simp) (sl_own (i := 0) (rows := [[_]]) rfl (by simp) rfl) hs37) ?_
     rintro _ w39 ⟨rfl, hs40⟩
     refine w_p (y_pickF (v := .bool _) rfl rfl rfl rfl) rfl ?_
     refine w_p (y_assign (v := .bool _) rfl rfl) rfl ?_
     refine w_nil ?_
     refine q_then (hK24 _ _ ?_)
     refine w_cond rfl rfl (fun h41 => ?_) (fun h41 => ?_)
     ·
      try simp only [zA, zB, zC, zD, zE, zF] at h41
      refine w_seq (fun K43 hK42 => ?_)
      refine w_region ?_
      refine w_p (y_assign (v := _) rfl rfl) rfl ?_
      refine w_nil ?_
      refine q_then (hK42 _ _ ?_)
      refine w_ret ?_
      refine q_blk_ret ?_
      refine q_then_ret ?_
      refine q_ret (l := [.tmp 6]) (vs := [_]) rfl ⟨⟨rfl, show _ = (.int _ _ : Value) from rfl⟩, trivial⟩ ?_
      try simp only [List.any_cons, List.any_nil, Bool.or_false, Bool.or_eq_false_iff] at h13 h21 h32 h41
      first
        | exact ⟨congrArg (Value.int .i64) (ctrE_a (by assumption)).symm, hs40.tail.tail.tail⟩
        | exact ⟨congrArg (Value.int .i64) (ctrE_b (by assumption) (by assumption)).symm, hs40.tail.tail.tail⟩
        | exact ⟨congrArg (Value.int .i64) (ctrE_d (by assumption) (by assumption) (by simp [h13, h21, h32, h41]; done) (by omega)).symm, hs40.tail.tail.tail⟩
        | exact ⟨congrArg (Value.int .i64) (by rw [ctrE_e (by assumption) (by assumption) (by simp [h13, h21, h32, h41]; done) (by omega)]; simp [h13, h21, h32, h41]), hs40.tail.tail.tail⟩
        | exact ⟨congrArg (Value.int .i64) (by rw [ctrE_c (by assumption) (by assumption)]; simp [h13, h21, h32, h41]), hs40.tail.tail.tail⟩
     ·
      try simp only [zA, zB, zC, zD, zE, zF] at h41
      refine w_seq (fun K45 hK44 => ?_)
      refine w_region ?_
      refine w_p (y_fieldAddr (o := 4) (i := 4) Try.underlying76 rfl Try.sizeOf39 rfl rfl rfl) rfl ?_
      refine w_p (y_load1 Try.isAgg39 hs40 rfl rfl (ats_own (i := 2) (vs := [_]) rfl rfl)) rfl ?_
      refine w_p (y_lenS Try.underlying39 rfl rfl) rfl ?_
      refine w_p (y_load1 Try.isAgg3 hs40.tail.tail.tail rfl rfl hn) rfl ?_
      refine w_p (y_neq rfl rfl rfl rfl) rfl ?_
      refine w_p (y_move (v := .bool _) rfl rfl) rfl ?_
      refine w_split (fun h46 => ?_) (fun h46 => ?_)
      ·
       try simp only [zA, zB, zC, zD, zE, zF] at h46
       refine w_skipop rfl rfl rfl ?_
       refine w_skipop rfl rfl rfl ?_
       refine w_skipop rfl rfl rfl ?_
       refine w_skipop rfl rfl rfl ?_
       refine w_skipop rfl rfl rfl ?_
       refine w_p (y_pickT (v := _) rfl rfl rfl rfl) rfl ?_
       refine w_p (y_assign (v := .bool _) rfl rfl) rfl ?_
       refine w_nil ?_
       refine q_then (hK44 _ _ ?_)
       refine w_condT rfl rfl ?_
       refine w_seq (fun K48 hK47 => ?_)
       refine w_region ?_
       refine w_p (y_assign (v := _) rfl rfl) rfl ?_
       refine w_nil ?_
       refine q_then (hK47 _ _ ?_)
       refine w_ret ?_
       refine q_blk_ret ?_
       refine q_then_ret ?_
       refine q_ret (l := [.tmp 6]) (vs := [_]) rfl ⟨⟨rfl, show _ = (.int _ _ : Value) from rfl⟩, trivial⟩ ?_
       try simp only [List.any_cons, List.any_nil, Bool.or_false, Bool.or_eq_false_iff] at h13 h21 h32 h41 h46
       first
         | exact ⟨congrArg (Value.int .i64) (ctrE_a (by assumption)).symm, hs40.tail.tail.tail⟩
         | exact ⟨congrArg (Value.int .i64) (ctrE_b (by assumption) (by assumption)).symm, hs40.tail.tail.tail⟩
         | exact ⟨congrArg (Value.int .i64) (ctrE_d (by assumption) (by assumption) (by simp [h13, h21, h32, h41, h46]; done) (by omega)).symm, hs40.tail.tail.tail⟩
         | exact ⟨congrArg (Value.int .i64) (by rw [ctrE_e (by assumption) (by assumption) (by simp [h13, h21, h32, h41, h46]; done) (by omega)]; simp [h13, h21, h32, h41, h46]), hs40.tail.tail.tail⟩
         | exact ⟨congrArg (Value.int .i64) (by rw [ctrE_c (by assumption) (by assumption)]; simp [h13, h21, h32, h41, h46]), hs40.tail.tail.tail⟩
      ·
       try simp only [zA, zB, zC, zD, zE, zF] at h46
       refine w_y rfl rfl rfl (y_fieldAddr (o := 5) (i := 5) Try.underlying76 rfl Try.sizeOf39 rfl rfl rfl) rfl ?_
       refine w_y rfl rfl rfl (y_load1 Try.isAgg39 hs40 rfl rfl (ats_own (i := 2) (vs := [_]) rfl rfl)) rfl ?_
       refine w_y rfl rfl rfl (y_lenS Try.underlying39 rfl rfl) rfl ?_
       refine w_y rfl rfl rfl (y_load1 Try.isAgg3 hs40.tail.tail.tail rfl rfl hn) rfl ?_
       refine w_y rfl rfl rfl (y_neq rfl rfl rfl rfl) rfl ?_
       refine w_p (y_pickF (v := .bool _) rfl rfl rfl rfl) rfl ?_
       refine w_p (y_assign (v := .bool _) rfl rfl) rfl ?_
       refine w_nil ?_
       refine q_then (hK44 _ _ ?_)
       refine w_cond rfl rfl (fun h49 => ?_) (fun h49 => ?_)
       ·
        try simp only [zA, zB, zC, zD, zE, zF] at h49
        refine w_seq (fun K51 hK50 => ?_)
        refine w_region ?_
        refine w_p (y_assign (v := _) rfl rfl) rfl ?_
        refine w_nil ?_
        refine q_then (hK50 _ _ ?_)
        refine w_ret ?_
        refine q_blk_ret ?_
        refine q_then_ret ?_
        refine q_ret (l := [.tmp 6]) (vs := [_]) rfl ⟨⟨rfl, show _ = (.int _ _ : Value) from rfl⟩, trivial⟩ ?_
        try simp only [List.any_cons, List.any_nil, Bool.or_false, Bool.or_eq_false_iff] at h13 h21 h32 h41 h46 h49
        first
          | exact ⟨congrArg (Value.int .i64) (ctrE_a (by assumption)).symm, hs40.tail.tail.tail⟩
          | exact ⟨congrArg (Value.int .i64) (ctrE_b (by assumption) (by assumption)).symm, hs40.tail.tail.tail⟩
          | exact ⟨congrArg (Value.int .i64) (ctrE_d (by assumption) (by assumption) (by simp [h13, h21, h32, h41, h46, h49]; done) (by omega)).symm, hs40.tail.tail.tail⟩
          | exact ⟨congrArg (Value.int .i64) (by rw [ctrE_e (by assumption) (by assumption) (by simp [h13, h21, h32, h41, h46, h49]; done) (by omega)]; simp [h13, h21, h32, h41, h46, h49]), hs40.tail.tail.tail⟩
          | exact ⟨congrArg (Value.int .i64) (by rw [ctrE_c (by assumption) (by assumption)]; simp [h13, h21, h32, h41, h46, h49]), hs40.tail.tail.tail⟩
       ·
        try simp only [zA, zB, zC, zD, zE, zF] at h49
        refine w_seq (fun K53 hK52 => ?_)
        refine w_region ?_
        refine w_p (y_fieldAddr (o := 4) (i := 4) Try.underlying76 rfl Try.sizeOf39 rfl rfl rfl) rfl ?_
        refine w_p (y_load1 Try.isAgg39 hs40 rfl rfl (ats_own (i := 2) (vs := [_]) rfl rfl)) rfl ?_
        refine w_call want_none Try.call51 rfl rfl rfl rfl (c51 _ _ _ (b.ctrs[i]'hi).zero _ (by omega) (hm.z i hi).cons.cons.cons hs40) ?_
        rintro _ w55 ⟨rfl, hs56⟩
        refine w_p (y_move (v := .bool _) rfl rfl) rfl ?_
        refine w_split (fun h57 => ?_) (fun h57 => ?_)
        ·
         try simp only [zA, zB, zC, zD, zE, zF] at h57
         refine w_skipop rfl rfl rfl ?_
         refine w_skipop rfl rfl rfl ?_
         refine w_skipop rfl rfl rfl ?_
         refine w_p (y_pickT (v := _) rfl rfl rfl rfl) rfl ?_
         refine w_p (y_assign (v := .bool _) rfl rfl) rfl ?_
         refine w_nil ?_
         refine q_then (hK52 _ _ ?_)
         refine w_condT rfl rfl ?_
         refine w_seq (fun K59 hK58 => ?_)
         refine w_region ?_
         refine w_p (y_assign (v := _) rfl rfl) rfl ?_
         refine w_nil ?_
         refine q_then (hK58 _ _ ?_)
         refine w_ret ?_
         refine q_blk_ret ?_
         refine q_then_ret ?_
         refine q_ret (l := [.tmp 6]) (vs := [_]) rfl ⟨⟨rfl, show _ = (.int _ _ : Value) from rfl⟩, trivial⟩ ?_
         try simp only [List.any_cons, List.any_nil, Bool.or_false, Bool.or_eq_false_iff] at h13 h21 h32 h41 h46 h49 h57
         first
           | exact ⟨congrArg (Value.int .i64) (ctrE_a (by assumption)).symm, hs56.tail.tail.tail⟩
           | exact ⟨congrArg (Value.int .i64) (ctrE_b (by assumption) (by assumption)).symm, hs56.tail.tail.tail⟩
           | exact ⟨congrArg (Value.int .i64) (ctrE_d (by assumption) (by assumption) (by simp [h13, h21, h32, h41, h46, h49, h57]; done) (by omega)).symm, hs56.tail.tail.tail⟩
           | exact ⟨congrArg (Value.int .i64) (by rw [ctrE_e (by assumption) (by assumption) (by simp [h13, h21, h32, h41, h46, h49, h57]; done) (by omega)]; simp [h13, h21, h32, h41, h46, h49, h57]), hs56.tail.tail.tail⟩
           | exact ⟨congrArg (Value.int .i64) (by rw [ctrE_c (by assumption) (by assumption)]; simp [h13, h21, h32, h41, h46, h49, h57]), hs56.tail.tail.tail⟩
        ·
         try simp only [zA, zB, zC, zD, zE, zF] at h57
         refine w_y rfl rfl rfl (y_fieldAddr (o := 5) (i := 5) Try.underlying76 rfl Try.sizeOf39 rfl rfl rfl) rfl ?_
         refine w_y rfl rfl rfl (y_load1 Try.isAgg39 hs56 rfl rfl (ats_own (i := 2) (vs := [_]) rfl rfl)) rfl ?_
         refine w_call (want_yes rfl rfl rfl) Try.call51 rfl rfl rfl rfl (c51 _ _ _ (b.ctrs[i]'hi).shown _ (by omega) (hm.s i hi).cons.cons.cons hs56) ?_
         rintro _ w61 ⟨rfl, hs62⟩
         refine w_p (y_pickF (v := .bool _) rfl rfl rfl rfl) rfl ?_
         refine w_p (y_assign (v := .bool _) rfl rfl) rfl ?_
         refine w_nil ?_
         refine q_then (hK52 _ _ ?_)
         refine w_cond rfl rfl (fun h63 => ?_) (fun h63 => ?_)
         ·
          try simp only [zA, zB, zC, zD, zE, zF] at h63
          refine w_seq (fun K65 hK64 => ?_)
          refine w_region ?_
          refine w_p (y_assign (v := _) rfl rfl) rfl ?_
          refine w_nil ?_
          refine q_then (hK64 _ _ ?_)
          refine w_ret ?_
          refine q_blk_ret ?_
          refine q_then_ret ?_
          refine q_ret (l := [.tmp 6]) (vs := [_]) rfl ⟨⟨rfl, show _ = (.int _ _ : Value) from rfl⟩, trivial⟩ ?_
          try simp only [List.any_cons, List.any_nil, Bool.or_false, Bool.or_eq_false_iff] at h13 h21 h32 h41 h46 h49 h57 h63
          first
            | exact ⟨congrArg (Value.int .i64) (ctrE_a (by assumption)).symm, hs62.tail.tail.tail⟩
            | exact ⟨congrArg (Value.int .i64) (ctrE_b (by assumption) (by assumption)).symm, hs62.tail.tail.tail⟩
            | exact ⟨congrArg (Value.int .i64) (ctrE_d (by assumption) (by assumption) (by simp [h13, h21, h32, h41, h46, h49, h57, h63]; done) (by omega)).symm, hs62.tail.tail.tail⟩
            | exact ⟨congrArg (Value.int .i64) (by rw [ctrE_e (by assumption) (by assumption) (by simp [h13, h21, h32, h41, h46, h49, h57, h63]; done) (by omega)]; simp [h13, h21, h32, h41, h46, h49, h57, h63]), hs62.tail.tail.tail⟩
            | exact ⟨congrArg (Value.int .i64) (by rw [ctrE_c (by assumption) (by assumption)]; simp [h13, h21, h32, h41, h46, h49, h57, h63]), hs62.tail.tail.tail⟩
         ·
          try simp only [zA, zB, zC, zD, zE, zF] at h63
          refine w_skip ?_
          refine q_blk_normal ?_
          refine q_then (hK6 _ _ ?_)
          refine w_seq (fun K67 hK66 => ?_)
          refine w_region ?_
          refine w_p (y_assign (v := _) rfl rfl) rfl ?_
          refine w_nil ?_
          refine q_then (hK66 _ _ ?_)
          refine w_ret ?_
          refine q_ret (l := [.tmp 6]) (vs := [_]) rfl ⟨⟨rfl, show _ = (.int _ _ : Value) from rfl⟩, trivial⟩ ?_
          try simp only [List.any_cons, List.any_nil, Bool.or_false, Bool.or_eq_false_iff] at h13 h21 h32 h41 h46 h49 h57 h63
          first
            | exact ⟨congrArg (Value.int .i64) (ctrE_a (by assumption)).symm, hs62.tail.tail.tail⟩
            | exact ⟨congrArg (Value.int .i64) (ctrE_b (by assumption) (by assumption)).symm, hs62.tail.tail.tail⟩
            | exact ⟨congrArg (Value.int .i64) (ctrE_d (by assumption) (by assumption) (by simp [h13, h21, h32, h41, h46, h49, h57, h63]; done) (by omega)).symm, hs62.tail.tail.tail⟩
            | exact ⟨congrArg (Value.int .i64) (by rw [ctrE_e (by assumption) (by assumption) (by simp [h13, h21, h32, h41, h46, h49, h57, h63]; done) (by omega)]; simp [h13, h21, h32, h41, h46, h49, h57, h63]), hs62.tail.tail.tail⟩
            | exact ⟨congrArg (Value.int .i64) (by rw [ctrE_c (by assumption) (by assumption)]; simp [h13, h21, h32, h41, h46, h49, h57, h63]), hs62.tail.tail.tail⟩

end Go.Proofs
/- The chain layer's arguments, opened; what a law that holds leaves behind. No conditions. -/
set_option maxRecDepth 100000
set_option linter.unusedSimpArgs false
set_option linter.unusedVariables false
namespace Go.Proofs.Ytgndnnpadkoagaa
open Go.Rt Go.Rt.Ch Go.RowKit Go.ChangeShapes Go.WideShapes Go.ChangeAt
instance : Inhabited Hour := ⟨⟨0, 0, 0⟩⟩
instance : Inhabited (Ctr × AtC) := ⟨(⟨ByteArray.empty, 0, 0, 0, [], []⟩, ⟨none, 0, none, 0⟩)⟩
theorem Try.own : ownKnob Try.prog.godebug = none := by kernel_rfl
theorem Try.laidOut : laidOutB Try.prog = true := by kernel_rfl
theorem cells70 : Try.prog.cellsOf 70 = 3 := by kernel_rfl
theorem cells76 : Try.prog.cellsOf 76 = 6 := by kernel_rfl
theorem cells31 : Try.prog.cellsOf 31 = 2 := by kernel_rfl
theorem cells25 : Try.prog.cellsOf 25 = 3 := by kernel_rfl
theorem cells22 : Try.prog.cellsOf 22 = 1 := by kernel_rfl
theorem cells23 : Try.prog.cellsOf 23 = 1 := by kernel_rfl
theorem cells39 : Try.prog.cellsOf 39 = 1 := by kernel_rfl
theorem cells3 : Try.prog.cellsOf 3 = 1 := by kernel_rfl
theorem cells9 : Try.prog.cellsOf 9 = 1 := by kernel_rfl
variable {H : Type} {enc : TypeId × Value → H} {W : World} {sp : Nat → Bool} {held : Bool}
theorem u8_wf {n : Int} (h : (Lit.int .u8 n).wf = true) : 0 ≤ n ∧ n ≤ 255 := by
  simp only [Lit.wf, Bool.and_eq_true, decide_eq_true_eq] at h
  exact h
theorem open_span {fuel : Nat} {cs : List Value} {x : DataW H × List MemPlace} (h : DataW.trod enc Try.prog W 0 sp held fuel 31 cs = some x) : ∃ a b : Int, cs = [.int .i64 a, .int .i64 b] := by
  have hl := trod_len Try.underlying31 h
  rw [cells31] at hl
  obtain ⟨n, y, h0⟩ := trod_field Try.underlying31 h 0 3 0 1 rfl rfl rfl cells3
  obtain ⟨n1, y1, h1⟩ := trod_field Try.underlying31 h 1 3 1 1 rfl rfl rfl cells3
  match cs, hl with
  | [c0, c1], _ =>
    obtain ⟨a, e0⟩ := trod_i64 Try.underlying3 h0
    obtain ⟨b, e1⟩ := trod_i64 Try.underlying3 h1
    simp at e0 e1
    exact ⟨a, b, by rw [e0, e1]⟩
theorem open_hour (fuel : Nat) (cs : List Value) (y : DataW H × List MemPlace) (h : DataW.trod enc Try.prog W 0 sp held fuel 70 cs = some y) : ∃ f : Hour, cs = f.cells ∧ True := by
  have hl := trod_len Try.underlying70 h
  rw [cells70] at hl
  obtain ⟨_, _, h0⟩ := trod_field Try.underlying70 h 0 3 0 1 rfl rfl rfl cells3
  obtain ⟨_, _, h1⟩ := trod_field Try.underlying70 h 1 31 1 2 rfl rfl rfl cells31
  match cs, hl with
  | [c0, c1, c2], _ =>
    obtain ⟨x0, e0⟩ := trod_i64 Try.underlying3 h0
    obtain ⟨x1, x2, e1⟩ := open_span h1
    simp at e0 e1
    exact ⟨⟨x0, x1, x2⟩, by rw [e0, e1.1, e1.2]; rfl, trivial⟩
theorem open_int (fuel : Nat) (cs : List Value) (y : DataW H × List MemPlace) (h : DataW.trod enc Try.prog W 0 sp held fuel 3 cs = some y) : ∃ z : Int, cs = [.int .i64 z] ∧ True := by
  obtain ⟨z, e⟩ := trod_i64 Try.underlying3 h
  exact ⟨z, e, trivial⟩
/-- What is known of a counter that comes in. -/
structure CIn (w0 : World) (c : Ctr × AtC) : Prop where
  nm : c.1.name.size ≤ 9223372036854775807
  z : Sl w0 [] c.2.az 1 (c.1.zero.map fun x => [Value.int .i64 x])
  s : Sl w0 [] c.2.as 1 (c.1.shown.map fun x => [Value.int .i64 x])
  lz : c.1.zero.length ≤ 9223372036854775807 ∧ c.1.zero.length ≤ c.2.cz
  ls : c.1.shown.length ≤ 9223372036854775807 ∧ c.1.shown.length ≤ c.2.cs
theorem open_ctr (fuel : Nat) (cs : List Value) (y : DataW H × List MemPlace) (h : DataW.trod enc Try.prog W 0 sp held fuel 76 cs = some y) : ∃ f : Ctr × AtC, cs = f.1.cells f.2 ∧ CIn W f := by
  have hl := trod_len Try.underlying76 h
  rw [cells76] at hl
  obtain ⟨_, _, h0⟩ := trod_field Try.underlying76 h 0 9 0 1 rfl rfl rfl cells9
  obtain ⟨_, _, h1⟩ := trod_field Try.underlying76 h 1 3 1 1 rfl rfl rfl cells3
  obtain ⟨_, _, h2⟩ := trod_field Try.underlying76 h 2 3 2 1 rfl rfl rfl cells3
  obtain ⟨_, _, h3⟩ := trod_field Try.underlying76 h 3 3 3 1 rfl rfl rfl cells3
  obtain ⟨_, _, h4⟩ := trod_field Try.underlying76 h 4 39 4 1 rfl rfl rfl cells39
  obtain ⟨_, _, h5⟩ := trod_field Try.underlying76 h 5 39 5 1 rfl rfl rfl cells39
  match cs, hl with
  | [c0, c1, c2, c3, c4, c5], _ =>
    obtain ⟨s, e0, _, hs⟩ := DataW.trod_string Try.underlying9 h0
    obtain ⟨x1, e1⟩ := trod_i64 Try.underlying3 h1
    obtain ⟨x2, e2⟩ := trod_i64 Try.underlying3 h2
    obtain ⟨x3, e3⟩ := trod_i64 Try.underlying3 h3
    obtain ⟨az, cz, lz, e4, hz1, hz2, hz3, _⟩ := open_rows (row := fun z : Int => [Value.int .i64 z]) (ok := fun _ => True) Try.underlying39 cells3 (by omega) (fun _ => rfl) open_int h4
    obtain ⟨as_, cs_, ls, e5, hs1, hs2, hs3, _⟩ := open_rows (row := fun z : Int => [Value.int .i64 z]) (ok := fun _ => True) Try.underlying39 cells3 (by omega) (fun _ => rfl) open_int h5
    simp at e0 e1 e2 e3 e4 e5
    exact ⟨(⟨s, x1, x2, x3, lz, ls⟩, ⟨az, cz, as_, cs_⟩), by rw [e0, e1, e2, e3, e4, e5]; rfl, ⟨by simpa [maxLen] using hs, hz1, hs1, ⟨hz3, hz2⟩, ⟨hs3, hs2⟩⟩⟩
theorem open_board {v : Value} {d : DataW H} {ps : List MemPlace} {r : Reach} {b0 : Nat} (hval : Value.okWide Try.prog W r b0 25 v) (h : DataW.Trod enc Try.prog W 0 sp held 25 v d ps) :
    ∃ (b : Board) (p : AtB), v = .agg (b.cells p).toArray ∧ BIn W [] b p := by
  obtain ⟨xs, rfl, hsz⟩ : ∃ xs, v = .agg xs ∧ xs.size = 3 := by
    unfold Value.okWide at hval
    rw [Try.underlying25] at hval
    obtain ⟨cs, h1, h2, _⟩ := hval
    exact ⟨cs, h1, by rw [h2, cells25]⟩
  obtain ⟨fuel, hf⟩ := h
  have hf2 : DataW.trod enc Try.prog W 0 sp held fuel 25 xs.toList = some (d, ps) := hf
  obtain ⟨_, _, h0⟩ := trod_field Try.underlying25 hf2 0 3 0 1 rfl rfl rfl cells3
  obtain ⟨_, _, h1⟩ := trod_field Try.underlying25 hf2 1 22 1 1 rfl rfl rfl cells22
  obtain ⟨_, _, h2⟩ := trod_field Try.underlying25 hf2 2 23 2 1 rfl rfl rfl cells23
  obtain ⟨xl, rfl⟩ : ∃ l : List Value, xs = l.toArray := ⟨xs.toList, by simp⟩
  have hl3 : xl.length = 3 := by simpa using hsz
  match xl, hl3 with
  | [c0, c1, c2], _ =>
    obtain ⟨x0, e0⟩ := trod_i64 Try.underlying3 h0
    obtain ⟨ah, ch, lh, e1, hsh, hch, hmh, _⟩ := open_rows (row := Hour.cells) (ok := fun _ => True) Try.underlying22 cells70 (by omega) (fun _ => rfl) open_hour h1
    obtain ⟨ac, cc, lc, e2, hsc, hcc, hmc, hnc⟩ := open_rows (row := fun c : Ctr × AtC => c.1.cells c.2) (ok := CIn W) Try.underlying23 cells76 (by omega) (fun _ => rfl) open_ctr h2
    simp at e0 e1 e2
    have hk : krows (lc.map (·.1)) (fun i => (lc.getD i default).2) = lc.map fun c => c.1.cells c.2 := by
      unfold krows
      apply List.ext_getElem
      · simp
      · intro i h1 h2
        have hi : i < lc.length := by simpa using h2
        simp [List.getD, hi]
    have hat : ∀ i (hi : i < (lc.map (·.1)).length), CIn W (lc.getD i default) ∧ (lc.map (·.1))[i] = (lc.getD i default).1 := by
      intro i hi
      have hi2 : i < lc.length := by simpa using hi
      have e : lc.getD i default = lc[i] := by simp [List.getD, hi2]
      rw [e]
      exact ⟨hnc _ (List.getElem_mem hi2), by simp⟩
    refine ⟨⟨x0, lh, lc.map (·.1)⟩, ⟨ah, ch, ac, cc, fun i => (lc.getD i default).2⟩, by rw [e0, e1, e2]; simp [Board.cells], ⟨hsh, by rw [hk]; exact hsc, fun i hi => ?_, fun i hi => ?_, hmh, by simpa using hmc, hch, by simpa using hcc, fun i hi => ?_, fun i hi => ?_, fun x hx => ?_⟩⟩
    · rw [(hat i hi).2]; exact (hat i hi).1.z
    · rw [(hat i hi).2]; exact (hat i hi).1.s
    · rw [(hat i hi).2]; exact (hat i hi).1.lz
    · rw [(hat i hi).2]; exact (hat i hi).1.ls
    · obtain ⟨c, hc, rfl⟩ := List.mem_map.1 hx
      exact (hnc c hc).nm
end Go.Proofs.Ytgndnnpadkoagaa
/- Arguments of flat types, opened. No conditions. -/
set_option maxRecDepth 100000
set_option linter.unusedSimpArgs false
set_option linter.unusedVariables false
namespace Go.Proofs.Ytgndnnpadkoagaa
open Go.Rt Go.RowKit Go.ChangeShapes Go.WideShapes Go.ChangeAt
variable {H : Type} {enc : TypeId × Value → H} {W : World} {sp : Nat → Bool} {held : Bool}
theorem cel5 {fuel : Nat} {cs : List Value} {y : DataW H × List MemPlace} (h : DataW.trod enc Try.prog W 0 sp held fuel 5 cs = some y) : ∃ (x0 : Int), cs = [.int .u8 x0] ∧ (0 ≤ x0 ∧ x0 ≤ 255) := by
  obtain ⟨n, e, _, hw⟩ := DataW.trod_int Try.underlying5 h
  exact ⟨n, e, u8_wf hw⟩
theorem cells5 : Try.prog.cellsOf 5 = 1 := by kernel_rfl
end Go.Proofs.Ytgndnnpadkoagaa
/- Plain words of the chain layer: ways, step by step; what counters make of loads, as sets of numbers. No conditions. -/
set_option linter.unusedSimpArgs false
set_option linter.unusedVariables false
namespace Go.Rt.Ch
open Go.Rt.Ha
def wrows (l : List Way) : List (List Value) := l.map Way.cells
def hourOf (b : Board) (a : Nat) : Hour := b.hours.getD a ⟨0, 0, 0⟩
def waysAt (b : Board) (c a : Nat) (s : Int) : List Way := waysC (ctrOf b c) (hourOf b a) a s
theorem ctr_at {b : Board} {c : Nat} (h : c < b.ctrs.length) : ctrOf b c = b.ctrs[c] := by simp [ctrOf, List.getD, h]
theorem hour_at {b : Board} {a : Nat} (h : a < b.hours.length) : hourOf b a = b.hours[a] := by simp [hourOf, List.getD, h]
/-- The ways of the first so many of: not set to 0, set to 0. -/
def wTo (c : Ctr) (h : Hour) (a : Nat) (s : Int) : Nat → List Way
  | 0 => []
  | n + 1 => wTo c h a s n ++ waysZ c h a s (decide (n = 1))
theorem wTo_two (c : Ctr) (h : Hour) (a : Nat) (s : Int) : wTo c h a s 2 = waysC c h a s := by
  show ([] ++ waysZ c h a s (decide (0 = 1))) ++ waysZ c h a s (decide (1 = 1)) = _
  rfl
theorem wTo_no {c : Ctr} {h : Hour} {a : Nat} {s : Int} {n : Nat} (hz : canZ c a (decide (n = 1)) = false) : wTo c h a s (n + 1) = wTo c h a s n := by
  rw [wTo, waysZ, hz]; simp
def wPart (c : Ctr) (a : Nat) (s : Int) (z : Bool) (lo : Int) (q : Nat) : List Way := (upto lo q).flatMap (wayR c a s z)
theorem upto_end : ∀ (n : Nat) (lo : Int), upto lo (n + 1) = upto lo n ++ [lo + n]
  | 0, lo => by simp [upto]
  | n + 1, lo => by
    rw [upto, upto_end n (lo + 1), upto]
    simp only [List.cons_append]
    rw [show lo + 1 + (n : Int) = lo + (n + 1 : Nat) by omega]
theorem wPart_y {c : Ctr} {a : Nat} {s lo : Int} {z : Bool} {q : Nat} (h : c.shown.getD a 0 = -1 ∨ c.shown.getD a 0 = shOf s z (lo + q)) : wPart c a s z lo (q + 1) = wPart c a s z lo q ++ [⟨lo + q, shOf s z (lo + q), z⟩] := by
  unfold wPart
  rw [upto_end, List.flatMap_append]
  simp only [List.flatMap_cons, List.flatMap_nil, List.append_nil, wayR, if_pos h]
theorem wPart_n {c : Ctr} {a : Nat} {s lo : Int} {z : Bool} {q : Nat} (h : ¬ (c.shown.getD a 0 = -1 ∨ c.shown.getD a 0 = shOf s z (lo + q))) : wPart c a s z lo (q + 1) = wPart c a s z lo q := by
  unfold wPart
  rw [upto_end, List.flatMap_append]
  simp only [List.flatMap_cons, List.flatMap_nil, List.append_nil, wayR, if_neg h]
theorem wPart_len (c : Ctr) (a : Nat) (s lo : Int) (z : Bool) : ∀ q, (wPart c a s z lo q).length ≤ q
  | 0 => by simp [wPart, upto]
  | q + 1 => by
    have ih := wPart_len c a s lo z q
    by_cases h : c.shown.getD a 0 = -1 ∨ c.shown.getD a 0 = shOf s z (lo + q)
    · rw [wPart_y h, List.length_append]; simp; omega
    · rw [wPart_n h]; omega
theorem wPart_all {c : Ctr} {h : Hour} {a : Nat} {s : Int} {n q : Nat} (hz : canZ c a (decide (n = 1)) = true) (hq : q = (h.hi + c.twice + 1 - max 0 (h.lo - c.skip)).toNat) : wTo c h a s (n + 1) = wTo c h a s n ++ wPart c a s (decide (n = 1)) (max 0 (h.lo - c.skip)) q := by
  subst hq
  rw [wTo, waysZ, hz]; rfl
theorem waysZ_len {c : Ctr} {h : Hour} {a : Nat} {s : Int} {z : Bool} {n : Nat} (hc : c.Ok n) {k : Int} (hh : h.Ok k) : (waysZ c h a s z).length ≤ 10 := by
  unfold waysZ
  split
  · have := wPart_len c a s (max 0 (h.lo - c.skip)) z (h.hi + c.twice + 1 - max 0 (h.lo - c.skip)).toNat
    have h1 := hc.skip
    have h2 := hc.twice
    have h3 := hh.w
    have h4 := hh.lo
    have h5 := hh.le
    refine Nat.le_trans this ?_
    omega
  · simp
theorem wTo_len {c : Ctr} {h : Hour} {a : Nat} {s : Int} {n : Nat} (hc : c.Ok n) {k : Int} (hh : h.Ok k) : ∀ m, (wTo c h a s m).length ≤ 10 * m
  | 0 => by simp [wTo]
  | m + 1 => by
    have ih := wTo_len (a := a) (s := s) hc hh m
    have := waysZ_len (a := a) (s := s) (z := decide (m = 1)) hc hh
    rw [wTo, List.length_append]; omega
theorem canZ_n {c : Ctr} {a n : Nat} (hn : n < 2) (h : (n = 0 ∧ c.zero.getD a 0 = 1) ∨ (n = 1 ∧ c.zero.getD a 0 = 0)) : canZ c a (decide (n = 1)) = false := by
  unfold canZ
  rcases h with ⟨h1, h2⟩ | ⟨h1, h2⟩
  · subst h1; simp only [show decide (0 = 1) = false from rfl, Bool.false_eq_true, if_false]; simp only [h2]; rfl
  · subst h1; simp only [show decide (1 = 1) = true from rfl, if_true]; simp only [h2]; rfl
theorem canZ_y {c : Ctr} {a n : Nat} (hn : n < 2) (h : ¬ ((n = 0 ∧ c.zero.getD a 0 = 1) ∨ (n = 1 ∧ c.zero.getD a 0 = 0))) : canZ c a (decide (n = 1)) = true := by
  unfold canZ
  by_cases e : n = 1
  · subst e
    rw [decide_eq_true rfl, if_pos rfl, decide_eq_true_eq]
    intro h2; exact h (.inr ⟨rfl, h2⟩)
  · rw [decide_eq_false e, if_neg (by simp), decide_eq_true_eq]
    intro h2; exact h (.inl ⟨by omega, h2⟩)
theorem sh_mul {s k : Int} {n : Nat} (hn : n < 2) : (s * (1 - (n : Int)) + k) % 100 = shOf s (decide (n = 1)) k := by
  unfold shOf
  by_cases e : n = 1
  · subst e; simp
  · have : n = 0 := by omega
    subst this; simp
theorem mul_in {s : Int} {n : Nat} (hn : n < 2) (hs : 0 ≤ s ∧ s < 100) : 0 ≤ s * (1 - (n : Int)) ∧ s * (1 - (n : Int)) < 100 := by
  by_cases e : n = 1
  · subst e; simp
  · have : n = 0 := by omega
    subst this; simp; omega
end Go.Rt.Ch
/- Plain words of the chain layer: what counters make of loads, as sets of numbers. No conditions. -/
set_option linter.unusedSimpArgs false
set_option linter.unusedVariables false
namespace Go.Rt.Ch
open Go.Rt.Ha
/-- What a way makes of a counter that stands so. -/
def kOne (l : List Int) (q : Quest) (k : Nat) (t : Int) (w : Way) : Int := w.shows + if decide (100 ≤ t) || q k (ld l k) w then 100 else 0
def kFit (c : Ctr) (l : List Int) (k : Nat) (w : Way) : Prop := 0 - c.skip ≤ w.counts - ld l k ∧ w.counts - ld l k ≤ c.twice
def GoodL (c : Ctr) (l : List Int) (q : Quest) (k : Nat) (t : Int) (ws : List Way) (z : Int) : Prop := ∃ w ∈ ws, kFit c l k w ∧ z = kOne l q k t w
def Good (c : Ctr) (h : Hour) (l : List Int) (q : Quest) (k : Nat) (z t : Int) : Prop := GoodL c l q k t (waysC c h k (t % 100)) z
def KeysOf (ks : List Int) (xs : List (Int × Bool)) : Prop := ∀ z, z ∈ ks ↔ ∃ x ∈ xs, enc x = z
theorem good_zero (c : Ctr) (l : List Int) (q : Quest) (k : Nat) (t : Int) (ws : List Way) (z : Int) : ¬ GoodL c l q k t (ws.take 0) z := by rintro ⟨w, h, _⟩; simp at h
theorem good_no {c : Ctr} {l : List Int} {q : Quest} {k : Nat} {t : Int} {ws : List Way} {j : Nat} (hj : j < ws.length) (h : ¬ kFit c l k ws[j]) (z : Int) : GoodL c l q k t (ws.take (j + 1)) z ↔ GoodL c l q k t (ws.take j) z := by
  rw [List.take_succ_eq_append_getElem hj]
  unfold GoodL
  constructor
  · rintro ⟨w, hw, h1, h2⟩
    rcases List.mem_append.1 hw with hw | hw
    · exact ⟨w, hw, h1, h2⟩
    · rw [List.mem_singleton] at hw; subst hw; exact absurd h1 h
  · rintro ⟨w, hw, h1, h2⟩; exact ⟨w, List.mem_append_left _ hw, h1, h2⟩
theorem good_yes {c : Ctr} {l : List Int} {q : Quest} {k : Nat} {t : Int} {ws : List Way} {j : Nat} (hj : j < ws.length) (h : kFit c l k ws[j]) (z : Int) : GoodL c l q k t (ws.take (j + 1)) z ↔ GoodL c l q k t (ws.take j) z ∨ z = kOne l q k t ws[j] := by
  rw [List.take_succ_eq_append_getElem hj]
  unfold GoodL
  constructor
  · rintro ⟨w, hw, h1, h2⟩
    rcases List.mem_append.1 hw with hw | hw
    · exact .inl ⟨w, hw, h1, h2⟩
    · rw [List.mem_singleton] at hw; subst hw; exact .inr h2
  · rintro (⟨w, hw, h1, h2⟩ | h2)
    · exact ⟨w, List.mem_append_left _ hw, h1, h2⟩
    · exact ⟨_, List.mem_append_right _ (.head _), h, h2⟩
theorem good_all (c : Ctr) (l : List Int) (q : Quest) (k : Nat) (t : Int) (ws : List Way) (z : Int) {j : Nat} (hj : ws.length ≤ j) : GoodL c l q k t (ws.take j) z ↔ GoodL c l q k t ws z := by rw [List.take_of_length_le hj]
theorem keys_zero (c : Ctr) (l : List Int) (q : Quest) : KeysOf [c.start] (fareTo c l q 0) := by
  intro z
  rw [List.mem_singleton]
  constructor
  · rintro rfl; exact ⟨_, .head _, by unfold enc; simp⟩
  · rintro ⟨x, hx, rfl⟩
    simp only [fareTo, List.mem_singleton] at hx
    subst hx; unfold enc; simp
theorem keys_next {c : Ctr} {n : Nat} (hc : c.Ok n) {h : Hour} {l : List Int} {q : Quest} {k : Nat} (hl : h.lo ≤ ld l k ∧ ld l k ≤ h.hi) (h0 : 0 ≤ h.lo) {ks nx : List Int} (hk : KeysOf ks (fareTo c l q k)) (hn : ∀ z, z ∈ nx ↔ ∃ t ∈ ks, Good c h l q k z t) : KeysOf nx (fareTo c l q (k + 1)) := by
  intro z
  rw [hn]
  constructor
  · rintro ⟨t, ht, w, hw, h1, h2⟩
    obtain ⟨x, hx, rfl⟩ := (hk t).1 ht
    have hr := fare_in hc k hx
    rw [enc_mod hr] at hw
    refine ⟨(w.shows, x.2 || q k (ld l k) w), ?_, ?_⟩
    · simp only [fareTo, List.mem_flatMap, List.mem_map]
      exact ⟨x, hx, w, (steps_ways hl h0).2 ⟨hw, h1⟩, rfl⟩
    · rw [h2]
      unfold kOne enc
      simp only
      have : decide (100 ≤ x.1 + if x.2 = true then 100 else 0) = x.2 := by
        have := enc_ge hr
        unfold enc at this
        rw [Bool.eq_iff_iff, decide_eq_true_eq]; exact this
      rw [this]
  · rintro ⟨x, hx, rfl⟩
    simp only [fareTo, List.mem_flatMap, List.mem_map] at hx
    obtain ⟨y, hy, w, hw, rfl⟩ := hx
    have hr := fare_in hc k hy
    have hsw := (steps_ways (c := c) (h := h) (a := k) (s := y.1) hl h0).1 hw
    refine ⟨enc y, (hk _).2 ⟨y, hy, rfl⟩, w, by rw [enc_mod hr]; exact hsw.1, hsw.2, ?_⟩
    unfold kOne
    have : decide (100 ≤ enc y) = y.2 := by rw [Bool.eq_iff_iff, decide_eq_true_eq]; exact enc_ge hr
    rw [this]
    rfl
theorem keys_in {c : Ctr} {n : Nat} (hc : c.Ok n) {l : List Int} {q : Quest} {k : Nat} {ks : List Int} (hk : KeysOf ks (fareTo c l q k)) {z : Int} (hz : z ∈ ks) : 0 ≤ z ∧ z < 200 := by
  obtain ⟨x, hx, rfl⟩ := (hk z).1 hz
  have := fare_in hc k hx
  unfold enc
  split <;> omega
theorem keys_not {c : Ctr} {n : Nat} (hc : c.Ok n) {l : List Int} {q : Quest} {k : Nat} {ks : List Int} (hk : KeysOf ks (fareTo c l q k)) : (ks.any fun z => decide (z < 100)) = notF c l q k := by
  unfold notF
  rw [Bool.eq_iff_iff, List.any_eq_true, List.any_eq_true]
  constructor
  · rintro ⟨z, hz, h⟩
    obtain ⟨x, hx, rfl⟩ := (hk z).1 hz
    have h2 := enc_ge (fare_in hc k hx)
    refine ⟨x, hx, ?_⟩
    cases hb : x.2 with
    | false => rfl
    | true => have := h2.2 hb; simp at h; omega
  · rintro ⟨x, hx, h⟩
    have h2 := enc_ge (fare_in hc k hx)
    refine ⟨enc x, (hk _).2 ⟨x, hx, rfl⟩, ?_⟩
    simp only [decide_eq_true_eq]
    refine Int.not_le.1 fun h3 => ?_
    rw [h2.1 h3] at h; cases h
theorem keys_met {c : Ctr} {n : Nat} (hc : c.Ok n) {l : List Int} {q : Quest} {k : Nat} {ks : List Int} (hk : KeysOf ks (fareTo c l q k)) : (ks.any fun z => decide (100 ≤ z)) = metF c l q k := by
  unfold metF
  rw [Bool.eq_iff_iff, List.any_eq_true, List.any_eq_true]
  constructor
  · rintro ⟨z, hz, h⟩
    obtain ⟨x, hx, rfl⟩ := (hk z).1 hz
    exact ⟨x, hx, (enc_ge (fare_in hc k hx)).1 (by simpa using h)⟩
  · rintro ⟨x, hx, h⟩
    exact ⟨enc x, (hk _).2 ⟨x, hx, rfl⟩, by simpa using (enc_ge (fare_in hc k hx)).2 h⟩
theorem ways_len {c : Ctr} {h : Hour} {a : Nat} {s : Int} {n : Nat} (hc : c.Ok n) {k : Int} (hh : h.Ok k) : (waysC c h a s).length ≤ 20 := by
  have := wTo_len (a := a) (s := s) hc hh 2
  rw [wTo_two] at this; exact this
end Go.Rt.Ch
/- Plain laws of maps as lists: what is left of a range, values that are ints. No conditions. -/
set_option linter.unusedSimpArgs false
set_option linter.unusedVariables false
set_option linter.unusedSectionVars false
namespace Go.Rt
open Go.RowKit
section
variable {α : Type} [DecidableEq α]
/-- How many entries have not been handed out. -/
def remN (es : List (α × Value × Nat)) (seen : Array Nat) : Nat := (es.filter fun r => !decide (r.2.2 ∈ seen.toList)).length
theorem rem_zero (es : List (α × Value × Nat)) : remN es #[] = es.length := by
  unfold remN
  rw [List.filter_eq_self.2 (by intro a _; simp)]
theorem rem_le (es : List (α × Value × Nat)) (seen : Array Nat) : remN es seen ≤ es.length := List.length_filter_le _ _
theorem rem_push : ∀ {es : List (α × Value × Nat)} {seen : Array Nat} {q : α × Value × Nat}, (es.map (·.2.2)).Nodup → q ∈ es → q.2.2 ∉ seen.toList → remN es (seen.push q.2.2) + 1 = remN es seen
  | [], _, _, _, h, _ => by cases h
  | x :: es, seen, q, hn, hq, hs => by
    rw [List.map_cons, List.nodup_cons] at hn
    have hnot : ∀ r ∈ es, r.2.2 ≠ x.2.2 := fun r hr e => hn.1 (by rw [← e]; exact List.mem_map_of_mem (f := fun r : α × Value × Nat => r.2.2) hr)
    unfold remN
    by_cases e : q.2.2 = x.2.2
    · have h1 : (es.filter fun r => !decide (r.2.2 ∈ (seen.push q.2.2).toList)) = es.filter fun r => !decide (r.2.2 ∈ seen.toList) := by
        refine List.filter_congr fun r hr => ?_
        have := hnot r hr
        rw [← e] at this
        simp [this]
      rw [List.filter_cons, List.filter_cons, if_neg (by simp [e]), if_pos (by rw [← e]; simpa using hs), h1, List.length_cons]
    · have hq2 : q ∈ es := by
        rcases List.mem_cons.1 hq with rfl | h
        · exact absurd rfl e
        · exact h
      have ih := rem_push hn.2 hq2 hs
      unfold remN at ih
      have hx : (!decide (x.2.2 ∈ (seen.push q.2.2).toList)) = !decide (x.2.2 ∈ seen.toList) := by
        have : x.2.2 ≠ q.2.2 := fun h => e h.symm
        simp [this]
      rw [List.filter_cons, List.filter_cons, hx]
      split
      · rw [List.length_cons, List.length_cons]; omega
      · exact ih
/-- The entries that have been handed out, with one more. -/
theorem seen_push {es : List (α × Value × Nat)} {seen : Array Nat} {q : α × Value × Nat} (hn : (es.map (·.2.2)).Nodup) (hq : q ∈ es) (G : α → Prop) :
    (∃ r ∈ es, r.2.2 ∈ (seen.push q.2.2).toList ∧ G r.1) ↔ (∃ r ∈ es, r.2.2 ∈ seen.toList ∧ G r.1) ∨ G q.1 := by
  have inj : ∀ {es : List (α × Value × Nat)}, (es.map (·.2.2)).Nodup → ∀ a ∈ es, ∀ b ∈ es, a.2.2 = b.2.2 → a = b := by
    intro es
    induction es with
    | nil => intro _ a h; cases h
    | cons x es ih =>
      intro hn a ha b hb e
      rw [List.map_cons, List.nodup_cons] at hn
      have hnot : ∀ r ∈ es, r.2.2 ≠ x.2.2 := fun r hr e => hn.1 (by rw [← e]; exact List.mem_map_of_mem (f := fun r : α × Value × Nat => r.2.2) hr)
      rcases List.mem_cons.1 ha with ea | ha2
      · rcases List.mem_cons.1 hb with eb | hb2
        · rw [ea, eb]
        · exact absurd (by rw [← ea]; exact e.symm) (hnot b hb2)
      · rcases List.mem_cons.1 hb with eb | hb2
        · exact absurd (by rw [← eb]; exact e) (hnot a ha2)
        · exact ih hn.2 a ha2 b hb2 e
  constructor
  · rintro ⟨r, hr, hs, hG⟩
    rw [Array.toList_push, List.mem_append, List.mem_singleton] at hs
    rcases hs with hs | hs
    · exact .inl ⟨r, hr, hs, hG⟩
    · right
      have := inj hn r hr q hq hs
      subst this; exact hG
  · rintro (⟨r, hr, hs, hG⟩ | hG)
    · exact ⟨r, hr, by rw [Array.toList_push]; exact List.mem_append_left _ hs, hG⟩
    · exact ⟨q, hq, by simp, hG⟩
/-- A map's value that is an int; 0 where there is none. -/
def valA (a : α) (l : List (α × Value × Nat)) : Int := match getA a l with | some (.int _ z) => z | _ => 0
/-- A map's values are ints, from 0 to a number. -/
def IntsTo (B : Int) (l : List (α × Value × Nat)) : Prop := ∀ q ∈ l, ∃ z : Int, q.2.1 = .int .i64 z ∧ 0 ≤ z ∧ z ≤ B
theorem getA_in {a : α} {u : Value} : ∀ {l : List (α × Value × Nat)}, getA a l = some u → ∃ q ∈ l, q.1 = a ∧ q.2.1 = u
  | [], h => by simp [getA] at h
  | q :: l, h => by
    by_cases e : q.1 = a
    · simp only [getA, if_pos e] at h
      exact ⟨q, .head _, e, by simpa using h⟩
    · simp only [getA, if_neg e] at h
      obtain ⟨x, hx, h1, h2⟩ := getA_in h
      exact ⟨x, .tail _ hx, h1, h2⟩
theorem valA_in {B : Int} {l : List (α × Value × Nat)} (h : IntsTo B l) (hB : 0 ≤ B) (a : α) : 0 ≤ valA a l ∧ valA a l ≤ B := by
  unfold valA
  cases hg : getA a l with
  | none => exact ⟨Int.le_refl _, hB⟩
  | some u =>
    obtain ⟨q, hq, _, h2⟩ := getA_in hg
    obtain ⟨z, h3, h4⟩ := h q hq
    rw [← h2, h3]; exact h4
theorem IntsTo.put {B B' : Int} {l : List (α × Value × Nat)} (h : IntsTo B l) (hB : B ≤ B') {a : α} {z : Int} (hz : 0 ≤ z ∧ z ≤ B') (ck : Nat) : IntsTo B' (putA a (.int .i64 z) ck l) := by
  intro q hq
  rcases mem_putA hq with ⟨_, h2⟩ | h2
  · exact ⟨z, h2, hz⟩
  · obtain ⟨y, h3, h4⟩ := h q h2
    exact ⟨y, h3, by omega⟩
theorem IntsTo.le {B B' : Int} {l : List (α × Value × Nat)} (h : IntsTo B l) (hB : B ≤ B') : IntsTo B' l := fun q hq => by
  obtain ⟨y, h3, h4⟩ := h q hq
  exact ⟨y, h3, by omega⟩
end
/-- So many numbers, each once, from 0 to below a number. -/
theorem nodup_bound : ∀ (n : Nat) (l : List Int), l.Nodup → (∀ z ∈ l, 0 ≤ z ∧ z < (n : Int)) → l.length ≤ n
  | 0, l, _, h => by
    cases l with
    | nil => simp
    | cons z l => have := h z (.head _); omega
  | n + 1, l, hn, h => by
    by_cases hm : (n : Int) ∈ l
    · have h1 := nodup_bound n (l.erase n) (hn.erase _) fun z hz => by
        have h2 := List.mem_of_mem_erase hz
        have h3 := h z h2
        have h4 : z ≠ (n : Int) := fun e => by
          subst e
          exact (List.Nodup.not_mem_erase hn) hz
        omega
      have h2 := List.length_erase_of_mem hm
      have h3 : 0 < l.length := List.length_pos_of_mem hm
      omega
    · have := nodup_bound n l hn fun z hz => by
        have h3 := h z hz
        have : z ≠ (n : Int) := fun e => hm (e ▸ hz)
        omega
      omega
section
variable {P : Program} {n : Nat} {ρ : Nat → Value} {ds : List Deferred} {w w0 : World} {L : List (Nat × Obj)} {d : Option Tmp} {ty : TypeId} {p : String} {e : Array Edge} {g : Option (Nat × Bool)} {α : Type} [DecidableEq α] {kv : α → Value} {ok : α → Prop}
/-- A lookup in a map of ints. -/
theorem G_lookI {mt kt el : TypeId} {x y : Operand} {a : α} {l : List (α × Value × Nat)} {m i ck : Nat} {B : Int} (hU : P.underlying mt = some (.map kt el)) (hK : KeyG P kt kv ok) (hok : ok a) (hall : ∀ q ∈ l, ok q.1) (hB : IntsTo B l)
    (hz : ∀ w, (zeroValue el).run P w = .ok (.int .i64 0) w) (hst : St w0 w L) (ho : okO n x = true) (ho1 : okO n y = true) (hx : ev ρ x = .map (some m)) (hy : ev ρ y = kv a) (hi : L[i]? = some (m, .map (ents kv l).toArray ck)) :
    Yd P (A n ρ ds) ⟨d, .lookup mt x y false, ty, p, e, g⟩ w (.int .i64 (valA a l)) := by
  cases hg : getA a l with
  | none =>
    have := G_look1N (d := d) (ty := ty) (p := p) (e := e) (g := g) (ds := ds) hU hK hok hall hz hst ho ho1 hx hy hi hg
    unfold valA; rw [hg]; exact this
  | some u =>
    have := G_look1S (d := d) (ty := ty) (p := p) (e := e) (g := g) (ds := ds) hU hK hok hall hst ho ho1 hx hy hi hg
    obtain ⟨q, hq, _, h2⟩ := getA_in hg
    obtain ⟨z, h3, _⟩ := hB q hq
    unfold valA; rw [hg, ← h2, h3]
    rw [← h2, h3] at this
    exact this
end
end Go.Rt
/- Plain words of the chain layer: keys of what comes next, one way more. No conditions. -/
set_option linter.unusedSimpArgs false
set_option linter.unusedVariables false
namespace Go.Rt.Ch
open Go.Rt.Ha
abbrev kvI : Int → Value := fun z => Value.int .i64 z
theorem fit_of {l : List Int} {c : Ctr} {k : Nat} {w : Way} (h : [w.counts - l.getD k 0].any (out (-c.skip) c.twice) = false) : kFit c l k w := by
  simp only [List.any_cons, List.any_nil, Bool.or_false] at h
  have := out_f.1 h
  unfold kFit ld; omega
theorem fit_not {l : List Int} {c : Ctr} {k : Nat} {w : Way} (h : [w.counts - l.getD k 0].any (out (-c.skip) c.twice) = true) : ¬ kFit c l k w := by
  simp only [List.any_cons, List.any_nil, Bool.or_false] at h
  intro hk
  rw [out_f.2 (by unfold kFit ld at hk; omega)] at h; cases h
theorem keys_yes {c : Ctr} {l : List Int} {q : Quest} {k : Nat} {t : Int} {ws : List Way} {j : Nat} {ks ks' : List Int} {A : Int → Prop} {y : Int} (h : ∀ z, z ∈ ks ↔ A z ∨ GoodL c l q k t (ws.take j) z) (hj : j < ws.length) (hf : kFit c l k ws[j]) (hy : y = kOne l q k t ws[j]) (hk : ∀ z, z ∈ ks' ↔ z = y ∨ z ∈ ks) : ∀ z, z ∈ ks' ↔ A z ∨ GoodL c l q k t (ws.take (j + 1)) z := by
  intro z
  rw [hk, h, good_yes hj hf, hy]
  constructor
  · rintro (h | h | h)
    · exact .inr (.inr h)
    · exact .inl h
    · exact .inr (.inl h)
  · rintro (h | h | h)
    · exact .inr (.inl h)
    · exact .inr (.inr h)
    · exact .inl h
theorem keys_no {c : Ctr} {l : List Int} {q : Quest} {k : Nat} {t : Int} {ws : List Way} {j : Nat} {ks : List Int} {A : Int → Prop} (h : ∀ z, z ∈ ks ↔ A z ∨ GoodL c l q k t (ws.take j) z) (hj : j < ws.length) (hf : ¬ kFit c l k ws[j]) : ∀ z, z ∈ ks ↔ A z ∨ GoodL c l q k t (ws.take (j + 1)) z := by
  intro z; rw [h, good_no hj hf]
theorem kone_a {l : List Int} {q : Quest} {k : Nat} {t : Int} {w : Way} (h : 100 ≤ t) : w.shows + 100 = kOne l q k t w := by unfold kOne; rw [decide_eq_true h]; rfl
theorem kone_b {l : List Int} {q : Quest} {k : Nat} {t : Int} {w : Way} (h : q k (ld l k) w = true) : w.shows + 100 = kOne l q k t w := by unfold kOne; rw [h, Bool.or_true]; rfl
theorem kone_c {l : List Int} {q : Quest} {k : Nat} {t : Int} {w : Way} (h1 : t < 100) (h : q k (ld l k) w = false) : w.shows = kOne l q k t w := by unfold kOne; rw [h, decide_eq_false (by omega)]; simp
theorem keys_start {c : Ctr} {l : List Int} {q : Quest} {k : Nat} {t : Int} {ws : List Way} {ks : List Int} {A : Int → Prop} (h : ∀ z, z ∈ ks ↔ A z) : ∀ z, z ∈ ks ↔ A z ∨ GoodL c l q k t (ws.take 0) z := by
  intro z; rw [h]
  exact ⟨.inl, fun h => h.resolve_right (good_zero c l q k t ws z)⟩
/-- One entry of what is now has been gone through. -/
theorem keys_round {c : Ctr} {h : Hour} {l : List Int} {q : Quest} {k : Nat} {es : List (Int × Value × Nat)} {seen : Array Nat} {r : Int × Value × Nat} {ks : List Int} {j : Nat} (hn : (es.map (·.2.2)).Nodup) (hr : r ∈ es) (hj : (waysC c h k (r.1 % 100)).length ≤ j)
    (hk : ∀ z, z ∈ ks ↔ (∃ x ∈ es, x.2.2 ∈ seen.toList ∧ Good c h l q k z x.1) ∨ GoodL c l q k r.1 ((waysC c h k (r.1 % 100)).take j) z) : ∀ z, z ∈ ks ↔ ∃ x ∈ es, x.2.2 ∈ (seen.push r.2.2).toList ∧ Good c h l q k z x.1 := by
  intro z
  rw [hk, seen_push hn hr (fun t => Good c h l q k z t), good_all _ _ _ _ _ _ _ hj]; rfl
theorem keys_end {c : Ctr} {n : Nat} (hc : c.Ok n) {h : Hour} {l : List Int} {q : Quest} {k : Nat} (hl : h.lo ≤ ld l k ∧ ld l k ≤ h.hi) (h0 : 0 ≤ h.lo) {es : List (Int × Value × Nat)} {seen : Array Nat} {nx : List Int} (hk : KeysOf (es.map (·.1)) (fareTo c l q k)) (hall : ∀ x ∈ es, x.2.2 ∈ seen.toList)
    (hn : ∀ z, z ∈ nx ↔ ∃ x ∈ es, x.2.2 ∈ seen.toList ∧ Good c h l q k z x.1) : KeysOf nx (fareTo c l q (k + 1)) := by
  refine keys_next hc hl h0 hk fun z => ?_
  rw [hn]
  constructor
  · rintro ⟨x, hx, _, hg⟩; exact ⟨x.1, List.mem_map_of_mem (f := fun x : Int × Value × Nat => x.1) hx, hg⟩
  · rintro ⟨t, ht, hg⟩
    obtain ⟨x, hx, rfl⟩ := List.mem_map.1 ht
    exact ⟨x, hx, hall x hx, hg⟩
theorem keys_many {c : Ctr} {n : Nat} (hc : c.Ok n) {l : List Int} {q : Quest} {k : Nat} {es : List (Int × Value × Nat)} (hn : (es.map (·.1)).Nodup) (hk : KeysOf (es.map (·.1)) (fareTo c l q k)) : es.length ≤ 200 := by
  have := nodup_bound 200 (es.map (·.1)) hn fun z hz => keys_in hc hk hz
  rwa [List.length_map] at this
theorem key_in {c : Ctr} {n : Nat} (hc : c.Ok n) {l : List Int} {q : Quest} {k : Nat} {es : List (Int × Value × Nat)} (hk : KeysOf (es.map (·.1)) (fareTo c l q k)) {r : Int × Value × Nat} (hr : r ∈ es) : 0 ≤ r.1 ∧ r.1 < 200 := keys_in hc hk (List.mem_map_of_mem (f := fun x : Int × Value × Nat => x.1) hr)
theorem not_end {c : Ctr} {n : Nat} (hc : c.Ok n) {l : List Int} {q : Quest} {k : Nat} {es : List (Int × Value × Nat)} {seen : Array Nat} (hk : KeysOf (es.map (·.1)) (fareTo c l q k)) (hall : ∀ x ∈ es, x.2.2 ∈ seen.toList) {x : Bool} (hx : x = true ↔ ∃ r ∈ es, r.2.2 ∈ seen.toList ∧ r.1 < 100) : x = notF c l q k := by
  rw [← keys_not hc hk, Bool.eq_iff_iff, hx, List.any_eq_true]
  constructor
  · rintro ⟨r, hr, _, h⟩; exact ⟨r.1, List.mem_map_of_mem (f := fun x : Int × Value × Nat => x.1) hr, by simpa using h⟩
  · rintro ⟨t, ht, h⟩
    obtain ⟨r, hr, rfl⟩ := List.mem_map.1 ht
    exact ⟨r, hr, hall r hr, by simpa using h⟩
theorem met_end {c : Ctr} {n : Nat} (hc : c.Ok n) {l : List Int} {q : Quest} {k : Nat} {es : List (Int × Value × Nat)} {seen : Array Nat} (hk : KeysOf (es.map (·.1)) (fareTo c l q k)) (hall : ∀ x ∈ es, x.2.2 ∈ seen.toList) {x : Bool} (hx : x = true ↔ ∃ r ∈ es, r.2.2 ∈ seen.toList ∧ 100 ≤ r.1) : x = metF c l q k := by
  rw [← keys_met hc hk, Bool.eq_iff_iff, hx, List.any_eq_true]
  constructor
  · rintro ⟨r, hr, _, h⟩; exact ⟨r.1, List.mem_map_of_mem (f := fun x : Int × Value × Nat => x.1) hr, by simpa using h⟩
  · rintro ⟨t, ht, h⟩
    obtain ⟨r, hr, rfl⟩ := List.mem_map.1 ht
    exact ⟨r, hr, hall r hr, by simpa using h⟩
theorem seen_or {es : List (Int × Value × Nat)} {seen : Array Nat} {r : Int × Value × Nat} (hn : (es.map (·.2.2)).Nodup) (hr : r ∈ es) (G : Int → Prop) {x y : Bool} (hx : x = true ↔ ∃ r ∈ es, r.2.2 ∈ seen.toList ∧ G r.1) (hy : y = true ↔ x = true ∨ G r.1) : y = true ↔ ∃ x ∈ es, x.2.2 ∈ (seen.push r.2.2).toList ∧ G x.1 := by
  rw [seen_push hn hr G, hy, hx]
theorem seen_none {es : List (Int × Value × Nat)} (G : Int → Prop) : (false = true) ↔ ∃ r ∈ es, r.2.2 ∈ (#[] : Array Nat).toList ∧ G r.1 := by simp
theorem keys_none {es : List (Int × Value × Nat)} (G : Int → Int → Prop) : ∀ z, z ∈ ([] : List (Int × Value × Nat)).map (·.1) ↔ ∃ x ∈ es, x.2.2 ∈ (#[] : Array Nat).toList ∧ G z x.1 := by intro z; simp
theorem mok_one {v : Value} {a : Int} : MOk (putA a v 0 []) (if idxA a ([] : List (Int × Value × Nat)) 0 = none then 0 + 1 else 0) := mok_nil.put a v
theorem ints_nil {B : Int} : IntsTo B ([] : List (Int × Value × Nat)) := by intro q h; cases h
end Go.Rt.Ch
/- Plain laws of the hand layer: Check as the reference has it; a lot that is told by a way. No conditions. -/
set_option linter.unusedSimpArgs false
set_option linter.unusedVariables false
namespace Go.Rt.Ha
def bunchR (b : Bunch) : Int := if ends b.lo b.hi 1 12 = 7 ∨ ends b.slo b.shi 0 9 = 7 then 7 else if ends b.lo b.hi 1 12 ≠ 0 ∨ ends b.slo b.shi 0 9 ≠ 0 ∨ 3 < b.hi - b.lo then 2 else 0
def allN : Nat → Int
  | 0 => 0
  | k + 1 => 2 * allN k + 1
/-! ### A lot whose counts are those of a way -/
def toldC (h : List Int) (c : Count) : Count := { c with hands := counted c.bits.toNat 0 h }
def told (l : Lot) (h : List Int) : Lot := { l with counts := l.counts.map (toldC h) }
theorem failE_iff {α : Type} {err : List α → α → Int} {lo most : Int} {l : List α} : (failE err lo most l).2 = 0 ↔ (lo ≤ l.length ∧ (l.length : Int) ≤ most) ∧ ∀ k (h : k < l.length), err (l.take k) l[k] = 0 := by
  constructor
  · exact failE_zero
  · rintro ⟨h1, h2⟩
    unfold failE
    rw [if_neg (by unfold out; simp; omega)]
    have key : ∀ (r b : List α) (i : Int), b ++ r = l → (firstE err b i r).2 = 0 := by
      intro r
      induction r with
      | nil => intro b i _; rfl
      | cons x r ih =>
        intro b i hb
        have h3 := h2 b.length (by rw [← hb]; simp)
        have e1 : l.take b.length = b := by rw [← hb]; simp
        have e2 : l[b.length]'(by rw [← hb]; simp) = x := by subst hb; simp
        rw [e1, e2] at h3
        unfold firstE
        rw [if_pos h3]
        exact ih (b ++ [x]) _ (by rw [← hb]; simp)
    exact key l [] 0 rfl
theorem check_iff {l : Lot} : (check l).2.2 = 0 ↔ (failE gradeE 1 4 l.grades).2 = 0 ∧ (failE bunchE 0 6 l.bunches).2 = 0 ∧ (failE (countE l.bunches.length) 0 4 l.counts).2 = 0 := by
  constructor
  · exact check_parts
  · rintro ⟨h1, h2, h3⟩
    unfold check
    rw [if_neg (by simp [h1]), if_neg (by simp [h2]), if_neg (by simp [h3])]
end Go.Rt.Ha
/- Plain words of the hand layer: all ways, as they are yielded one after the other, filled up to six numbers. No conditions. -/
set_option linter.unusedSimpArgs false
set_option linter.unusedVariables false
namespace Go.Rt.Ha
def pad6 (h : List Int) : List Int := h ++ List.replicate (6 - h.length) 0
/-! ### Ways that begin so -/
def segW (l : Lot) (but d : Nat) (pre : List Int) : List (List Int) := (((felt (l.bunches.drop d)).map (pre ++ ·)).filter fun h => soFrom but h 0 l.counts).map pad6
def restW (l : Lot) (but d : Nat) (pre : List Int) (xs : List Int) : List (List Int) := xs.flatMap fun x => segW l but (d + 1) (pre ++ [x])
theorem upto_step {lo : Int} {k n : Nat} (h : k < n) : upto (lo + k) (n - k) = (lo + k) :: upto (lo + (k + 1 : Nat)) (n - (k + 1)) := by
  rw [show n - k = (n - (k + 1)) + 1 by omega, upto, show lo + (k : Int) + 1 = lo + (k + 1 : Nat) by omega]
/-! ### Each way once -/
theorem upto_nodup : ∀ (n : Nat) (lo : Int), (upto lo n).Nodup
  | 0, _ => by simp [upto]
  | n + 1, lo => by
    simp only [upto, List.nodup_cons]
    exact ⟨fun h => by have := (upto_mem n (lo + 1) lo).1 h; omega, upto_nodup n (lo + 1)⟩
theorem felt_nodup : ∀ bs : List Bunch, (felt bs).Nodup
  | [] => by simp [felt]
  | b :: bs => by
    have ih := felt_nodup bs
    have key : ∀ xs : List Int, xs.Nodup → (xs.flatMap fun n => (felt bs).map (n :: ·)).Nodup := by
      intro xs
      induction xs with
      | nil => intro _; simp
      | cons x xs ihx =>
        intro hn
        rw [List.nodup_cons] at hn
        rw [List.flatMap_cons, List.nodup_append]
        refine ⟨by unfold List.Nodup; rw [List.pairwise_map]; exact List.Pairwise.imp (fun h e => h (by simpa using e)) ih, ihx hn.2, ?_⟩
        intro a ha b hb hab
        obtain ⟨u, _, rfl⟩ := List.mem_map.1 ha
        obtain ⟨y, hy, hb⟩ := List.mem_flatMap.1 hb
        obtain ⟨v, _, rfl⟩ := List.mem_map.1 hb
        injection hab with h1 h2
        subst h1
        exact hn.1 hy
    exact key _ (upto_nodup _ _)
/-! ### Lists that are gone through -/
theorem drop_lt {α : Type} {l : List α} {i : Nat} {x : α} {r : List α} (h : l.drop i = x :: r) : i < l.length := by
  rcases Nat.lt_or_ge i l.length with h1 | h1
  · exact h1
  · rw [List.drop_of_length_le h1] at h; cases h
theorem drop_get {α : Type} {l : List α} {i : Nat} {x : α} {r : List α} (h : l.drop i = x :: r) : l[i]'(drop_lt h) = x := by
  rw [List.drop_eq_getElem_cons (drop_lt h)] at h
  injection h
theorem drop_next {α : Type} {l : List α} {i : Nat} {x : α} {r : List α} (h : l.drop i = x :: r) : l.drop (i + 1) = r := by
  rw [List.drop_eq_getElem_cons (drop_lt h)] at h
  injection h
theorem drop_done {α : Type} {l : List α} {i : Nat} (hi : i ≤ l.length) (h : l.drop i = []) : i = l.length := by
  have := congrArg List.length h; simp at this; omega
theorem drop_notin {α : Type} {l : List α} {i : Nat} {x : α} {r : List α} (hn : l.Nodup) (h : l.drop i = x :: r) : x ∉ r := by
  have h1 : (l.drop i).Nodup := List.Sublist.nodup (List.drop_sublist _ _) hn
  rw [h, List.nodup_cons] at h1; exact h1.1
/-! ### Numbers set in a list of six -/
theorem set_take {cur pre : List Int} {d : Nat} {x : Int} (hk : cur.take d = pre) (hd : d < cur.length) : (cur.set d x).take (d + 1) = pre ++ [x] := by
  rw [List.take_succ_eq_append_getElem (by simpa using hd), List.take_set_of_le (Nat.le_refl _), hk]; simp
theorem set_zero {cur : List Int} {d n : Nat} {x : Int} (hd : d < n) (hz : ∀ j, n ≤ j → cur.getD j 0 = 0) : ∀ j, n ≤ j → (cur.set d x).getD j 0 = 0 := by
  intro j hj
  have := hz j hj
  simp only [List.getD, List.getElem?_set_ne (show d ≠ j by omega)] at this ⊢; exact this
theorem take_less {cur pre : List Int} {d : Nat} {x : Int} (hk : cur.take (d + 1) = pre ++ [x]) (hp : pre.length = d) : cur.take d = pre := by
  have h := congrArg (List.take d) hk
  rw [List.take_take, Nat.min_eq_left (by omega)] at h
  rw [h, ← hp]; simp
end Go.Rt.Ha
/- Plain words of the chain layer: truths, one after the other, as lists of four numbers. No conditions. -/
set_option linter.unusedSimpArgs false
set_option linter.unusedVariables false
namespace Go.Rt.Ch
open Go.Rt.Ha
def pad4 (h : List Int) : List Int := h ++ List.replicate (4 - h.length) 0
theorem pad4_len {h : List Int} (hl : h.length ≤ 4) : (pad4 h).length = 4 := by simp [pad4]; omega
theorem pad4_inj {a b : List Int} (h : a.length = b.length) (e : pad4 a = pad4 b) : a = b := by
  unfold pad4 at e
  exact (List.append_inj e h).1
theorem pad4_at (h : List Int) (b : Nat) : (pad4 h).getD b 0 = h.getD b 0 := by
  unfold pad4
  by_cases hb : b < h.length
  · simp [List.getD, List.getElem?_append_left hb]
  · rw [List.getD, List.getD, List.getElem?_append_right (by omega), List.getElem?_eq_none (by omega : h.length ≤ b)]
    by_cases h2 : b - h.length < 4 - h.length
    · simp [List.getElem?_replicate, h2]
    · simp [List.getElem?_replicate, h2]
theorem ld_pad (h : List Int) (b : Nat) : ld (pad4 h) b = ld h b := pad4_at h b
theorem fare_pad (c : Ctr) (l : List Int) (q : Quest) : ∀ k, fareTo c (pad4 l) q k = fareTo c l q k
  | 0 => rfl
  | k + 1 => by simp only [fareTo, fare_pad c l q k, ld_pad]
theorem not_pad (c : Ctr) (l : List Int) (q : Quest) (n : Nat) : notF c (pad4 l) q n = notF c l q n := by unfold notF; rw [fare_pad]
theorem met_pad (c : Ctr) (l : List Int) (q : Quest) (n : Nat) : metF c (pad4 l) q n = metF c l q n := by unfold metF; rw [fare_pad]
theorem can_pad (b : Board) (l : List Int) : canL b (pad4 l) = canL b l := by unfold canL; simp only [not_pad, met_pad]
def segF (b : Board) (d : Nat) (pre : List Int) : List (List Int) := ((felt ((bun b).drop d)).map (pre ++ ·)).map pad4
def segK (b : Board) (d : Nat) (pre : List Int) : List (List Int) := (((felt ((bun b).drop d)).map (pre ++ ·)).filter (canL b)).map pad4
theorem segK_all (b : Board) : segK b 0 [] = (truths b).map pad4 := by simp [segK, truths]
theorem segF_all (b : Board) : segF b 0 [] = (felt (bun b)).map pad4 := by simp [segF]
theorem segF_leaf {b : Board} {d : Nat} {pre : List Int} (hd : b.hours.length ≤ d) : segF b d pre = [pad4 pre] := by
  unfold segF; rw [List.drop_of_length_le (by rw [show (bun b).length = b.hours.length from by simp [bun]]; exact hd)]; simp [felt]
theorem segK_leaf {b : Board} {d : Nat} {pre : List Int} (hd : b.hours.length ≤ d) : segK b d pre = if canL b pre then [pad4 pre] else [] := by
  unfold segK; rw [List.drop_of_length_le (by rw [show (bun b).length = b.hours.length from by simp [bun]]; exact hd)]
  simp only [felt, List.map_cons, List.map_nil, List.append_nil, List.filter_cons, List.filter_nil]
  split <;> rfl
def restF (b : Board) (d : Nat) (pre : List Int) (xs : List Int) : List (List Int) := xs.flatMap fun x => segF b (d + 1) (pre ++ [x])
def restK (b : Board) (d : Nat) (pre : List Int) (xs : List Int) : List (List Int) := xs.flatMap fun x => segK b (d + 1) (pre ++ [x])
theorem felt_node {b : Board} {d : Nat} (hd : d < b.hours.length) (pre : List Int) : (felt ((bun b).drop d)).map (pre ++ ·) = (spanL b.hours[d].lo b.hours[d].hi).flatMap fun x => (felt ((bun b).drop (d + 1))).map ((pre ++ [x]) ++ ·) := by
  have hl : d < (bun b).length := by simpa [bun] using hd
  rw [List.drop_eq_getElem_cons hl]
  have e : (bun b)[d] = ⟨b.hours[d].lo, b.hours[d].hi, 0, 0⟩ := by simp [bun]
  rw [e]
  simp only [felt, List.map_flatMap, List.map_map]
  refine congrArg (List.flatMap · _) ?_
  funext x
  refine List.map_congr_left fun y _ => ?_
  simp
theorem segF_node {b : Board} {d : Nat} {pre : List Int} (hd : d < b.hours.length) : segF b d pre = restF b d pre (spanL b.hours[d].lo b.hours[d].hi) := by
  unfold segF restF; rw [felt_node hd, List.map_flatMap]; rfl
theorem filter_flat {α β : Type} (p : β → Bool) (f : α → List β) : ∀ l : List α, (l.flatMap f).filter p = l.flatMap fun x => (f x).filter p
  | [] => rfl
  | a :: l => by simp only [List.flatMap_cons, List.filter_append, filter_flat p f l]
theorem segK_node {b : Board} {d : Nat} {pre : List Int} (hd : d < b.hours.length) : segK b d pre = restK b d pre (spanL b.hours[d].lo b.hours[d].hi) := by
  unfold segK restK; rw [felt_node hd, filter_flat, List.map_flatMap]; rfl
theorem restF_next {b : Board} {d : Nat} {pre : List Int} {lo : Int} {q n : Nat} (h : q < n) : restF b d pre (upto (lo + q) (n - q)) = segF b (d + 1) (pre ++ [lo + q]) ++ restF b d pre (upto (lo + (q + 1 : Nat)) (n - (q + 1))) := by rw [upto_step h]; rfl
theorem restF_done {b : Board} {d : Nat} {pre : List Int} {lo : Int} {q n : Nat} (h : n ≤ q) : restF b d pre (upto (lo + q) (n - q)) = [] := by rw [show n - q = 0 by omega]; rfl
theorem restK_next {b : Board} {d : Nat} {pre : List Int} {lo : Int} {q n : Nat} (h : q < n) : restK b d pre (upto (lo + q) (n - q)) = segK b (d + 1) (pre ++ [lo + q]) ++ restK b d pre (upto (lo + (q + 1 : Nat)) (n - (q + 1))) := by rw [upto_step h]; rfl
theorem restK_done {b : Board} {d : Nat} {pre : List Int} {lo : Int} {q n : Nat} (h : n ≤ q) : restK b d pre (upto (lo + q) (n - q)) = [] := by rw [show n - q = 0 by omega]; rfl
theorem pads_nodup (b : Board) : ((felt (bun b)).map pad4).Nodup := by
  have h1 := felt_nodup (bun b)
  have h2 : ∀ h ∈ felt (bun b), h.length = (bun b).length := fun h hh => ((felt_in _ _).1 hh).1
  revert h1 h2
  generalize felt (bun b) = L
  induction L with
  | nil => intro _ _; simp
  | cons x L ih =>
    intro hn hl
    rw [List.nodup_cons] at hn
    rw [List.map_cons, List.nodup_cons]
    refine ⟨fun hm => ?_, ih hn.2 fun h hh => hl h (.tail _ hh)⟩
    obtain ⟨y, hy, e⟩ := List.mem_map.1 hm
    have := pad4_inj (by rw [hl y (.tail _ hy), hl x (.head _)]) e
    subst this; exact hn.1 hy
theorem truth_felt {b : Board} {l : List Int} (h : l ∈ truths b) : l ∈ felt (bun b) := (List.mem_filter.1 h).1
theorem truth_in {b : Board} {l : List Int} (h : l ∈ truths b) : l.length = b.hours.length ∧ ∀ i (hi : i < b.hours.length), b.hours[i].lo ≤ ld l i ∧ ld l i ≤ b.hours[i].hi := by
  obtain ⟨h1, h2⟩ := (felt_in _ _).1 (truth_felt h)
  have hl : (bun b).length = b.hours.length := by simp [bun]
  refine ⟨by rw [h1, hl], fun i hi => ?_⟩
  have := h2 i (by rw [hl]; exact hi)
  have e : (bun b)[i]'(by rw [hl]; exact hi) = ⟨b.hours[i].lo, b.hours[i].hi, 0, 0⟩ := by simp [bun]
  rw [e] at this; exact this
theorem start_last4 {b : Board} (hok : b.Ok) : [-1, 0, 0, 0] ∉ (felt (bun b)).map pad4 := by
  intro hm
  obtain ⟨l, hl, e⟩ := List.mem_map.1 hm
  have h0 : ld (pad4 l) 0 = -1 := by rw [e]; rfl
  rw [ld_pad] at h0
  obtain ⟨h1, h2⟩ := (felt_in _ _).1 hl
  have hll : (bun b).length = b.hours.length := by simp [bun]
  by_cases hn : 0 < b.hours.length
  · have := h2 0 (by omega)
    have e2 : (bun b)[0]'(by omega) = ⟨b.hours[0].lo, b.hours[0].hi, 0, 0⟩ := by simp [bun]
    rw [e2] at this
    have hlo := (hok.hour _ (List.getElem_mem hn)).lo
    have h3 : at_ l 0 = ld l 0 := rfl
    rw [h3, h0] at this
    simp only at this; omega
  · have : l = [] := List.eq_nil_of_length_eq_zero (by omega)
    subst this; simp [ld] at h0
theorem cur_pad4 {cur pre : List Int} {d : Nat} (hl : cur.length = 4) (hp : pre.length = d) (hd : d ≤ 4) (hk : cur.take d = pre) (hz : ∀ j, d ≤ j → cur.getD j 0 = 0) : cur = pad4 pre := by
  apply List.ext_getElem?
  intro i
  by_cases hi : i < 4
  · have e1 : cur[i]? = some (cur.getD i 0) := by rw [List.getD, List.getElem?_eq_getElem (by omega)]; rfl
    have e2 : (pad4 pre)[i]? = some ((pad4 pre).getD i 0) := by rw [List.getD, List.getElem?_eq_getElem (by rw [pad4_len (by omega)]; exact hi)]; rfl
    rw [e1, e2, pad4_at]
    by_cases h : i < d
    · subst hk
      rw [List.getD, List.getD, List.getElem?_take, if_pos h]
    · rw [hz i (by omega), List.getD, List.getElem?_eq_none (by omega)]; rfl
  · rw [List.getElem?_eq_none (by omega), List.getElem?_eq_none (by rw [pad4_len (by omega)]; omega)]
/-- Whether the first so many counters can fare by these loads. -/
def canTo (b : Board) (l : List Int) (n : Nat) : Bool := (b.ctrs.take n).all fun c => notF c l slips b.hours.length || metF c l slips b.hours.length
theorem canTo_y {b : Board} {l : List Int} {i : Nat} (hi : i < b.ctrs.length) (h : canTo b l i = true) (h2 : notF (ctrOf b i) l slips b.hours.length = true ∨ metF (ctrOf b i) l slips b.hours.length = true) : canTo b l (i + 1) = true := by
  unfold canTo at *
  rw [List.take_succ_eq_append_getElem hi, List.all_append, h]
  rw [ctr_at hi] at h2
  simpa using h2
theorem canTo_all {b : Board} {l : List Int} {i : Nat} (hi : b.ctrs.length ≤ i) (h : canTo b l i = true) : canL b l = true := by
  unfold canTo at h; rw [List.take_of_length_le hi] at h; exact h
theorem can_n {b : Board} {l : List Int} {i : Nat} (hi : i < b.ctrs.length) (h1 : notF (ctrOf b i) l slips b.hours.length = false) (h2 : metF (ctrOf b i) l slips b.hours.length = false) : canL b l = false := by
  cases hc : canL b l with
  | false => rfl
  | true =>
    unfold canL at hc
    have := List.all_eq_true.1 hc _ (List.getElem_mem hi)
    rw [ctr_at hi] at h1 h2
    rw [h1, h2] at this; cases this
theorem pre_next {b : Board} {d : Nat} {pre : List Int} {x : Int} (hd : d < b.hours.length) (hp : pre.length = d) (h : ∀ j (hj : j < b.hours.length), j < d → b.hours[j].lo ≤ ld pre j ∧ ld pre j ≤ b.hours[j].hi) (hx : b.hours[d].lo ≤ x ∧ x ≤ b.hours[d].hi) : ∀ j (hj : j < b.hours.length), j < d + 1 → b.hours[j].lo ≤ ld (pre ++ [x]) j ∧ ld (pre ++ [x]) j ≤ b.hours[j].hi := by
  intro j hj h1
  by_cases e : j < d
  · have := h j hj e
    have e2 : ld (pre ++ [x]) j = ld pre j := by simp [ld, List.getD, List.getElem?_append_left (by omega : j < pre.length)]
    rw [e2]; exact this
  · have : j = d := by omega
    subst this
    have e2 : ld (pre ++ [x]) j = x := by simp [ld, List.getD, ← hp]
    rw [e2]; exact hx
end Go.Rt.Ch
/- Plain words of the chain layer: errors by numbers, spans of truths, one truth more. No conditions. -/
set_option linter.unusedSimpArgs false
set_option linter.unusedVariables false
namespace Go.Rt.Ch
open Go.Rt.Ha
/-- ErrNone, if a number is not from 0 to below the one behind it, by turns. -/
def pairsE : List Int → Int
  | n :: m :: r => if out 0 (m - 1) n then 4 else pairsE r
  | _ => 0
def orE (a e : Int) : Int := if a ≠ 0 then a else e
theorem pairs_end {ns : List Int} {j : Nat} (h : ns.length ≤ 2 * j + 1) : pairsE (ns.drop (2 * j)) = 0 := by
  match hd : ns.drop (2 * j) with
  | [] => rfl
  | [x] => rfl
  | x :: y :: r => have := congrArg List.length hd; simp at this; omega
theorem pairs_cons {ns : List Int} {j : Nat} (h : 2 * j + 1 < ns.length) : ns.drop (2 * j) = ns[2 * j] :: ns[2 * j + 1] :: ns.drop (2 * (j + 1)) := by
  rw [List.drop_eq_getElem_cons (by omega), List.drop_eq_getElem_cons (by omega)]; rfl
theorem pairs_next {ns : List Int} {j : Nat} (h : 2 * j + 1 < ns.length) (ho : [ns[2 * j]].any (out 0 (ns[2 * j + 1] - 1)) = false) : pairsE (ns.drop (2 * j)) = pairsE (ns.drop (2 * (j + 1))) := by
  rw [pairs_cons h]
  simp only [List.any_cons, List.any_nil, Bool.or_false] at ho
  simp only [pairsE, ho]; rfl
theorem pairs_stop {ns : List Int} {j : Nat} (h : 2 * j + 1 < ns.length) (ho : [ns[2 * j]].any (out 0 (ns[2 * j + 1] - 1)) = true) : pairsE (ns.drop (2 * j)) = 4 := by
  rw [pairs_cons h]
  simp only [List.any_cons, List.any_nil, Bool.or_false] at ho
  simp only [pairsE, ho]; rfl
theorem enterE_1 {b : Board} {e : Int} (h : ¬ (check b).2.2 = 0) : enterE b e = (check b).2.2 := by unfold enterE; rw [if_pos h]
theorem enterE_2 {b : Board} {e : Int} (h : (check b).2.2 = 0) (he : ¬ e = 0) : enterE b e = e := by unfold enterE; rw [if_neg (by simp [h]), if_pos he]
theorem enterE_3 {b : Board} {e : Int} (h : (check b).2.2 = 0) (he : e = 0) (hw : truths b = []) : enterE b e = 8 := by unfold enterE; rw [if_neg (by simp [h]), if_neg (by simp [he]), if_pos hw]
theorem enterE_4 {b : Board} {e : Int} (h : (check b).2.2 = 0) (he : e = 0) (hw : truths b ≠ []) : enterE b e = 0 := by unfold enterE; rw [if_neg (by simp [h]), if_neg (by simp [he]), if_neg hw]
theorem enterE_ok {b : Board} {e : Int} (h : enterE b e = 0) : (check b).2.2 = 0 ∧ e = 0 ∧ truths b ≠ [] := by
  by_cases h1 : (check b).2.2 = 0
  · by_cases h2 : e = 0
    · by_cases h3 : truths b = []
      · rw [enterE_3 h1 h2 h3] at h; cases h
      · exact ⟨h1, h2, h3⟩
    · rw [enterE_2 h1 h2] at h; exact absurd h h2
  · rw [enterE_1 h1] at h; exact absurd h h1
theorem orE_4 {a e : Int} (h : a = 4) : orE a e = 4 := by unfold orE; rw [h]; rfl
theorem orE_e {a e : Int} (h : a = 0) : orE a e = e := by unfold orE; rw [if_neg (by simp [h])]
theorem pairs_two (a m : Int) : orE (pairsE [a, m]) 0 = idxE a m := by
  unfold orE idxE pairsE
  cases out 0 (m - 1) a <;> rfl
theorem pairs_four (c n a m : Int) : orE (pairsE [c, n, a, m]) 0 = idx2 c n a m := by
  unfold orE idx2 idxE
  simp only [pairsE]
  by_cases h1 : out 0 (n - 1) c = true <;> by_cases h2 : out 0 (m - 1) a = true <;> simp [h1, h2]
theorem pairs_looks (b : Board) (hold within : Int) : orE (pairsE [hold, b.holds]) (if within < 0 then 7 else 0) = looksE b hold within := by
  unfold orE looksE idxE
  simp only [pairsE]
  by_cases h1 : out 0 (b.holds - 1) hold = true <;> simp [h1]
/-! ### Spans -/
theorem hull_snoc (f : List Int → Int) : ∀ (l : List (List Int)) (x : List Int), l ≠ [] → hullL f (l ++ [x]) = (min (hullL f l).1 (f x), max (hullL f l).2 (f x))
  | [], _, h => absurd rfl h
  | a :: l, x, _ => by simp only [hullL, List.cons_append, List.foldl_append, List.foldl_cons, List.foldl_nil]
theorem hull_first {f : List Int → Int} {ws : List (List Int)} {i : Nat} (hi : i < ws.length) (h0 : i = 0) : hullL f (ws.take (i + 1)) = (min (f ws[i]) (f ws[i]), max (f ws[i]) (f ws[i])) := by
  subst h0
  match ws, hi with
  | a :: ws, _ =>
    simp [hullL]
theorem hull_next {f : List Int → Int} {ws : List (List Int)} {i : Nat} (hi : i < ws.length) (h0 : ¬ i = 0) : hullL f (ws.take (i + 1)) = (min (hullL f (ws.take i)).1 (f ws[i]), max (hullL f (ws.take i)).2 (f ws[i])) := by
  rw [List.take_succ_eq_append_getElem hi, hull_snoc f _ _ (by intro e; have := congrArg List.length e; simp at this; rcases this with h | h; exact h0 h; subst h; simp at hi)]
/-! ### What lies in a hold -/
theorem in_yes {b : Board} {l : List Int} {h : Int} {k : Nat} (hk : k < b.hours.length) (e : b.hours[k].hold = h) : inTo b l h (k + 1) = inTo b l h k + ld l k := by
  simp only [inTo]; rw [if_pos (by rw [← e]; simp [List.getD, hk])]
theorem in_no {b : Board} {l : List Int} {h : Int} {k : Nat} (hk : k < b.hours.length) (e : ¬ b.hours[k].hold = h) : inTo b l h (k + 1) = inTo b l h k := by
  simp only [inTo]; rw [if_neg (by rw [show b.hours.getD k ⟨0, 0, 0⟩ = b.hours[k] by simp [List.getD, hk]]; exact e)]; omega
theorem in_bound {b : Board} {l : List Int} {h : Int} (hl : ∀ k, 0 ≤ ld l k ∧ ld l k ≤ 40) : ∀ k, 0 ≤ inTo b l h k ∧ inTo b l h k ≤ 40 * (k : Int)
  | 0 => by simp [inTo]
  | k + 1 => by
    have ih := in_bound (h := h) (b := b) hl k
    have := hl k
    simp only [inTo]
    split <;> constructor <;> omega
theorem in_pad (b : Board) (l : List Int) (h : Int) : ∀ k, inTo b (pad4 l) h k = inTo b l h k
  | 0 => rfl
  | k + 1 => by simp only [inTo, in_pad b l h k, ld_pad]
theorem inH_pad (b : Board) (h : Int) (l : List Int) : inH b h (pad4 l) = inH b h l := in_pad b l h _
theorem ld_40 {b : Board} (hok : b.Ok) {l : List Int} (h : l ∈ truths b) (k : Nat) : 0 ≤ ld l k ∧ ld l k ≤ 40 := by
  obtain ⟨h1, h2⟩ := truth_in h
  by_cases hk : k < b.hours.length
  · have := h2 k hk
    have ho := hok.hour _ (List.getElem_mem hk)
    have h3 := ho.lo
    have h4 := ho.hi
    omega
  · have : ld l k = 0 := by simp [ld, List.getD, List.getElem?_eq_none (by omega : l.length ≤ k)]
    omega
theorem pad_len {b : Board} (hok : b.Ok) {l : List Int} (h : l ∈ truths b) : (pad4 l).length = 4 := pad4_len (by rw [(truth_in h).1]; exact hok.lh)
end Go.Rt.Ch
/- Plain words of the chain layer: sets as lists, loads at the hours of a set, what lies in a hold by them. No conditions. -/
set_option linter.unusedSimpArgs false
set_option linter.unusedVariables false
namespace Go.Rt.Ch
open Go.Rt.Ha
theorem listL_le (b : Nat) : ∀ n, (listL b n).length ≤ n
  | 0 => by simp [listL]
  | n + 1 => by have := listL_le b n; simp only [listL, List.length_append]; split <;> simp <;> omega
def listTo (b n k : Nat) : List Int := listL b k ++ List.replicate (n - (listL b k).length) 0
theorem listTo_len (b n k : Nat) (h : k ≤ n) : (listTo b n k).length = n := by have := listL_le b k; simp [listTo]; omega
theorem listTo_zero (b n : Nat) : listTo b n 0 = List.replicate n 0 := by simp [listTo, listL]
theorem listL_yes {b k : Nat} (h : bit b k = 1) : listL b (k + 1) = listL b k ++ [(k : Int)] := by simp [listL, h]
theorem listL_no {b k : Nat} (h : ¬ bit b k = 1) : listL b (k + 1) = listL b k := by simp [listL, h]
theorem listTo_yes {b n k : Nat} (hk : k < n) (h : bit b k = 1) : (listTo b n k).set (listL b k).length k = listTo b n (k + 1) := by
  have := listL_le b k
  unfold listTo
  rw [listL_yes h, List.set_append_right _ _ (Nat.le_refl _), Nat.sub_self, List.length_append, List.length_singleton]
  obtain ⟨q, hq⟩ : ∃ q, n - (listL b k).length = q + 1 := ⟨n - (listL b k).length - 1, by omega⟩
  rw [hq, List.replicate_succ, List.set_cons_zero, show n - ((listL b k).length + 1) = q by omega]
  simp
theorem listTo_no {b n k : Nat} (h : ¬ bit b k = 1) : listTo b n k = listTo b n (k + 1) := by unfold listTo; rw [listL_no h]
theorem listTo_take (b n : Nat) : (listTo b n n).take (listL b n).length = listL b n := by simp [listTo]
theorem bit_lt2 (b j : Nat) : bit b j = 0 ∨ bit b j = 1 := by unfold bit; have := Nat.and_lt_two_pow (x := b >>> j) (y := 1) (n := 1) (by omega); omega
/-! ### Fewest, step by step -/
theorem few_skip {d : Nat → Bool} {n s : Nat} (h1 : (fewTo d n s).2 = true) (h2 : before (fewTo d n s).1 (listL s n) = true) : fewTo d n (s + 1) = fewTo d n s := by simp only [fewTo, fewStep]; rw [h1, h2]; rfl
theorem few_yes {d : Nat → Bool} {n s : Nat} (h1 : (fewTo d n s).2 = false ∨ before (fewTo d n s).1 (listL s n) = false) (h2 : d s = true) : fewTo d n (s + 1) = (listL s n, true) := by
  simp only [fewTo, fewStep]; rw [if_neg (by rcases h1 with h | h <;> simp [h]), if_pos h2]
theorem few_no {d : Nat → Bool} {n s : Nat} (h1 : (fewTo d n s).2 = false ∨ before (fewTo d n s).1 (listL s n) = false) (h2 : d s = false) : fewTo d n (s + 1) = fewTo d n s := by
  simp only [fewTo, fewStep]; rw [if_neg (by rcases h1 with h | h <;> simp [h]), if_neg (by simp [h2])]
theorem few_len (d : Nat → Bool) (n : Nat) : ∀ s, (fewTo d n s).1.length ≤ n
  | 0 => by simp [fewTo]
  | s + 1 => by have := few_len d n s; have := listL_le s n; simp only [fewTo, fewStep]; split <;> (try split) <;> assumption
theorem few_vals {v1 v2 : Value} {b1 b2 : Bool} {z1 z2 : Int} (h1 : v1 = v2) (h2 : b1 = b2) (h3 : z1 = z2) : [v1, Value.bool b1, Value.int .i64 z1] = [v2, Value.bool b2, Value.int .i64 z2] := by rw [h1, h2, h3]
theorem before_no {a b : List Int} (h1 : a.length ≤ b.length → ¬ (b.length : Int) > a.length) (h2 : a.length = b.length → less a b = false) : before a b = false := by
  unfold before
  rw [Bool.or_eq_false_iff, Bool.and_eq_false_iff]
  refine ⟨by simp; omega, ?_⟩
  by_cases e : a.length = b.length
  · exact .inr (h2 e)
  · left; simpa using e
theorem shl_256 {n : Nat} (h : n ≤ 8) : 1 ≤ 1 <<< n ∧ 1 <<< n ≤ 256 := by
  rw [Nat.shiftLeft_eq, Nat.one_mul]
  have h2 : 2 ^ n ≤ 2 ^ 8 := Nat.pow_le_pow_right (by omega) h
  have := Nat.one_le_two_pow (n := n)
  omega
def cmpI (a b : Int) : Int := if a < b then -1 else if b < a then 1 else 0
theorem cmp_zero {a b : Int} (h : cmpI a b = 0) : a = b := by
  unfold cmpI at h
  split at h
  · omega
  · split at h <;> omega
/-! ### Loads at the hours of a set -/
/-- Loads, of whose first k only those of a set are kept. -/
def maskTo (s : Nat) (l : List Int) (k : Nat) : List Int := (List.range 4).map fun j => if j < k then l.getD j 0 * ((bit s j : Nat) : Int) else l.getD j 0
def mask (s : Nat) (l : List Int) : List Int := maskTo s l 4
theorem maskTo_len (s : Nat) (l : List Int) (k : Nat) : (maskTo s l k).length = 4 := by simp [maskTo]
theorem maskTo_zero {s : Nat} {l : List Int} (h : l.length = 4) : maskTo s l 0 = l := by
  apply List.ext_getElem
  · rw [maskTo_len, h]
  · intro i h1 h2
    simp [maskTo, List.getD, h2]
theorem maskTo_get {s : Nat} {l : List Int} {k : Nat} (hk : k < 4) : (maskTo s l k).getD k 0 = l.getD k 0 := by
  simp [maskTo, List.getD, hk]
theorem maskTo_set {s : Nat} {l : List Int} {k : Nat} (hk : k < 4) : (maskTo s l k).set k ((maskTo s l k).getD k 0 * ((bit s k : Nat) : Int)) = maskTo s l (k + 1) := by
  rw [maskTo_get hk]
  apply List.ext_getElem
  · simp [maskTo]
  · intro i h1 h2
    have hi : i < 4 := by rwa [maskTo_len] at h2
    rw [List.getElem_set]
    by_cases e : k = i
    · subst e; simp [maskTo]
    · rw [if_neg e]
      by_cases h3 : i < k
      · simp [maskTo, h3, show i < k + 1 by omega]
      · simp [maskTo, h3, show ¬ i < k + 1 by omega]
theorem mask_get (s : Nat) (l : List Int) {k : Nat} (hk : k < 4) : (mask s l).getD k 0 = l.getD k 0 * ((bit s k : Nat) : Int) := by simp [mask, maskTo, List.getD, hk]
theorem list_mem {s n k : Nat} : (k : Int) ∈ listL s n ↔ k < n ∧ bit s k = 1 := by
  induction n with
  | zero => simp [listL]
  | succ n ih =>
    simp only [listL, List.mem_append, ih]
    constructor
    · rintro (h | h)
      · exact ⟨by omega, h.2⟩
      · split at h
        · rename_i hb
          have h2 : (k : Int) = (n : Int) := by simpa using h
          have : k = n := by omega
          subst this; exact ⟨by omega, hb⟩
        · cases h
    · rintro ⟨h1, h2⟩
      by_cases e : k = n
      · subst e; right; rw [if_pos h2]; simp
      · exact .inl ⟨by omega, h2⟩
theorem list_nat {s n : Nat} {z : Int} (h : z ∈ listL s n) : ∃ k : Nat, z = k ∧ k < n ∧ bit s k = 1 := by
  induction n with
  | zero => simp [listL] at h
  | succ n ih =>
    simp only [listL, List.mem_append] at h
    rcases h with h | h
    · obtain ⟨k, h1, h2, h3⟩ := ih h; exact ⟨k, h1, by omega, h3⟩
    · split at h
      · rename_i hb; simp at h; exact ⟨n, h, by omega, hb⟩
      · cases h
theorem mask_same {s n : Nat} (hn : n ≤ 4) {l m : List Int} (hl : l.length = n) (hm : m.length = n) : mask s (pad4 l) = mask s (pad4 m) ↔ sameAt s n l m = true := by
  unfold sameAt
  rw [List.all_eq_true]
  constructor
  · intro h z hz
    obtain ⟨k, rfl, hk, hb⟩ := list_nat hz
    have := congrArg (fun x : List Int => x.getD k 0) h
    try simp only at this
    rw [mask_get _ _ (by omega), mask_get _ _ (by omega), pad4_at, pad4_at, hb] at this
    simp only [decide_eq_true_eq, Int.toNat_natCast]
    have e1 : ld l k = l.getD k 0 := rfl
    have e2 : ld m k = m.getD k 0 := rfl
    omega
  · intro h
    apply List.ext_getElem
    · rw [mask, mask, maskTo_len, maskTo_len]
    · intro k h1 h2
      have hk : k < 4 := by rw [mask, maskTo_len] at h1; exact h1
      have e : ∀ x : List Int, ∀ hx : k < (mask s x).length, (mask s x)[k] = x.getD k 0 * ((bit s k : Nat) : Int) := by
        intro x hx
        rw [← mask_get s x hk]; simp [List.getD, hx]
      rw [e, e, pad4_at, pad4_at]
      by_cases hkn : k < n
      · rcases bit_lt2 s k with hb | hb
        · rw [hb]; simp
        · have := h _ (list_mem.2 ⟨hkn, hb⟩)
          simp only [decide_eq_true_eq, Int.toNat_natCast] at this
          have e1 : ld l k = l.getD k 0 := rfl
          have e2 : ld m k = m.getD k 0 := rfl
          rw [← e1, ← e2, this]
      · have e1 : l.getD k 0 = 0 := by simp [List.getD, List.getElem?_eq_none (by omega : l.length ≤ k)]
        have e2 : m.getD k 0 = 0 := by simp [List.getD, List.getElem?_eq_none (by omega : m.length ≤ k)]
        rw [e1, e2]
/-! ### What lies in a hold, by these -/
def sv (p : Int × Int) : Value := .agg #[.int .i64 p.1, .int .i64 p.2]
/-- The span of those that are the same at a set. -/
def gS (s : Nat) (f : List Int → Int) (ws : List (List Int)) (key : List Int) : Int × Int := hullL f (ws.filter fun l => decide (mask s (pad4 l) = key))
/-- What a map of spans says of the loads that were gone through. -/
structure SpM (s : Nat) (f : List Int → Int) (ws : List (List Int)) (es : List (List Int × Value × Nat)) : Prop where
  v : ∀ q ∈ es, q.2.1 = sv (gS s f ws q.1)
  k : ∀ key, key ∈ es.map (·.1) ↔ ∃ l ∈ ws, mask s (pad4 l) = key
theorem spm_nil (s : Nat) (f : List Int → Int) : SpM s f [] [] := ⟨by simp, by simp⟩
theorem SpM.len {s : Nat} {f : List Int → Int} {ws : List (List Int)} {es : List (List Int × Value × Nat)} (h : SpM s f ws es) : ∀ q ∈ es, q.1.length = 4 := by
  intro q hq
  obtain ⟨l, _, e⟩ := (h.k q.1).1 (List.mem_map_of_mem (f := fun x : List Int × Value × Nat => x.1) hq)
  rw [← e, mask, maskTo_len]
theorem SpM.zero {s : Nat} {f : List Int → Int} {ws : List (List Int)} {es : List (List Int × Value × Nat)} (h : SpM s f ws es) {key : List Int} (hk : key ∉ es.map (·.1)) : gS s f ws key = (0, 0) := by
  unfold gS
  rw [List.filter_eq_nil_iff.2]
  · rfl
  · intro l hl; simp only [decide_eq_true_eq]; intro e; exact hk ((h.k key).2 ⟨l, hl, e⟩)
theorem putA_strong {α : Type} [DecidableEq α] {a : α} {v : Value} {ck : Nat} {q : α × Value × Nat} : ∀ {l : List (α × Value × Nat)}, (l.map (·.1)).Nodup → q ∈ putA a v ck l → (q.1 = a ∧ q.2.1 = v) ∨ (q ∈ l ∧ q.1 ≠ a)
  | [], _, h => by simp [putA] at h; subst h; exact .inl ⟨rfl, rfl⟩
  | x :: l, hn, h => by
    rw [List.map_cons, List.nodup_cons] at hn
    by_cases e : x.1 = a
    · simp only [putA, if_pos e] at h
      cases h with
      | head => exact .inl ⟨rfl, rfl⟩
      | tail _ h =>
        right
        refine ⟨.tail _ h, fun e2 => hn.1 ?_⟩
        rw [e, ← e2]; exact List.mem_map_of_mem (f := fun x : α × Value × Nat => x.1) h
    · simp only [putA, if_neg e] at h
      cases h with
      | head => exact .inr ⟨.head _, e⟩
      | tail _ h =>
        rcases putA_strong hn.2 h with h | h
        · exact .inl h
        · exact .inr ⟨.tail _ h.1, h.2⟩
theorem gS_other {s : Nat} {f : List Int → Int} {ws : List (List Int)} {l key : List Int} (h : mask s (pad4 l) ≠ key) : gS s f (ws ++ [l]) key = gS s f ws key := by
  unfold gS; rw [List.filter_append]; simp [h]
theorem gS_own {s : Nat} {f : List Int → Int} {ws : List (List Int)} {l : List Int} : gS s f (ws ++ [l]) (mask s (pad4 l)) = hullL f ((ws.filter fun x => decide (mask s (pad4 x) = mask s (pad4 l))) ++ [l]) := by
  unfold gS; rw [List.filter_append]; simp
theorem gS_new {s : Nat} {f : List Int → Int} {ws : List (List Int)} {es : List (List Int × Value × Nat)} (h : SpM s f ws es) {l : List Int} (hk : mask s (pad4 l) ∉ es.map (·.1)) : gS s f (ws ++ [l]) (mask s (pad4 l)) = (min (f l) (f l), max (f l) (f l)) := by
  rw [gS_own, List.filter_eq_nil_iff.2]
  · simp [hullL]
  · intro x hx; simp only [decide_eq_true_eq]; intro e; exact hk ((h.k _).2 ⟨x, hx, e⟩)
theorem gS_more {s : Nat} {f : List Int → Int} {ws : List (List Int)} {es : List (List Int × Value × Nat)} (h : SpM s f ws es) {l : List Int} (hk : mask s (pad4 l) ∈ es.map (·.1)) : gS s f (ws ++ [l]) (mask s (pad4 l)) = (min (gS s f ws (mask s (pad4 l))).1 (f l), max (gS s f ws (mask s (pad4 l))).2 (f l)) := by
  rw [gS_own, hull_snoc]
  · rfl
  · obtain ⟨x, hx, e⟩ := (h.k _).1 hk
    exact List.ne_nil_of_mem (List.mem_filter.2 ⟨hx, by simpa using e⟩)
theorem SpM.put {s : Nat} {f : List Int → Int} {ws : List (List Int)} {es : List (List Int × Value × Nat)} (h : SpM s f ws es) (hn : (es.map (·.1)).Nodup) {l : List Int} {p : Int × Int} (hp : p = gS s f (ws ++ [l]) (mask s (pad4 l))) (ck : Nat) : SpM s f (ws ++ [l]) (putA (mask s (pad4 l)) (sv p) ck es) := by
  refine ⟨fun q hq => ?_, fun key => ?_⟩
  · rcases putA_strong hn hq with ⟨h1, h2⟩ | ⟨h1, h2⟩
    · rw [h1, h2, hp]
    · rw [h.v q h1, gS_other (fun e => h2 e.symm)]
  · rw [keys_putA, h.k]
    constructor
    · rintro (rfl | ⟨x, hx, e⟩)
      · exact ⟨l, by simp, rfl⟩
      · exact ⟨x, List.mem_append_left _ hx, e⟩
    · rintro ⟨x, hx, e⟩
      rcases List.mem_append.1 hx with hx | hx
      · exact .inr ⟨x, hx, e⟩
      · rw [List.mem_singleton] at hx; subst hx; exact .inl e.symm
theorem hull_in {f : List Int → Int} {lo hi : Int} (h0 : lo ≤ 0 ∧ 0 ≤ hi) : ∀ (ws : List (List Int)), (∀ l ∈ ws, lo ≤ f l ∧ f l ≤ hi) → lo ≤ (hullL f ws).1 ∧ (hullL f ws).1 ≤ hi ∧ lo ≤ (hullL f ws).2 ∧ (hullL f ws).2 ≤ hi
  | [], _ => by simp [hullL]; omega
  | a :: ws, h => by
    simp only [hullL]
    have key : ∀ (r : List (List Int)) (p : Int × Int), (lo ≤ p.1 ∧ p.1 ≤ hi) ∧ (lo ≤ p.2 ∧ p.2 ≤ hi) → (∀ l ∈ r, lo ≤ f l ∧ f l ≤ hi) → lo ≤ (r.foldl (fun s x => (min s.1 (f x), max s.2 (f x))) p).1 ∧ (r.foldl (fun s x => (min s.1 (f x), max s.2 (f x))) p).1 ≤ hi ∧ lo ≤ (r.foldl (fun s x => (min s.1 (f x), max s.2 (f x))) p).2 ∧ (r.foldl (fun s x => (min s.1 (f x), max s.2 (f x))) p).2 ≤ hi := by
      intro r
      induction r with
      | nil => intro p hp _; exact ⟨hp.1.1, hp.1.2, hp.2.1, hp.2.2⟩
      | cons x r ih =>
        intro p hp hr
        simp only [List.foldl_cons]
        have := hr x (.head _)
        exact ih _ ⟨by constructor <;> simp only <;> omega, by constructor <;> simp only <;> omega⟩ fun l hl => hr l (.tail _ hl)
    have ha := h a (.head _)
    exact key ws _ ⟨ha, ha⟩ fun l hl => h l (.tail _ hl)
theorem gS_in {b : Board} (hok : b.Ok) {hold : Int} (s : Nat) {ws : List (List Int)} (hw : ∀ l ∈ ws, l ∈ truths b) (key : List Int) : 0 ≤ (gS s (inH b hold) ws key).1 ∧ (gS s (inH b hold) ws key).1 ≤ 160 ∧ 0 ≤ (gS s (inH b hold) ws key).2 ∧ (gS s (inH b hold) ws key).2 ≤ 160 := by
  refine hull_in (by omega) _ fun l hl => ?_
  have h1 := in_bound (h := hold) (b := b) (fun k => ld_40 hok (hw l (List.mem_filter.1 hl).1) k) b.hours.length
  have := hok.lh
  unfold inH; omega
/-- Whether all spans are within a number is whether the set tells. -/
theorem tells_map {b : Board} (hok : b.Ok) {hold within : Int} {s : Nat} {es : List (List Int × Value × Nat)} (h : SpM s (inH b hold) (truths b) es) : tellsS b hold within s = true ↔ ∀ q ∈ es, (gS s (inH b hold) (truths b) q.1).2 - (gS s (inH b hold) (truths b) q.1).1 ≤ within := by
  have e : ∀ l ∈ truths b, gS s (inH b hold) (truths b) (mask s (pad4 l)) = hullL (inH b hold) ((truths b).filter (sameAt s b.hours.length l)) := by
    intro l hl
    unfold gS
    congr 1
    refine List.filter_congr fun x hx => ?_
    rw [Bool.eq_iff_iff, decide_eq_true_eq, ← mask_same hok.lh (truth_in hl).1 (truth_in hx).1]
    exact eq_comm
  unfold tellsS
  rw [List.all_eq_true]
  constructor
  · intro ht q hq
    obtain ⟨l, hl, e2⟩ := (h.k q.1).1 (List.mem_map_of_mem (f := fun x : List Int × Value × Nat => x.1) hq)
    rw [← e2, e l hl]
    simpa using ht l hl
  · intro ha l hl
    obtain ⟨q, hq, e2⟩ := List.mem_map.1 ((h.k _).2 ⟨l, hl, rfl⟩)
    have := ha q hq
    rw [show q.1 = mask s (pad4 l) from e2, e l hl] at this
    simpa using this
end Go.Rt.Ch
/- Plain facts: sets of up to eight numbers, and the first of the fewest. No conditions. -/
set_option maxRecDepth 100000
set_option linter.unusedSimpArgs false
set_option linter.unusedVariables false
namespace Go.Rt.Ch
open Go.Rt.Ha
def numL (l : List Int) : Nat := l.foldl (fun s z => s + 2 ^ z.toNat) 0
theorem numL_snoc (l : List Int) (z : Int) : numL (l ++ [z]) = numL l + 2 ^ z.toNat := by simp [numL]
theorem bit_div (s k : Nat) : bit s k = s / 2 ^ k % 2 := by unfold bit; rw [Nat.shiftRight_eq_div_pow, Nat.and_one_is_mod]
theorem numL_listL (s : Nat) : ∀ k, numL (listL s k) = s % 2 ^ k
  | 0 => by simp [listL, numL, Nat.mod_one]
  | k + 1 => by
    have ih := numL_listL s k
    rw [Nat.mod_pow_succ, ← bit_div]
    rcases bit_lt2 s k with h | h
    · rw [listL_no (by omega), ih, h]; simp
    · rw [listL_yes h, numL_snoc, ih, h]; simp
theorem bitDiff_zero {a b : Nat} : Ha.bitDiff a b = 0 ↔ ∀ i, bit a i = 1 → bit b i = 1 := by
  unfold Ha.bitDiff
  constructor
  · intro h i hi
    rw [bit_iff] at *
    have := congrArg (fun x => x.testBit i) h
    simp only [Nat.testBit_and, Nat.testBit_xor, Nat.zero_testBit, hi] at this
    simpa using this
  · intro h
    apply Nat.eq_of_testBit_eq
    intro i
    simp only [Nat.testBit_and, Nat.testBit_xor, Nat.zero_testBit]
    cases ha : a.testBit i with
    | false => rfl
    | true => rw [(bit_iff b i).1 (h i ((bit_iff a i).2 ha))]; rfl
theorem bit_out {s n i : Nat} (h : s < 2 ^ n) (hi : n ≤ i) : bit s i = 0 := by
  rw [bit_div, Nat.div_eq_of_lt (Nat.lt_of_lt_of_le h (Nat.pow_le_pow_right (by omega) hi))]
end Go.Rt.Ch
/- Plain words of the chain layer: boards without some numbers shown, step by step. No conditions. -/
set_option linter.unusedSimpArgs false
set_option linter.unusedVariables false
namespace Go.Rt.Ch
open Go.Rt.Ha
theorem butFrom_len (n s : Nat) : ∀ (l : List Ctr) (i : Nat), (butFrom n s i l).length = l.length
  | [], _ => rfl
  | c :: l, i => by simp only [butFrom, List.length_cons, butFrom_len n s l (i + 1)]
theorem butFrom_get {n s : Nat} : ∀ {l : List Ctr} {i k : Nat} (h : k < l.length), (butFrom n s i l)[k]'(by rw [butFrom_len]; exact h) = butC n s (i + k) l[k]
  | c :: l, i, 0, h => rfl
  | c :: l, i, k + 1, h => by
    simp only [butFrom, List.getElem_cons_succ]
    rw [butFrom_get (l := l) (i := i + 1) (k := k) (by simpa using h), show i + 1 + k = i + (k + 1) by omega]
theorem butB_len (b : Board) (s : Nat) : (butB b s).ctrs.length = b.ctrs.length := butFrom_len _ _ _ _
theorem butB_get {b : Board} {s k : Nat} (h : k < b.ctrs.length) : (butB b s).ctrs[k]'(by rw [butB_len]; exact h) = butC b.hours.length s k b.ctrs[k] := by
  have := butFrom_get (n := b.hours.length) (s := s) (i := 0) h
  rw [Nat.zero_add] at this; exact this
theorem butC_slen (n s i : Nat) (c : Ctr) : (butC n s i c).shown.length = c.shown.length := by simp [butC]
theorem butB_ok {b : Board} (h : b.Ok) (s : Nat) : (butB b s).Ok := by
  refine ⟨h.holds, h.lh, by rw [butB_len]; exact h.lc, h.hour, fun c hc => ?_⟩
  obtain ⟨k, hk, rfl⟩ := List.getElem_of_mem hc
  have hk2 : k < b.ctrs.length := by rw [butB_len] at hk; exact hk
  rw [butB_get hk2]
  have ho := h.ctr _ (List.getElem_mem hk2)
  refine ⟨ho.skip, ho.twice, ho.start, ho.lz, by rw [butC_slen]; exact ho.ls, ho.zero, fun z hz => ?_, ho.nm⟩
  simp only [butC, List.mem_map, List.mem_range] at hz
  obtain ⟨j, hj, rfl⟩ := hz
  split
  · omega
  · have : b.ctrs[k].shown.getD j 0 = b.ctrs[k].shown[j] := by simp [List.getD, hj]
    rw [this]; exact ho.shown _ (List.getElem_mem hj)
/-- The counters, of which the first so many have been gone through. -/
def BL (b : Board) (s i : Nat) : List Ctr := (butB b s).ctrs.take i ++ b.ctrs.drop i
theorem BL_len {b : Board} {s i : Nat} (h : i ≤ b.ctrs.length) : (BL b s i).length = b.ctrs.length := by
  unfold BL; rw [List.length_append, List.length_take, List.length_drop, butB_len]; omega
theorem BL_zero (b : Board) (s : Nat) : BL b s 0 = b.ctrs := by simp [BL]
theorem BL_all {b : Board} {s i : Nat} (h : b.ctrs.length ≤ i) : BL b s i = (butB b s).ctrs := by
  unfold BL; rw [List.take_of_length_le (by rw [butB_len]; exact h), List.drop_of_length_le h, List.append_nil]
theorem BL_get {b : Board} {s i : Nat} (h : i < b.ctrs.length) : (BL b s i)[i]'(by rw [BL_len (by omega)]; exact h) = b.ctrs[i] := by
  have hl : ((butB b s).ctrs.take i).length = i := by rw [List.length_take, butB_len]; omega
  unfold BL
  rw [List.getElem_append_right (by omega)]
  simp [hl]
theorem BL_set {b : Board} {s i : Nat} (h : i < b.ctrs.length) : BL b s (i + 1) = (BL b s i).set i (butC b.hours.length s i b.ctrs[i]) := by
  have hl : ((butB b s).ctrs.take i).length = i := by rw [List.length_take, butB_len]; omega
  unfold BL
  rw [List.set_append_right _ _ (by omega), hl, Nat.sub_self, List.drop_eq_getElem_cons h, List.set_cons_zero, List.take_succ_eq_append_getElem (by rw [butB_len]; exact h), butB_get h, List.append_assoc]; rfl
def setPc (q : Nat → AtC) (i : Nat) (a : Option Addr) (c : Nat) : Nat → AtC := fun j => if j = i then { q i with «as» := a, cs := c } else q j
theorem krows_set {l : List Ctr} {q : Nat → AtC} {i : Nat} {c : Ctr} {a : Option Addr} {cp : Nat} (hi : i < l.length) (hc : c.cells { q i with «as» := a, cs := cp } = (l[i].cells (q i)).set 5 (.slice a l[i].shown.length cp)) : (krows l q).set i ((l[i].cells (q i)).set 5 (.slice a l[i].shown.length cp)) = krows (l.set i c) (setPc q i a cp) := by
  unfold krows
  apply List.ext_getElem
  · simp
  · intro k h1 h2
    have hk : k < l.length := by simpa using h1
    rw [List.getElem_set, List.getElem_mapIdx, List.getElem_mapIdx, List.getElem_set]
    by_cases e : i = k
    · subst e
      rw [if_pos rfl, if_pos rfl]
      unfold setPc; rw [if_pos rfl]; exact hc.symm
    · rw [if_neg e, if_neg e]
      unfold setPc; rw [if_neg (fun h => e h.symm)]
theorem but_cells {n s i : Nat} {c : Ctr} {q : AtC} {a : Option Addr} {cp : Nat} : (butC n s i c).cells { q with «as» := a, cs := cp } = (c.cells q).set 5 (.slice a c.shown.length cp) := by
  unfold Ctr.cells
  rw [butC_slen]; rfl
/-! ### The numbers of one counter -/
def shPart (n s i k : Nat) (l : List Int) : List Int := (List.range l.length).map fun j => if j < k ∧ bit s (i * n + j) = 1 then -1 else l.getD j 0
theorem shPart_len (n s i k : Nat) (l : List Int) : (shPart n s i k l).length = l.length := by simp [shPart]
theorem shPart_zero (n s i : Nat) (l : List Int) : shPart n s i 0 l = l := by
  apply List.ext_getElem
  · rw [shPart_len]
  · intro j h1 h2; simp [shPart, List.getD, h2]
theorem shPart_get {n s i k : Nat} {l : List Int} (hk : k < l.length) : (shPart n s i k l).getD k 0 = l.getD k 0 := by
  simp [shPart, List.getD, hk]
theorem shPart_yes {n s i k : Nat} {l : List Int} (hk : k < l.length) (h : bit s (i * n + k) = 1) : (shPart n s i k l).set k (-1) = shPart n s i (k + 1) l := by
  apply List.ext_getElem
  · simp [shPart]
  · intro j h1 h2
    have hj : j < l.length := by rwa [shPart_len] at h2
    rw [List.getElem_set]
    by_cases e : k = j
    · subst e; simp [shPart, h]
    · rw [if_neg e]
      have e2 : (j < k + 1) ↔ (j < k) := by omega
      simp [shPart, e2]
theorem shPart_no {n s i k : Nat} {l : List Int} (h : bit s (i * n + k) = 0) : shPart n s i k l = shPart n s i (k + 1) l := by
  apply List.ext_getElem
  · simp [shPart]
  · intro j h1 h2
    by_cases e : j = k
    · subst e; simp [shPart, h]
    · have e2 : (j < k + 1) ↔ (j < k) := by omega
      simp [shPart, e2]
theorem shPart_all {n s i k : Nat} {c : Ctr} (hk : c.shown.length ≤ k) : shPart n s i k c.shown = (butC n s i c).shown := by
  unfold shPart butC
  refine List.map_congr_left fun j hj => ?_
  rw [List.mem_range] at hj
  have : j < k := by omega
  simp [this]
/-! ### Whether all of a set are shown -/
def WOK (b : Board) (s m : Nat) : Prop := ∀ j, j < m → ¬ (bit s j = 1 ∧ shownAt b j = -1)
theorem shown_at {b : Board} {i k : Nat} (hi : i < b.ctrs.length) (hk : k < b.hours.length) : shownAt b (i * b.hours.length + k) = b.ctrs[i].shown.getD k 0 := by
  unfold shownAt
  have e1 : (i * b.hours.length + k) / b.hours.length = i := by
    rw [Nat.mul_comm, Nat.mul_add_div (by omega), Nat.div_eq_of_lt hk]; omega
  have e2 : (i * b.hours.length + k) % b.hours.length = k := by
    rw [Nat.mul_comm, Nat.mul_add_mod, Nat.mod_eq_of_lt hk]
  rw [e1, e2, ctr_at hi]
theorem wok_no {b : Board} {s i k : Nat} (h : WOK b s (i * b.hours.length + k)) (hb : bit s (i * b.hours.length + k) = 0) : WOK b s (i * b.hours.length + (k + 1)) := by
  intro j hj
  by_cases e : j = i * b.hours.length + k
  · subst e; rintro ⟨h1, _⟩; omega
  · exact h j (by omega)
theorem wok_yes {b : Board} {s i k : Nat} (hi : i < b.ctrs.length) (hk : k < b.hours.length) (h : WOK b s (i * b.hours.length + k)) (hs : ¬ b.ctrs[i].shown.getD k 0 = -1) : WOK b s (i * b.hours.length + (k + 1)) := by
  intro j hj
  by_cases e : j = i * b.hours.length + k
  · subst e; rintro ⟨_, h2⟩; rw [shown_at hi hk] at h2; exact hs h2
  · exact h j (by omega)
theorem wok_row {b : Board} {s i k : Nat} (hk : b.hours.length ≤ k) (hk2 : k ≤ b.hours.length) (h : WOK b s (i * b.hours.length + k)) : WOK b s ((i + 1) * b.hours.length + 0) := by
  have : k = b.hours.length := by omega
  subst this
  rw [Nat.succ_mul]; exact h
theorem wrongS_no {b : Board} {s i k : Nat} (hi : i < b.ctrs.length) (hk : k < b.hours.length) (hb : bit s (i * b.hours.length + k) = 1) (hs : b.ctrs[i].shown.getD k 0 = -1) : wrongS b s = false := by
  unfold wrongS
  rw [Bool.and_eq_false_iff]
  left
  rw [List.all_eq_false]
  have hlt : i * b.hours.length + k < b.hours.length * b.ctrs.length := by
    have h1 : (i + 1) * b.hours.length ≤ b.ctrs.length * b.hours.length := Nat.mul_le_mul_right _ (by omega)
    rw [Nat.succ_mul, Nat.mul_comm b.ctrs.length] at h1
    omega
  refine ⟨_, List.mem_range.2 hlt, ?_⟩
  rw [shown_at hi hk, hb, hs]; simp
theorem wrongS_yes {b : Board} {s i : Nat} (hi : b.ctrs.length ≤ i) (h : WOK b s (i * b.hours.length + 0)) : wrongS b s = !(truths (butB b s)).isEmpty := by
  unfold wrongS
  rw [List.all_eq_true.2, Bool.true_and]
  intro j hj
  rw [List.mem_range] at hj
  have h1 : b.ctrs.length * b.hours.length ≤ i * b.hours.length := Nat.mul_le_mul_right _ hi
  rw [Nat.mul_comm] at h1
  have := h j (by omega)
  simp only [Bool.not_eq_true', Bool.and_eq_false_iff, decide_eq_false_iff_not]
  by_cases e : bit s j = 1
  · exact .inr fun h2 => this ⟨e, h2⟩
  · exact .inl e
theorem mul_in8 {n c i k : Nat} (hn : n ≤ 4) (hc : c ≤ 2) (hi : i < c) (hk : k < n) : i * n + k < 8 ∧ i * n ≤ 4 := by
  have h1 : i * n ≤ 1 * 4 := Nat.mul_le_mul (by omega) hn
  omega
end Go.Rt.Ch
/- Plain words of the hand layer: grades as bits, one number of scars after the other. No conditions. -/
set_option linter.unusedSimpArgs false
set_option linter.unusedVariables false
namespace Go.Rt.Ha
theorem upto_snoc : ∀ (n : Nat) (lo : Int), upto lo (n + 1) = upto lo n ++ [lo + n]
  | 0, lo => by simp [upto]
  | n + 1, lo => by
    rw [upto, upto_snoc n (lo + 1)]
    simp only [upto, List.cons_append]
    rw [show lo + 1 + (n : Int) = lo + (n + 1 : Nat) by omega]
end Go.Rt.Ha
/- Plain words of the hand layer: sums of hands, step by step. No conditions. -/
set_option linter.unusedSimpArgs false
set_option linter.unusedVariables false
namespace Go.Rt.Ha
/-! ### How often -/
def oftL (b : Nat) (ws : List (List Int)) : List Int := (List.range 13).map fun n : Nat => often b (n : Int) ws
theorem ways_max : (4 : Nat) ^ 6 = 4096 := by decide
theorem felt_len {bs : List Bunch} (h : ∀ b ∈ bs, b.hi + 1 - b.lo ≤ 4) : (felt bs).length ≤ 4 ^ bs.length := by
  induction bs with
  | nil => simp [felt]
  | cons b bs ih =>
    have ih := ih fun x hx => h x (.tail _ hx)
    have hb := h b (.head _)
    have hl : (spanL b.lo b.hi).length ≤ 4 := by
      have : ∀ n lo, (upto lo n).length = n := by intro n; induction n with
        | zero => intro lo; rfl
        | succ n ih => intro lo; simp [upto, ih]
      unfold spanL; rw [this]; omega
    have key : ∀ xs : List Int, (xs.flatMap fun n => (felt bs).map (n :: ·)).length = xs.length * (felt bs).length := by
      intro xs
      induction xs with
      | nil => simp
      | cons x xs ih => rw [List.flatMap_cons, List.length_append, ih, List.length_map, List.length_cons, Nat.succ_mul]; omega
    simp only [felt]
    rw [key, List.length_cons, Nat.pow_succ, Nat.mul_comm]
    exact Nat.mul_le_mul ih hl
theorem ways_len {l : Lot} (hok : l.Ok) (but : Nat) : (ways l but).length ≤ 4096 := by
  have h1 := List.length_filter_le (fun h => soFrom but h 0 l.counts) (felt l.bunches)
  have h2 := felt_len (bs := l.bunches) (fun b hb => by have := hok.bunch b hb; omega)
  have h3 : 4 ^ l.bunches.length ≤ 4 ^ 6 := Nat.pow_le_pow_right (by omega) hok.lb
  have h4 := ways_max
  unfold ways; omega
end Go.Rt.Ha
/- Plain words of the hand layer: what the document's functions do, step by step. No conditions. -/
set_option linter.unusedSimpArgs false
set_option linter.unusedVariables false
namespace Go.Rt.Ha
theorem filt_yes {ws : List (List Int)} {p : List Int → Bool} {i : Nat} (hi : i < ws.length) (h : p ws[i] = true) : (ws.take (i + 1)).filter p = (ws.take i).filter p ++ [ws[i]] := by
  rw [List.take_succ_eq_append_getElem hi, List.filter_append]; simp [h]
theorem filt_no {ws : List (List Int)} {p : List Int → Bool} {i : Nat} (hi : i < ws.length) (h : p ws[i] = false) : (ws.take (i + 1)).filter p = (ws.take i).filter p := by
  rw [List.take_succ_eq_append_getElem hi, List.filter_append]; simp [h]
/-! ### All numbers, step by step -/
def feltTo (l : Lot) (i : Nat) : List (List Int) := felt (l.bunches.take i)
def fNext (b : Bunch) (h : List Int) : List (List Int) := (spanL b.lo b.hi).map fun n => h ++ [n]
def fTo (b : Bunch) (ws : List (List Int)) (k : Nat) : List (List Int) := (ws.take k).flatMap (fNext b)
theorem felt_zero (l : Lot) : feltTo l 0 = [[]] := rfl
theorem felt_step {l : Lot} {i : Nat} (hi : i < l.bunches.length) : fTo l.bunches[i] (feltTo l i) (feltTo l i).length = feltTo l (i + 1) := by
  unfold fTo feltTo
  rw [List.take_length, List.take_succ_eq_append_getElem hi, felt_snoc]; rfl
theorem fTo_succ {b : Bunch} {ws : List (List Int)} {k : Nat} (hk : k < ws.length) : fTo b ws (k + 1) = fTo b ws k ++ fNext b ws[k] := by
  unfold fTo; rw [List.take_succ_eq_append_getElem hk, List.flatMap_append]; simp
def fPart (b : Bunch) (h : List Int) (q : Nat) : List (List Int) := (upto b.lo q).map fun n => h ++ [n]
theorem fPart_succ (b : Bunch) (h : List Int) (q : Nat) : fPart b h (q + 1) = fPart b h q ++ [h ++ [b.lo + q]] := by unfold fPart; rw [upto_snoc, List.map_append]; rfl
theorem fPart_all {b : Bunch} {h : List Int} {q : Nat} (hq : q = (b.hi + 1 - b.lo).toNat) : fPart b h q = fNext b h := by subst hq; rfl
theorem upto_len : ∀ (n : Nat) (lo : Int), (upto lo n).length = n
  | 0, _ => rfl
  | n + 1, lo => by simp [upto, upto_len n]
theorem fPart_len (b : Bunch) (h : List Int) (q : Nat) : (fPart b h q).length = q := by simp [fPart, upto_len]
theorem fTo_len {b : Bunch} {ws : List (List Int)} (hb : b.hi + 1 - b.lo ≤ 4) (k : Nat) : (fTo b ws k).length ≤ 4 * ws.length := by
  have h1 : (fTo b ws k).length ≤ (ws.take k).length * 4 := flat_le _ fun x _ => by unfold fNext spanL; rw [List.length_map, upto_len]; omega
  have h2 : (ws.take k).length ≤ ws.length := by rw [List.length_take]; omega
  have h3 : (ws.take k).length * 4 ≤ ws.length * 4 := Nat.mul_le_mul_right 4 h2
  omega
/-! ### Errors -/
def kE (l : Lot) (e : Int) : Int := if e ≠ 0 then e else if ways l 0 = [] then 8 else 0
def idxC (l : Lot) (n : Int) (b : Nat) : Int := if (check l).2.2 = 0 then idxE n b else (check l).2.2
end Go.Rt.Ha
/- Plain words of the chain layer: what the document's functions do, step by step: errors, loads, steps. No conditions. -/
set_option linter.unusedSimpArgs false
set_option linter.unusedVariables false
namespace Go.Rt.Ch
open Go.Rt.Ha
theorem ends_cases (a b lo hi : Int) : (ends a b lo hi = 7 ∧ (out lo hi a || out lo hi b) = true) ∨ (ends a b lo hi = 2 ∧ (out lo hi a || out lo hi b) = false ∧ b < a) ∨ (ends a b lo hi = 0 ∧ (out lo hi a || out lo hi b) = false ∧ ¬ b < a) := by
  unfold ends
  cases h : (out lo hi a || out lo hi b)
  · by_cases h2 : b < a
    · exact .inr (.inl ⟨by simp [h2], rfl, h2⟩)
    · exact .inr (.inr ⟨by simp [h2], rfl, h2⟩)
  · exact .inl ⟨rfl, rfl⟩
theorem out_y {lo hi n : Int} : out lo hi n = true ↔ ¬ (lo ≤ n ∧ n ≤ hi) := by rw [← out_f]; simp
theorem hour_4 {holds : Int} {bf : List Hour} {h : Hour} (e : ¬ (0 ≤ h.hold ∧ h.hold ≤ holds - 1)) : hourE holds bf h = 4 := by unfold hourE; rw [if_pos (out_y.2 e)]
theorem hour_e {holds : Int} {bf : List Hour} {h : Hour} (e : 0 ≤ h.hold ∧ h.hold ≤ holds - 1) (e2 : ends h.lo h.hi 0 40 ≠ 0) : hourE holds bf h = ends h.lo h.hi 0 40 := by
  unfold hourE
  rw [out_f.2 e, if_neg (by simp)]
  rcases ends_cases h.lo h.hi 0 40 with ⟨h1, h2⟩ | ⟨h1, h2, h3⟩ | ⟨h1, _⟩
  · rw [if_pos h2, h1]
  · rw [h2, if_neg (by simp), if_pos (out_y.2 (by omega)), h1]
  · exact absurd h1 e2
theorem hour_2 {holds : Int} {bf : List Hour} {h : Hour} (e : 0 ≤ h.hold ∧ h.hold ≤ holds - 1) (e2 : ends h.lo h.hi 0 40 = 0) (e3 : 3 < h.hi - h.lo) : hourE holds bf h = 2 := by
  unfold hourE
  rw [out_f.2 e, if_neg (by simp)]
  rcases ends_cases h.lo h.hi 0 40 with ⟨h1, h2⟩ | ⟨h1, h2, h3⟩ | ⟨h1, h2, _⟩
  · omega
  · omega
  · rw [h2, if_neg (by simp), if_pos (out_y.2 (by omega))]
theorem hour_0 {holds : Int} {bf : List Hour} {h : Hour} (e : 0 ≤ h.hold ∧ h.hold ≤ holds - 1) (e2 : ends h.lo h.hi 0 40 = 0) (e3 : ¬ 3 < h.hi - h.lo) : hourE holds bf h = 0 := by
  unfold hourE
  rw [out_f.2 e, if_neg (by simp)]
  rcases ends_cases h.lo h.hi 0 40 with ⟨h1, h2⟩ | ⟨h1, h2, h3⟩ | ⟨h1, h2, h3⟩
  · omega
  · omega
  · rw [h2, if_neg (by simp), if_neg (by rw [out_f.2 (by omega)]; simp)]
/-- The error of a counter behind its name. -/
def ctrOwn (n : Nat) (c : Ctr) : Int := if (out 0 3 c.skip || out 0 3 c.twice) || out 0 99 c.start then 7 else if c.zero.length ≠ n ∨ c.shown.length ≠ n then 3 else if c.zero.any (out 0 2) || c.shown.any (out (-1) 99) then 7 else 0
theorem nameE_ref (b : List ByteArray) (s : ByteArray) : nameE b s = (if nmOk s = false then (6 : Int) else if has b s then 5 else 0) := by unfold nameE; cases nmOk s <;> cases has b s <;> simp
theorem ctrE_0 {n : Nat} {b : List Ctr} {c : Ctr} (h : (if nmOk c.name = false then (6 : Int) else if has (b.map (·.name)) c.name then 5 else 0) = 0) : ctrE n b c = ctrOwn n c := by unfold ctrE; rw [nameE_ref, h, if_neg (by simp)]; rfl
theorem ctrE_n {n : Nat} {b : List Ctr} {c : Ctr} (h : ¬ (if nmOk c.name = false then (6 : Int) else if has (b.map (·.name)) c.name then 5 else 0) = 0) : ctrE n b c = (if nmOk c.name = false then (6 : Int) else if has (b.map (·.name)) c.name then 5 else 0) := by unfold ctrE; rw [nameE_ref, if_pos h]
theorem own_7 {n : Nat} {c : Ctr} (h : ¬ (0 ≤ c.skip ∧ c.skip ≤ 3) ∨ ¬ (0 ≤ c.twice ∧ c.twice ≤ 3) ∨ ¬ (0 ≤ c.start ∧ c.start ≤ 99)) : ctrOwn n c = 7 := by
  unfold ctrOwn
  rw [if_pos]
  rw [Bool.or_eq_true, Bool.or_eq_true, out_y, out_y, out_y]
  rcases h with h | h | h
  · exact .inl (.inl h)
  · exact .inl (.inr h)
  · exact .inr h
theorem own_go {n : Nat} {c : Ctr} (h1 : 0 ≤ c.skip ∧ c.skip ≤ 3) (h2 : 0 ≤ c.twice ∧ c.twice ≤ 3) (h3 : 0 ≤ c.start ∧ c.start ≤ 99) : ctrOwn n c = if c.zero.length ≠ n ∨ c.shown.length ≠ n then 3 else if c.zero.any (out 0 2) || c.shown.any (out (-1) 99) then 7 else 0 := by
  unfold ctrOwn
  rw [if_neg]
  rw [out_f.2 h1, out_f.2 h2, out_f.2 h3]; simp
theorem own_3 {n : Nat} {c : Ctr} (h1 : 0 ≤ c.skip ∧ c.skip ≤ 3) (h2 : 0 ≤ c.twice ∧ c.twice ≤ 3) (h3 : 0 ≤ c.start ∧ c.start ≤ 99) (h : c.zero.length ≠ n ∨ c.shown.length ≠ n) : ctrOwn n c = 3 := by rw [own_go h1 h2 h3, if_pos h]
theorem own_b {n : Nat} {c : Ctr} (h1 : 0 ≤ c.skip ∧ c.skip ≤ 3) (h2 : 0 ≤ c.twice ∧ c.twice ≤ 3) (h3 : 0 ≤ c.start ∧ c.start ≤ 99) (hz : c.zero.length = n) (hs : c.shown.length = n) {i : Nat} (hi : i < n) (h : ¬ (0 ≤ c.zero[i] ∧ c.zero[i] ≤ 2) ∨ ¬ (-1 ≤ c.shown[i] ∧ c.shown[i] ≤ 99)) : ctrOwn n c = 7 := by
  rw [own_go h1 h2 h3, if_neg (by omega), if_pos]
  rw [Bool.or_eq_true, List.any_eq_true, List.any_eq_true]
  rcases h with h | h
  · exact .inl ⟨_, List.getElem_mem _, out_y.2 h⟩
  · exact .inr ⟨_, List.getElem_mem _, out_y.2 h⟩
theorem own_0 {n : Nat} {c : Ctr} (h1 : 0 ≤ c.skip ∧ c.skip ≤ 3) (h2 : 0 ≤ c.twice ∧ c.twice ≤ 3) (h3 : 0 ≤ c.start ∧ c.start ≤ 99) (hz : c.zero.length = n) (hs : c.shown.length = n) (h : (c.zero.take n).any (out 0 2) = false ∧ (c.shown.take n).any (out (-1) 99) = false) : ctrOwn n c = 0 := by
  rw [own_go h1 h2 h3, if_neg (by omega), if_neg]
  rw [List.take_of_length_le (by omega), List.take_of_length_le (by omega)] at h
  rw [h.1, h.2]; simp
theorem any_snoc {lo hi : Int} {l : List Int} {i : Nat} (hi2 : i < l.length) (h : (l.take i).any (out lo hi) = false) (h2 : lo ≤ l[i] ∧ l[i] ≤ hi) : (l.take (i + 1)).any (out lo hi) = false := by
  rw [List.take_succ_eq_append_getElem hi2, List.any_append, h]; simp [out_f.2 h2]
theorem chk_1 {b : Board} (h : ¬ (1 ≤ b.holds ∧ b.holds ≤ 3)) : check b = (1, 0, 7) := by unfold check; rw [if_pos (out_y.2 h)]
theorem chk_h {b : Board} {a e : Int} (h0 : 1 ≤ b.holds ∧ b.holds ≤ 3) (h : failE (hourE b.holds) 0 4 b.hours = (a, e)) (he : ¬ e = 0) : check b = (2, a, e) := by unfold check; rw [out_f.2 h0, if_neg (by simp), if_pos (by rw [h]; exact he), h]
theorem chk_c {b : Board} {a e : Int} (h0 : 1 ≤ b.holds ∧ b.holds ≤ 3) (h1 : (failE (hourE b.holds) 0 4 b.hours).2 = 0) (h : failE (ctrE b.hours.length) 0 2 b.ctrs = (a, e)) (he : ¬ e = 0) : check b = (3, a, e) := by unfold check; rw [out_f.2 h0, if_neg (by simp), if_neg (by simp [h1]), if_pos (by rw [h]; exact he), h]
theorem chk_0 {b : Board} (h0 : 1 ≤ b.holds ∧ b.holds ≤ 3) (h1 : (failE (hourE b.holds) 0 4 b.hours).2 = 0) (h2 : (failE (ctrE b.hours.length) 0 2 b.ctrs).2 = 0) : check b = (0, 0, 0) := by unfold check; rw [out_f.2 h0, if_neg (by simp), if_neg (by simp [h1]), if_neg (by simp [h2])]
theorem fail_most {α : Type} {err : List α → α → Int} {most : Int} {l : List α} (h : most < l.length) : failE err 0 most l = (0, 3) := by unfold failE; rw [if_pos (out_y.2 (by omega))]
theorem fail_go {α : Type} {err : List α → α → Int} {most : Int} {l : List α} (h : ¬ most < l.length) : failE err 0 most l = firstE err [] 0 l := by unfold failE; rw [out_f.2 (by omega), if_neg (by simp)]
/-! ### Loads -/
def fb (b : Board) : Lot := ⟨[], bun b, []⟩
theorem bun_len (b : Board) : (bun b).length = b.hours.length := by simp [bun]
theorem bun_at {b : Board} {i : Nat} (hi : i < b.hours.length) : (bun b)[i]'(by rw [bun_len]; exact hi) = ⟨b.hours[i].lo, b.hours[i].hi, 0, 0⟩ := by simp [bun]
theorem loads_at {b : Board} {l : List Int} (hl : l ∈ felt (bun b)) : l.length = b.hours.length ∧ ∀ i (hi : i < b.hours.length), b.hours[i].lo ≤ ld l i ∧ ld l i ≤ b.hours[i].hi := by
  obtain ⟨h1, h2⟩ := (felt_in _ _).1 hl
  rw [bun_len] at h1
  refine ⟨h1, fun i hi => ?_⟩
  have := h2 i (by rw [bun_len]; exact hi)
  rw [bun_at hi] at this; exact this
/-! ### Steps -/
def srow (load : Int) (w : Way) : List Value := [.int .i64 w.shows, .int .i64 (w.counts - load), .bool w.zero]
def srows (load : Int) (l : List Way) : List (List Value) := l.map (srow load)
def sTo (c : Ctr) (a : Nat) (s load : Int) : Nat → List Way
  | 0 => []
  | n + 1 => sTo c a s load n ++ stepsZ c a s load (decide (n = 1))
def sOne (c : Ctr) (a : Nat) (s load : Int) (z : Bool) (e : Int) : List Way := if 0 ≤ load + e then wayR c a s z (load + e) else []
def sPart (c : Ctr) (a : Nat) (s load : Int) (z : Bool) (q : Nat) : List Way := (upto (0 - c.skip) q).flatMap (sOne c a s load z)
/-! ### What is asked, by an hour -/
def qOf (h : Int) : Quest := fun a load w => (decide (h = -1) && decide (w.counts - load ≠ 0)) || (decide (h = (a : Int)) && w.zero)
end Go.Rt.Ch
/- Plain words of the chain layer: what the document's functions do, step by step: how counters fare, by tables; truths, spans. No conditions. -/
set_option linter.unusedSimpArgs false
set_option linter.unusedVariables false
namespace Go.Rt.Ch
open Go.Rt.Ha
/-- A table of 100 marks says this. -/
def Tab (l : List Bool) (P : Int → Prop) : Prop := l.length = 100 ∧ ∀ n : Nat, n < 100 → (l.getD n false = true ↔ P n)
def Nt (xs : List (Int × Bool)) (n : Int) : Prop := (n, false) ∈ xs
def Mt (xs : List (Int × Bool)) (n : Int) : Prop := (n, true) ∈ xs
/-- What comes of those that show less than s. -/
def NS (c : Ctr) (l : List Int) (q : Quest) (a : Nat) (s n : Int) : Prop := ∃ x ∈ fareTo c l q a, x.1 < s ∧ x.2 = false ∧ ∃ w ∈ stepsC c a x.1 (ld l a), q a (ld l a) w = false ∧ n = w.shows
def MS (c : Ctr) (l : List Int) (q : Quest) (a : Nat) (s n : Int) : Prop := ∃ x ∈ fareTo c l q a, x.1 < s ∧ ∃ w ∈ stepsC c a x.1 (ld l a), (x.2 || q a (ld l a) w) = true ∧ n = w.shows
/-- And of the first so many steps of those that show s. -/
def NP (c : Ctr) (l : List Int) (q : Quest) (a : Nat) (s : Int) (k : Nat) (n : Int) : Prop := NS c l q a s n ∨ ((s, false) ∈ fareTo c l q a ∧ ∃ w ∈ (stepsC c a s (ld l a)).take k, q a (ld l a) w = false ∧ n = w.shows)
def MP (c : Ctr) (l : List Int) (q : Quest) (a : Nat) (s : Int) (k : Nat) (n : Int) : Prop := MS c l q a s n ∨ ∃ w ∈ (stepsC c a s (ld l a)).take k, ((s, true) ∈ fareTo c l q a ∨ ((s, false) ∈ fareTo c l q a ∧ q a (ld l a) w = true)) ∧ n = w.shows
end Go.Rt.Ch
/- Plain words of the hand layer: spans, grades and others over the ways, step by step. No conditions. -/
set_option linter.unusedSimpArgs false
set_option linter.unusedVariables false
namespace Go.Rt.Ha
end Go.Rt.Ha
/- Plain words of the hand layer: totals, picks and others over the ways, step by step. No conditions. -/
set_option linter.unusedSimpArgs false
set_option linter.unusedVariables false
namespace Go.Rt.Ha
/-! ### Picks -/
def pickC (l : Lot) (g m : Int) : Int := if (check l).2.2 = 0 then pickE l g m else (check l).2.2
theorem find_next {s : List Int} {p : List Int → Bool} {k q : Nat} (h2 : (((choices s.length k).take q).map (pickL s)).find? p = none) (hq : q < (choices s.length k).length) (hp : p (pickL s (choices s.length k)[q]) = false) : (((choices s.length k).take (q + 1)).map (pickL s)).find? p = none := by
  rw [List.take_succ_eq_append_getElem hq, List.map_append, List.find?_append, h2, Option.none_or]
  simp [hp]
theorem find_on {s : List Int} {p : List Int → Bool} {k q : Nat} (h1 : (setsTo s k).find? p = none) (h2 : (((choices s.length k).take q).map (pickL s)).find? p = none) (hq : (choices s.length k).length ≤ q) : (setsTo s (k + 1)).find? p = none := by
  rw [List.take_of_length_le hq] at h2
  rw [setsTo, List.find?_append, h1, Option.none_or]; exact h2
theorem cTo_split {n k m : Nat} (h : k ≤ m) : ∃ r, choicesTo n m = choicesTo n k ++ r := by
  obtain ⟨d, rfl⟩ : ∃ d, m = k + d := ⟨m - k, by omega⟩
  clear h
  induction d with
  | zero => exact ⟨[], by simp⟩
  | succ d ih =>
    obtain ⟨r, hr⟩ := ih
    exact ⟨r ++ choices n (k + d), by rw [show k + (d + 1) = (k + d) + 1 by omega, choicesTo, hr, List.append_assoc]⟩
theorem cfind_here {n : Nat} {p : List Int → Bool} {k q : Nat} (hk : k < n) (h1 : (choicesTo n k).find? p = none) (h2 : ((choices n k).take q).find? p = none) (hq : q < (choices n k).length) (hp : p (choices n k)[q] = true) : (choicesTo n n).find? p = some (choices n k)[q] := by
  obtain ⟨r, hr⟩ := cTo_split (n := n) (k := k + 1) (m := n) (by omega)
  rw [hr, choicesTo, List.append_assoc, List.find?_append, h1, Option.none_or, List.find?_append]
  have : (choices n k).find? p = some (choices n k)[q] := by
    have e : ((choices n k).take q ++ (choices n k).drop q).find? p = some (choices n k)[q] := by
      rw [List.drop_eq_getElem_cons hq, List.find?_append, h2, Option.none_or, List.find?_cons, hp]
    rwa [List.take_append_drop] at e
  rw [this]; rfl
theorem cfind_next {n : Nat} {p : List Int → Bool} {k q : Nat} (h2 : ((choices n k).take q).find? p = none) (hq : q < (choices n k).length) (hp : p (choices n k)[q] = false) : ((choices n k).take (q + 1)).find? p = none := by
  rw [List.take_succ_eq_append_getElem hq, List.find?_append, h2, Option.none_or]; simp [hp]
theorem cfind_on {n : Nat} {p : List Int → Bool} {k q : Nat} (h1 : (choicesTo n k).find? p = none) (h2 : ((choices n k).take q).find? p = none) (hq : (choices n k).length ≤ q) : (choicesTo n (k + 1)).find? p = none := by
  rw [List.take_of_length_le hq] at h2
  rw [choicesTo, List.find?_append, h1, Option.none_or]; exact h2
theorem pick_idx {s : List Int} {k q j : Nat} (hq : q < (choices s.length k).length) (hj : j < ((choices s.length k)[q]).length) : 0 ≤ ((choices s.length k)[q])[j] ∧ ((choices s.length k)[q])[j].toNat < s.length := by
  have h1 := (choices_len (below := s.length) k _ (List.getElem_mem hq)).2 _ (List.getElem_mem hj)
  omega
theorem pickL_in {s : List Int} {k q : Nat} (hq : q < (choices s.length k).length) : ∀ z ∈ pickL s (choices s.length k)[q], z ∈ s := by
  intro z hz
  unfold pickL at hz
  obtain ⟨y, hy, rfl⟩ := List.mem_map.1 hz
  have h1 := (choices_len (below := s.length) k _ (List.getElem_mem hq)).2 y hy
  have hl : y.toNat < s.length := by omega
  simp only [List.getD, List.getElem?_eq_getElem hl, Option.getD_some]
  exact List.getElem_mem hl
end Go.Rt.Ha
/- Plain words of the chain layer: what the document's functions do, step by step: truths, spans, what is told. No conditions. -/
set_option linter.unusedSimpArgs false
set_option linter.unusedVariables false
namespace Go.Rt.Ch
open Go.Rt.Ha
def kE (b : Board) (e : Int) : Int := if e ≠ 0 then e else if truths b = [] then 8 else 0
def idxC (b : Board) (n m : Int) : Int := if (check b).2.2 = 0 then idxE n m else (check b).2.2
/-- The error of a counter and an hour. -/
def idx2C (b : Board) (c n a m : Int) : Int := if idxC b c n = 0 then idxC b a m else idxC b c n
def looksC (b : Board) (h n : Int) : Int := if idxC b h b.holds = 0 ∧ n < 0 then 7 else idxC b h b.holds
theorem felt_40 {b : Board} (hok : b.Ok) {l : List Int} (h : l ∈ felt (bun b)) (k : Nat) : 0 ≤ ld l k ∧ ld l k ≤ 40 := by
  obtain ⟨h1, h2⟩ := loads_at h
  by_cases hk : k < b.hours.length
  · have := h2 k hk
    have ho := hok.hour _ (List.getElem_mem hk)
    have h3 := ho.lo
    have h4 := ho.hi
    omega
  · have : ld l k = 0 := by simp [ld, List.getD, List.getElem?_eq_none (by omega : l.length ≤ k)]
    omega
theorem ld_at {l : List Int} {k : Nat} (h : k < l.length) : ld l k = l[k] := by simp [ld, List.getD, h]
/-! ### Those that are the same at some hours -/
def likeB (hours l m : List Int) : Bool := hours.all fun z => decide (ld m z.toNat = ld l z.toNat)
def like (ws : List (List Int)) (l hours : List Int) : List (List Int) := ws.filter (likeB hours l)
def tellsR (b : Board) (ws : List (List Int)) (hours : List Int) (hold within : Int) : Bool := ws.all fun l => decide ((hullL (inH b hold) (like ws l hours)).2 - (hullL (inH b hold) (like ws l hours)).1 ≤ within)
/-! ### Looks -/
end Go.Rt.Ch
/- Plain laws of the chain layer: spans hold what they span; what lies in a hold. No program in sight. No conditions. -/
set_option linter.unusedSimpArgs false
set_option linter.unusedVariables false
namespace Go.Rt.Ch
open Go.Rt.Ha
def someB (b : Board) : Bool := decide ((check b).2.2 = 0) && !(truths b).isEmpty
theorem someB_y {b : Board} (h : someB b = true) : (check b).2.2 = 0 ∧ b.Ok ∧ truths b ≠ [] := by
  unfold someB at h
  simp only [Bool.and_eq_true, decide_eq_true_eq, Bool.not_eq_true'] at h
  exact ⟨h.1, check_ok h.1, fun e => by rw [e] at h; simp at h⟩
theorem someB_n {b : Board} (h : someB b = false) (e : Int) : enterE b e ≠ 0 := by
  intro he
  obtain ⟨h1, h2, h3⟩ := enterE_ok he
  unfold someB at h
  rw [decide_eq_true h1] at h
  cases ht : truths b with
  | nil => exact h3 ht
  | cons x y => rw [ht] at h; simp at h
theorem fold_spec (f : List Int → Int) : ∀ (r : List (List Int)) (s : Int × Int), (r.foldl (fun s x => (min s.1 (f x), max s.2 (f x))) s).1 ≤ s.1 ∧ s.2 ≤ (r.foldl (fun s x => (min s.1 (f x), max s.2 (f x))) s).2 ∧
    (∀ l ∈ r, (r.foldl (fun s x => (min s.1 (f x), max s.2 (f x))) s).1 ≤ f l ∧ f l ≤ (r.foldl (fun s x => (min s.1 (f x), max s.2 (f x))) s).2) ∧
    ((r.foldl (fun s x => (min s.1 (f x), max s.2 (f x))) s).1 = s.1 ∨ ∃ l ∈ r, (r.foldl (fun s x => (min s.1 (f x), max s.2 (f x))) s).1 = f l) ∧
    ((r.foldl (fun s x => (min s.1 (f x), max s.2 (f x))) s).2 = s.2 ∨ ∃ l ∈ r, (r.foldl (fun s x => (min s.1 (f x), max s.2 (f x))) s).2 = f l)
  | [], s => ⟨Int.le_refl _, Int.le_refl _, fun l h => (nomatch h), .inl rfl, .inl rfl⟩
  | x :: r, s => by
    obtain ⟨h1, h2, h3, h4, h5⟩ := fold_spec f r (min s.1 (f x), max s.2 (f x))
    simp only [List.foldl_cons]
    dsimp only at h1 h2 h4 h5
    generalize r.foldl (fun s x => (min s.1 (f x), max s.2 (f x))) (min s.1 (f x), max s.2 (f x)) = t at h1 h2 h3 h4 h5 ⊢
    refine ⟨by clear h4 h5; omega, by clear h4 h5; omega, fun l hl => ?_, ?_, ?_⟩
    · clear h4 h5
      rcases List.mem_cons.1 hl with rfl | hl
      · omega
      · exact h3 l hl
    · clear h5
      rcases h4 with h | ⟨l, hl, h⟩
      · by_cases hm : s.1 ≤ f x
        · exact .inl (by omega)
        · exact .inr ⟨x, .head _, by omega⟩
      · exact .inr ⟨l, .tail _ hl, h⟩
    · clear h4
      rcases h5 with h | ⟨l, hl, h⟩
      · by_cases hm : f x ≤ s.2
        · exact .inl (by omega)
        · exact .inr ⟨x, .head _, by omega⟩
      · exact .inr ⟨l, .tail _ hl, h⟩
theorem hull_spec {f : List Int → Int} {ws : List (List Int)} (h : ws ≠ []) : (∃ l ∈ ws, (hullL f ws).1 = f l) ∧ (∃ l ∈ ws, (hullL f ws).2 = f l) ∧ ∀ l ∈ ws, (hullL f ws).1 ≤ f l ∧ f l ≤ (hullL f ws).2 := by
  match ws, h with
  | a :: r, _ =>
    obtain ⟨h1, h2, h3, h4, h5⟩ := fold_spec f r (f a, f a)
    show (∃ l ∈ a :: r, (r.foldl (fun s x => (min s.1 (f x), max s.2 (f x))) (f a, f a)).1 = f l) ∧ (∃ l ∈ a :: r, (r.foldl (fun s x => (min s.1 (f x), max s.2 (f x))) (f a, f a)).2 = f l) ∧ ∀ l ∈ a :: r, (r.foldl (fun s x => (min s.1 (f x), max s.2 (f x))) (f a, f a)).1 ≤ f l ∧ f l ≤ (r.foldl (fun s x => (min s.1 (f x), max s.2 (f x))) (f a, f a)).2
    refine ⟨?_, ?_, fun l hl => ?_⟩
    · rcases h4 with h | ⟨l, hl, h⟩
      · exact ⟨a, .head _, h⟩
      · exact ⟨l, .tail _ hl, h⟩
    · rcases h5 with h | ⟨l, hl, h⟩
      · exact ⟨a, .head _, h⟩
      · exact ⟨l, .tail _ hl, h⟩
    · rcases List.mem_cons.1 hl with rfl | hl
      · exact ⟨h1, h2⟩
      · exact h3 l hl
/-! ### What is told of a board that has a truth -/
def wentH (b : Board) (k : Nat) : Int × Int := hullL (fun l => ld l k) (truths b)
theorem out_no {n m : Int} (h : 0 ≤ n ∧ n < m) : idxE n m = 0 := by unfold idxE; rw [if_neg (by rw [out_f.2 ⟨h.1, by omega⟩]; simp)]
theorem went_at {b : Board} (hs : someB b = true) {k : Nat} (hk : k < b.hours.length) : wentP b (k : Int) = (wentH b k, 0) := by
  obtain ⟨h1, h2, h3⟩ := someB_y hs
  unfold wentP wentH
  rw [enterE_4 h1 (out_no (by omega)) h3, if_neg (by simp)]; rfl
theorem hold_at {b : Board} (hs : someB b = true) {k : Nat} (hk : (k : Int) < b.holds) : holdP b (k : Int) = (hullL (inH b (k : Int)) (truths b), 0) := by
  obtain ⟨h1, h2, h3⟩ := someB_y hs
  unfold holdP
  rw [enterE_4 h1 (out_no (by omega)) h3, if_neg (by simp)]
theorem hold_no {b : Board} (hs : someB b = false) (x : Int) : (holdP b x).2 ≠ 0 := by
  unfold holdP
  rw [if_pos (someB_n hs _)]
  exact someB_n hs _
def hsum (b : Board) (hold : Int) : Nat → Int × Int
  | 0 => (0, 0)
  | k + 1 => if (hourOf b k).hold = hold then ((hsum b hold k).1 + (wentH b k).1, (hsum b hold k).2 + (wentH b k).2) else hsum b hold k
def hmany (b : Board) (hold : Int) : Nat → Int
  | 0 => 0
  | k + 1 => if (hourOf b k).hold = hold then hmany b hold k + 1 else hmany b hold k
end Go.Rt.Ch
