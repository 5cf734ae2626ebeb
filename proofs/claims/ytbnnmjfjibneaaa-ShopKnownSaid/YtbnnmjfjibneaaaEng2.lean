/- The walking engine, part 2: what is known of a world (a list of blocks laid since a base world), and what each operation yields. No conditions. -/
import Derived.Test.YtbnnmjfjibneaaaEng1
set_option linter.unusedSimpArgs false
set_option linter.unusedVariables false
namespace Go.Rt
open Go.RowKit

/-! ### Worlds -/
def blk (t : TypeId) (cs : List Value) : Obj := .cells cs.toArray t (0, 0)
/-- Since the base world w0 nothing that was there has turned; these blocks, laid since, hold this; no two are one. -/
structure St (w0 w : World) (L : List (Nat × Obj)) : Prop where
  below : Below w0.heap.size w0 w
  has : ∀ x ∈ L, w0.heap.size ≤ x.1 ∧ w.heap[x.1]? = some x.2
  nd : (L.map Prod.fst).Nodup
variable {w0 w : World} {L : List (Nat × Obj)}
theorem St.nil (w : World) : St w w [] := ⟨Below.refl _ _, (fun _ h => by cases h), List.nodup_nil⟩
theorem St.tail {x : Nat × Obj} (h : St w0 w (x :: L)) : St w0 w L :=
  ⟨h.below, fun y hy => h.has y (.tail _ hy), by have := h.nd; simp only [List.map_cons, List.nodup_cons] at this; exact this.2⟩
theorem St.drop {L' : List (Nat × Obj)} (h : St w0 w (L' ++ L)) : St w0 w L := by
  induction L' with
  | nil => exact h
  | cons x L' ih => exact ih h.tail
theorem St.perm {L' : List (Nat × Obj)} (h : St w0 w L) (hp : L.Perm L') : St w0 w L' :=
  ⟨h.below, fun x hx => h.has x (hp.mem_iff.2 hx), (hp.map Prod.fst).nodup_iff.1 h.nd⟩
theorem St.get {i b : Nat} {o : Obj} (h : St w0 w L) (hi : L[i]? = some (b, o)) : w.heap[b]? = some o := (h.has (b, o) (List.mem_of_getElem? hi)).2
theorem St.base {i b : Nat} {o : Obj} (h : St w0 w L) (hi : L[i]? = some (b, o)) : w0.heap.size ≤ b := (h.has (b, o) (List.mem_of_getElem? hi)).1
theorem St.lt {x : Nat × Obj} (h : St w0 w L) (hx : x ∈ L) : x.1 < w.heap.size := by
  have := (h.has x hx).2
  exact (Array.getElem?_eq_some_iff.1 this).1
theorem St.le (h : St w0 w L) : w0.heap.size ≤ w.heap.size := h.below.size
theorem St.drew (h : St w0 w L) : St w0 { w with drawn := w.drawn + 1 } L := ⟨h.below.drew, h.has, h.nd⟩
theorem St.alloc (h : St w0 w L) (o : Obj) : St w0 (w.alloc o) ((w.heap.size, o) :: L) := by
  refine ⟨h.below.alloc h.le o, ?_, ?_⟩
  · intro x hx
    cases hx with
    | head => exact ⟨h.le, World.alloc_heap_new w o⟩
    | tail _ hx => exact ⟨(h.has x hx).1, by rw [Below.heap_alloc w o _ (h.lt hx)]; exact (h.has x hx).2⟩
  · simp only [List.map_cons, List.nodup_cons]
    refine ⟨?_, h.nd⟩
    intro hm
    obtain ⟨x, hx, he⟩ := List.mem_map.1 hm
    have := h.lt hx
    omega
theorem nodup_set {i b : Nat} {o o' : Obj} (hi : L[i]? = some (b, o)) (h : (L.map Prod.fst).Nodup) : ((L.set i (b, o')).map Prod.fst).Nodup := by
  have : (L.set i (b, o')).map Prod.fst = L.map Prod.fst := by
    rw [List.map_set]
    apply List.ext_getElem?
    intro j
    rw [List.getElem?_set]
    split
    · rename_i e; subst e
      simp only [List.length_map, List.getElem?_map, hi, Option.map_some]
      rw [if_pos (List.getElem?_eq_some_iff.1 hi).1]
    · rfl
  rw [this]; exact h
theorem mem_set {i b : Nat} {o o' : Obj} {x : Nat × Obj} (hi : L[i]? = some (b, o)) (hnd : (L.map Prod.fst).Nodup) (hx : x ∈ L.set i (b, o')) : x = (b, o') ∨ (x ∈ L ∧ x.1 ≠ b) := by
  obtain ⟨j, hj⟩ := List.mem_iff_getElem?.1 hx
  rw [List.getElem?_set] at hj
  by_cases e : i = j
  · rw [if_pos e] at hj
    split at hj
    · cases hj; exact .inl rfl
    · cases hj
  · rw [if_neg e] at hj
    refine .inr ⟨List.mem_of_getElem? hj, fun hb => e ?_⟩
    have h1 : (L.map Prod.fst)[i]? = some b := by simp [hi]
    have h2 : (L.map Prod.fst)[j]? = some b := by simp [hj, hb]
    have hi' := List.getElem?_eq_some_iff.1 h1
    have hj' := List.getElem?_eq_some_iff.1 h2
    exact (List.getElem_inj hnd).1 (hi'.2.trans hj'.2.symm)
/-- Whatever a known block becomes, the others stay. -/
theorem St.become {w' : World} {i b : Nat} {o o' : Obj} (h : St w0 w L) (hi : L[i]? = some (b, o)) (hs : w'.heap.size = w.heap.size) (hb : w'.heap[b]? = some o')
    (ho : ∀ k, k ≠ b → w'.heap[k]? = w.heap[k]?) (e1 : w'.os = w.os) (e2 : w'.tape = w.tape) (e3 : w'.output = w.output) : St w0 w' (L.set i (b, o')) := by
  have hbase := h.base hi
  refine ⟨h.below.trans ⟨e1, e2, e3, by omega, fun k hk => ho k (by omega)⟩, ?_, nodup_set hi h.nd⟩
  intro x hx
  rcases mem_set hi h.nd hx with rfl | ⟨hm, hne⟩
  · exact ⟨hbase, hb⟩
  · exact ⟨(h.has x hm).1, by rw [ho _ hne]; exact (h.has x hm).2⟩
theorem St.putObj {i b : Nat} {o : Obj} (h : St w0 w L) (hi : L[i]? = some (b, o)) (o' : Obj) : St w0 (w.putObj b o') (L.set i (b, o')) := by
  have hlt : b < w.heap.size := h.lt (List.mem_of_getElem? hi)
  exact h.become hi World.putObj_size (World.putObj_heap_same hlt) (fun k hk => World.putObj_heap_other hk) rfl rfl rfl
theorem St.setCell {i b : Nat} {t : TypeId} {cs : List Value} (h : St w0 w L) (hi : L[i]? = some (b, blk t cs)) (off : Nat) (v : Value) :
    St w0 (w.setCell ⟨b, off, none⟩ v) (L.set i (b, blk t (cs.set off v))) := by
  have hg := h.get hi
  refine h.become hi (by simp [World.setCell]) ?_ (fun k hk => Below.heap_setCell w _ v k hk) rfl rfl rfl
  simp only [World.setCell, Array.getElem?_modify, if_true, hg, Option.map_some]
  simp [blk]
theorem cell_of {b off : Nat} {t : TypeId} {cs : List Value} {fz : Nat × Nat} (h : w.heap[b]? = some (.cells cs.toArray t fz)) : w.cell? ⟨b, off, none⟩ = cs[off]? := by
  simp [World.cell?, h]
theorem St.cell {i b off : Nat} {t : TypeId} {cs : List Value} {v : Value} (h : St w0 w L) (hi : L[i]? = some (b, blk t cs)) (hv : cs[off]? = some v) : w.cell? ⟨b, off, none⟩ = some v := by
  rw [cell_of (h.get hi), hv]
theorem St.free {i b off : Nat} {t : TypeId} {cs : List Value} (h : St w0 w L) (hi : L[i]? = some (b, blk t cs)) : w.frozen? ⟨b, off, none⟩ = false := by
  simp [World.frozen?, h.get hi, blk]

/-! ### Reading -/
/-- In every world of which this is known the cell holds v. -/
def At (w0 : World) (L : List (Nat × Obj)) (a : Addr) (v : Value) : Prop := ∀ w, St w0 w L → w.cell? a = some v
/-- What lies at an address, cell by cell. -/
def Ats (w0 : World) (L : List (Nat × Obj)) (b off : Nat) (vs : List Value) : Prop := ∀ j v, vs[j]? = some v → At w0 L ⟨b, off + j, none⟩ v
theorem ats_own {i b off : Nat} {t : TypeId} {cs vs : List Value} (hi : L[i]? = some (b, blk t cs)) (hv : (cs.drop off).take vs.length = vs) : Ats w0 L b off vs := by
  intro j v hj w hw
  rw [cell_of (hw.get hi)]
  rw [← hv, List.getElem?_take] at hj
  split at hj
  · rwa [List.getElem?_drop] at hj
  · cases hj
theorem Ats.mono {L' : List (Nat × Obj)} {b off : Nat} {vs : List Value} (h : Ats w0 L b off vs) (hs : ∀ w, St w0 w L' → St w0 w L) : Ats w0 L' b off vs :=
  fun j v hj w hw => h j v hj w (hs w hw)
theorem ats_base {b off : Nat} {vs : List Value} (h : ∀ j v, vs[j]? = some v → w0.cell? ⟨b, off + j, none⟩ = some v) : Ats w0 [] b off vs := by
  intro j v hj w hw
  have h0 := h j v hj
  have hb : b < w0.heap.size := by
    simp only [World.cell?] at h0
    rcases Nat.lt_or_ge b w0.heap.size with h1 | h1
    · exact h1
    · rw [Array.getElem?_eq_none h1] at h0; cases h0
  rw [hw.below.cell (p := ⟨b, off + j, none⟩) hb]
  exact h0
theorem Ats.part {b off : Nat} {vs : List Value} (h : Ats w0 L b off vs) (k m : Nat) : Ats w0 L b (off + k) ((vs.drop k).take m) := by
  intro j v hj
  rw [List.getElem?_take] at hj
  split at hj
  · rw [List.getElem?_drop] at hj
    have := h (k + j) v hj
    rwa [← Nat.add_assoc] at this
  · cases hj
theorem run_load_at {P : Program} {b off : Nat} {v : Value} (hst : St w0 w L) (h : At w0 L ⟨b, off, none⟩ v) : (load ⟨b, off, none⟩).run P w = .ok v w := by
  have := h w hst
  simp [load, Sem.run, this]
theorem run_loadVar1 {P : Program} {t : TypeId} {b off : Nat} {v : Value} (ha : ∀ w, (isAgg t).run P w = .ok false w) (hst : St w0 w L) (h : Ats w0 L b off [v]) :
    (loadVar t ⟨b, off, none⟩).run P w = .ok v w := by
  unfold loadVar
  rw [Sem.run_bind, ha]
  exact run_load_at hst (h 0 v rfl)
theorem run_loadVarN {P : Program} {t : TypeId} {b off : Nat} {vs : List Value} (ha : ∀ w, (isAgg t).run P w = .ok true w) (hs : ∀ w, (sizeOf t).run P w = .ok vs.length w)
    (hst : St w0 w L) (h : Ats w0 L b off vs) : (loadVar t ⟨b, off, none⟩).run P w = .ok (.agg vs.toArray) w := by
  unfold loadVar
  have := run_loadCells_list (P := P) (w := w) ⟨b, off, none⟩ vs (fun j v hj => by rw [Addr.add_lit]; exact h j v hj w hst)
  rw [Sem.run_bind, ha]
  simp only [Result.andThen, if_true]
  rw [Sem.run_bind, hs]
  simp only [Result.andThen]
  rw [Sem.run_bind, this]
  rfl

/-! ### What operations yield -/
theorem bytes_beq (a b : ByteArray) : (a.toList == b.toList) = decide (a = b) := by
  rw [Bool.eq_iff_iff, beq_iff_eq, decide_eq_true_eq]
  constructor
  · intro h
    rw [ByteArray.toList_eq, ByteArray.toList_eq] at h
    obtain ⟨⟨x⟩⟩ := a
    obtain ⟨⟨y⟩⟩ := b
    simp at h
    rw [h]
  · rintro rfl; rfl
section yields
variable {P : Program} {n : Nat} {ρ : Nat → Value} {ds : List Deferred} {d : Option Tmp} {ty : TypeId} {p : String} {e : Array Edge} {g : Option (Nat × Bool)}
theorem y_move {x : Operand} {v : Value} (ho : okO n x = true) (hv : ev ρ x = v) : Yd P (A n ρ ds) ⟨d, .move x, ty, p, e, g⟩ w v := by
  simp [Yd, execOp, ev_eq ho, hv]
theorem y_assign {x : Operand} {v : Value} (ho : okO n x = true) (hv : ev ρ x = v) : Yd P (A n ρ ds) ⟨d, .assign x, ty, p, e, g⟩ w v := by
  simp [Yd, execOp, ev_eq ho, hv]
theorem y_moveI {x : Operand} {k : IntKind} {z : Int} (ho : okO n x = true) (hv : ev ρ x = .int k z) : Yd P (A n ρ ds) ⟨d, .move x, ty, p, e, g⟩ w (.int k z) := y_move ho hv
theorem y_assignI {x : Operand} {k : IntKind} {z : Int} (ho : okO n x = true) (hv : ev ρ x = .int k z) : Yd P (A n ρ ds) ⟨d, .assign x, ty, p, e, g⟩ w (.int k z) := y_assign ho hv
theorem y_moveB {x : Operand} {z : Bool} (ho : okO n x = true) (hv : ev ρ x = .bool z) : Yd P (A n ρ ds) ⟨d, .move x, ty, p, e, g⟩ w (.bool z) := y_move ho hv
theorem y_assignB {x : Operand} {z : Bool} (ho : okO n x = true) (hv : ev ρ x = .bool z) : Yd P (A n ρ ds) ⟨d, .assign x, ty, p, e, g⟩ w (.bool z) := y_assign ho hv
theorem y_pickT {c x y : Operand} {v : Value} (ho : okO n c = true) (ho1 : okO n x = true) (hc : ev ρ c = .bool true) (hv : ev ρ x = v) : Yd P (A n ρ ds) ⟨d, .pick c x y, ty, p, e, g⟩ w v := by
  simp [Yd, execOp, ev_eq ho, ev_eq ho1, hv, hc, asBool, Sem.run_bind, Result.andThen]
theorem y_pickF {c x y : Operand} {v : Value} (ho : okO n c = true) (ho1 : okO n y = true) (hc : ev ρ c = .bool false) (hv : ev ρ y = v) : Yd P (A n ρ ds) ⟨d, .pick c x y, ty, p, e, g⟩ w v := by
  simp [Yd, execOp, ev_eq ho, ev_eq ho1, hv, hc, asBool, Sem.run_bind, Result.andThen]
theorem y_bin {op : BinOp} {t t2 : TypeId} {x y : Operand} {k : IntKind} {a b : Int} {v : Value} (ho : okO n x = true) (ho1 : okO n y = true) (hx : ev ρ x = .int k a) (hy : ev ρ y = .int k b)
    (h : ∀ w, (binOp op t (.int k a) (.int k b)).run P w = .ok v w) : Yd P (A n ρ ds) ⟨d, .binOp op t x y t2, ty, p, e, g⟩ w v := by
  simp [Yd, execOp, ev_eq ho, ev_eq ho1, hx, hy, eqGuard_at_int, Sem.run_bind, h, Result.andThen]
theorem y_lss {t t2 : TypeId} {x y : Operand} {k : IntKind} {a b : Int} (ho : okO n x = true) (ho1 : okO n y = true) (hx : ev ρ x = .int k a) (hy : ev ρ y = .int k b) :
    Yd P (A n ρ ds) ⟨d, .binOp .lss t x y t2, ty, p, e, g⟩ w (.bool (decide (a < b))) := y_bin ho ho1 hx hy fun w => by simp [binOp_lss]
theorem y_leq {t t2 : TypeId} {x y : Operand} {k : IntKind} {a b : Int} (ho : okO n x = true) (ho1 : okO n y = true) (hx : ev ρ x = .int k a) (hy : ev ρ y = .int k b) :
    Yd P (A n ρ ds) ⟨d, .binOp .leq t x y t2, ty, p, e, g⟩ w (.bool (decide (a ≤ b))) := y_bin ho ho1 hx hy fun w => by simp [binOp_leq]
theorem y_gtr {t t2 : TypeId} {x y : Operand} {k : IntKind} {a b : Int} (ho : okO n x = true) (ho1 : okO n y = true) (hx : ev ρ x = .int k a) (hy : ev ρ y = .int k b) :
    Yd P (A n ρ ds) ⟨d, .binOp .gtr t x y t2, ty, p, e, g⟩ w (.bool (decide (b < a))) := y_bin ho ho1 hx hy fun w => by simp [binOp_gtr]
theorem y_geq {t t2 : TypeId} {x y : Operand} {k : IntKind} {a b : Int} (ho : okO n x = true) (ho1 : okO n y = true) (hx : ev ρ x = .int k a) (hy : ev ρ y = .int k b) :
    Yd P (A n ρ ds) ⟨d, .binOp .geq t x y t2, ty, p, e, g⟩ w (.bool (decide (b ≤ a))) := y_bin ho ho1 hx hy fun w => by simp [binOp_geq]
theorem y_eql {t t2 : TypeId} {x y : Operand} {k : IntKind} {a b : Int} (ho : okO n x = true) (ho1 : okO n y = true) (hx : ev ρ x = .int k a) (hy : ev ρ y = .int k b) :
    Yd P (A n ρ ds) ⟨d, .binOp .eql t x y t2, ty, p, e, g⟩ w (.bool (decide (a = b))) := y_bin ho ho1 hx hy fun w => by rw [binOp_eql]; rfl
theorem y_neq {t t2 : TypeId} {x y : Operand} {k : IntKind} {a b : Int} (ho : okO n x = true) (ho1 : okO n y = true) (hx : ev ρ x = .int k a) (hy : ev ρ y = .int k b) :
    Yd P (A n ρ ds) ⟨d, .binOp .neq t x y t2, ty, p, e, g⟩ w (.bool (!decide (a = b))) := y_bin ho ho1 hx hy fun w => by rw [binOp_neq]; rfl
theorem wrap_in {z : Int} (h1 : -9223372036854775808 ≤ z) (h2 : z ≤ 9223372036854775807) : IntKind.i64.wrap z = z := IntWalk.i64_in z ⟨h1, h2⟩
theorem y_add {t t2 : TypeId} {x y : Operand} {a b : Int} (ho : okO n x = true) (ho1 : okO n y = true) (hx : ev ρ x = .int .i64 a) (hy : ev ρ y = .int .i64 b) (h1 : -9223372036854775808 ≤ a + b) (h2 : a + b ≤ 9223372036854775807) :
    Yd P (A n ρ ds) ⟨d, .binOp .add t x y t2, ty, p, e, g⟩ w (.int .i64 (a + b)) := y_bin ho ho1 hx hy fun w => by simp [binOp_add, Op.intArith, wrap_in h1 h2]
theorem y_sub {t t2 : TypeId} {x y : Operand} {a b : Int} (ho : okO n x = true) (ho1 : okO n y = true) (hx : ev ρ x = .int .i64 a) (hy : ev ρ y = .int .i64 b) (h1 : -9223372036854775808 ≤ a - b) (h2 : a - b ≤ 9223372036854775807) :
    Yd P (A n ρ ds) ⟨d, .binOp .sub t x y t2, ty, p, e, g⟩ w (.int .i64 (a - b)) := y_bin ho ho1 hx hy fun w => by simp [binOp_sub, Op.intArith, wrap_in h1 h2]
theorem y_mul {t t2 : TypeId} {x y : Operand} {a b : Int} (ho : okO n x = true) (ho1 : okO n y = true) (hx : ev ρ x = .int .i64 a) (hy : ev ρ y = .int .i64 b) (h1 : -9223372036854775808 ≤ a * b) (h2 : a * b ≤ 9223372036854775807) :
    Yd P (A n ρ ds) ⟨d, .binOp .mul t x y t2, ty, p, e, g⟩ w (.int .i64 (a * b)) := y_bin ho ho1 hx hy fun w => by simp [binOp_mul, Op.intArith, wrap_in h1 h2]
theorem y_not {t : TypeId} {x : Operand} {b : Bool} (ho : okO n x = true) (hx : ev ρ x = .bool b) : Yd P (A n ρ ds) ⟨d, .unOp .not t x, ty, p, e, g⟩ w (.bool (!b)) := by
  simp [Yd, execOp, ev_eq ho, hx, Op.unary, Sem.run_bind, Result.andThen]
theorem fieldAt_fact {s i k : Nat} {fs : Array Field} {f : Field} (hU : P.underlying s = some (.struct fs)) (hf : fs[i]? = some f) (hs : ∀ w, (sizeOf f.type).run P w = .ok (k + 1) w) :
    ∀ b off w, (Instr.fieldAt s (.pointer (some ⟨b, off, none⟩)) i).run P w = .ok (.pointer (some ⟨b, off + f.offset, none⟩)) w := by
  intro b off w
  simp [Instr.fieldAt, Instr.sureAddr, fieldPlace, Sem.run_bind, run_underlying hU, hf, hs, Result.andThen, Addr.add_lit]
theorem y_fieldAddr {s i o b off k : Nat} {fs : Array Field} {f : Field} {x : Operand} (hU : P.underlying s = some (.struct fs)) (hf : fs[i]? = some f) (hs : ∀ w, (sizeOf f.type).run P w = .ok (k + 1) w) (hfo : f.offset = o) (ho : okO n x = true) (hx : ev ρ x = .pointer (some ⟨b, off, none⟩)) :
    Yd P (A n ρ ds) ⟨d, .fieldAddr s x i, ty, p, e, g⟩ w (.pointer (some ⟨b, off + o, none⟩)) := by
  subst hfo
  have h := fieldAt_fact hU hf hs b off w
  simp [Yd, execOp, ev_eq ho, hx, Sem.run_bind, h, Result.andThen]
theorem y_nilCheck {x : Operand} {a : Addr} (ho : okO n x = true) (hx : ev ρ x = .pointer (some a)) : Yd P (A n ρ ds) ⟨d, .nilCheck x, ty, p, e, g⟩ w (.pointer (some a)) := by
  simp [Yd, execOp, ev_eq ho, hx]
theorem y_load1 {t : TypeId} {x : Operand} {b off : Nat} {v : Value} (ha : ∀ w, (isAgg t).run P w = .ok false w) (hst : St w0 w L) (ho : okO n x = true) (hx : ev ρ x = .pointer (some ⟨b, off, none⟩)) (h : Ats w0 L b off [v]) :
    Yd P (A n ρ ds) ⟨d, .load t x, ty, p, e, g⟩ w v := by
  have := run_loadVar1 ha hst h
  simp [Yd, execOp, ev_eq ho, hx, Sem.run_bind, Instr.loadAt, Instr.sureAddr, this, Result.andThen]
theorem y_loadN {t : TypeId} {x : Operand} {b off : Nat} {vs : List Value} (ha : ∀ w, (isAgg t).run P w = .ok true w) (hs : ∀ w, (sizeOf t).run P w = .ok vs.length w) (hst : St w0 w L) (ho : okO n x = true) (hx : ev ρ x = .pointer (some ⟨b, off, none⟩)) (h : Ats w0 L b off vs) :
    Yd P (A n ρ ds) ⟨d, .load t x, ty, p, e, g⟩ w (.agg vs.toArray) := by
  have := run_loadVarN ha hs hst h
  simp [Yd, execOp, ev_eq ho, hx, Sem.run_bind, Instr.loadAt, Instr.sureAddr, this, Result.andThen]
theorem y_extract {x : Operand} {i : Nat} {vs : Array Value} {v : Value} (ho : okO n x = true) (hx : ev ρ x = .tuple vs) (hv : vs[i]? = some v) : Yd P (A n ρ ds) ⟨d, .extract x i, ty, p, e, g⟩ w v := by
  simp [Yd, execOp, ev_eq ho, hx, Sem.run_bind, Instr.extract, hv, Result.andThen]
theorem y_lenS {t el : TypeId} {x : Operand} {a : Option Addr} {l c : Nat} (hU : P.underlying t = some (.slice el)) (ho : okO n x = true) (hx : ev ρ x = .slice a l c) :
    Yd P (A n ρ ds) ⟨d, .call ⟨.builtin .len, #[x], #[t]⟩, ty, p, e, g⟩ w (.int .i64 l) := by
  simp [Yd, execOp, resolve, ev_eq ho, hx, Sem.run_bind, invoke, builtin, Builtin.len_, run_underlying hU, Result.andThen, goInt]
theorem y_lenStr {t : TypeId} {x : Operand} {s : ByteArray} (hU : P.underlying t = some .string) (ho : okO n x = true) (hx : ev ρ x = .string s) :
    Yd P (A n ρ ds) ⟨d, .call ⟨.builtin .len, #[x], #[t]⟩, ty, p, e, g⟩ w (.int .i64 s.size) := by
  simp [Yd, execOp, resolve, ev_eq ho, hx, Sem.run_bind, invoke, builtin, Builtin.len_, run_underlying hU, Result.andThen, goInt]
theorem y_indexS {t el sz : Nat} {x y : Operand} {b off l c i : Nat} {k : IntKind} {z : Int} (hU : P.underlying t = some (.slice el)) (hsz : ∀ w, (sizeOf el).run P w = .ok sz w) (ho : okO n x = true) (ho1 : okO n y = true)
    (hx : ev ρ x = .slice (some ⟨b, off, none⟩) l c) (hy : ev ρ y = .int k z) (hz : z = (i : Int)) (hi : i < l) :
    Yd P (A n ρ ds) ⟨d, .indexAddr t x y, ty, p, e, g⟩ w (.pointer (some ⟨b, off + i * sz, none⟩)) := by
  subst hz
  have h2 : (0 : Int) ≤ (i : Int) ∧ (i : Int) < (l : Int) := ⟨by omega, by omega⟩
  simp [Yd, execOp, ev_eq ho, ev_eq ho1, hx, hy, Sem.run_bind, Instr.indexAt, asIntOf, run_underlying hU, hsz, Result.andThen, Addr.add_lit, hi]
theorem y_indexA {t el sz len : Nat} {x y : Operand} {b off i : Nat} {k : IntKind} {z : Int} (hU : P.underlying t = some (.array len el)) (hsz : ∀ w, (sizeOf el).run P w = .ok sz w) (ho : okO n x = true) (ho1 : okO n y = true)
    (hx : ev ρ x = .pointer (some ⟨b, off, none⟩)) (hy : ev ρ y = .int k z) (hz : z = (i : Int)) (hi : i < len) :
    Yd P (A n ρ ds) ⟨d, .indexAddr t x y, ty, p, e, g⟩ w (.pointer (some ⟨b, off + i * sz, none⟩)) := by
  subst hz
  simp [Yd, execOp, ev_eq ho, ev_eq ho1, hx, hy, Sem.run_bind, Instr.indexAt, asIntOf, Instr.sureAddr, run_underlying hU, hsz, Result.andThen, Addr.add_lit, hi]
theorem y_strEq {t t2 : TypeId} {x y : Operand} {a b : ByteArray} (ho : okO n x = true) (ho1 : okO n y = true) (hx : ev ρ x = .string a) (hy : ev ρ y = .string b) :
    Yd P (A n ρ ds) ⟨d, .binOp .eql t x y t2, ty, p, e, g⟩ w (.bool (decide (a = b))) := by
  have : (a.toList == b.toList) = decide (a = b) := bytes_beq a b
  simp [Yd, execOp, ev_eq ho, ev_eq ho1, hx, hy, eqGuard_at_string, Sem.run_bind, binOp, Op.stringOp, Result.andThen, this]
theorem y_strNe {t t2 : TypeId} {x y : Operand} {a b : ByteArray} (ho : okO n x = true) (ho1 : okO n y = true) (hx : ev ρ x = .string a) (hy : ev ρ y = .string b) :
    Yd P (A n ρ ds) ⟨d, .binOp .neq t x y t2, ty, p, e, g⟩ w (.bool (!decide (a = b))) := by
  have : (a.toList == b.toList) = decide (a = b) := bytes_beq a b
  simp [Yd, execOp, ev_eq ho, ev_eq ho1, hx, hy, eqGuard_at_string, Sem.run_bind, binOp, Op.stringOp, Result.andThen, this, bne]
theorem y_makeFunc {f : FuncId} {fi ca : Array Operand} {fv cv : List Value} (ho : fi.toList.all (okO n) = true) (ho1 : ca.toList.all (okO n) = true) (hf : fi.toList.map (ev ρ) = fv) (hc : ca.toList.map (ev ρ) = cv) :
    Yd P (A n ρ ds) ⟨d, .makeFunc (.func f) fi ca, ty, p, e, g⟩ w (.func (.func f) fv.toArray cv.toArray) := by
  have m : ∀ (xs : Array Operand), xs.toList.all (okO n) = true → xs.map (A n ρ ds).eval = (xs.toList.map (ev ρ)).toArray := by
    intro xs hxs
    apply Array.ext'
    simp only [Array.toList_map]
    exact List.map_congr_left fun x hx => ev_eq (List.all_eq_true.1 hxs x hx)
  simp [Yd, execOp, m fi ho, m ca ho1, hf, hc, Instr.makeFunc, Sem.run_bind, Result.andThen]
end yields

/-! ### Operations that lay or write blocks -/
section writes
variable {r : Option Nat} {P : Program} {ops : Array Oper} {Q : Exit → Act → World → Prop} {rest : List Oper} {n : Nat} {ρ : Nat → Value} {ds : List Deferred} {d : Option Tmp} {ty : TypeId} {p : String} {e : Array Edge} {g : Option (Nat × Bool)}
/-- A new block: its number is a name. -/
theorem w_alloc {d : Nat} {t : TypeId} {z : Value} {cs : List Value} (hw : Want ops (A n ρ ds) ⟨some d, .alloc t, ty, p, e, g⟩) (hz : ∀ w, (zeroValue t).run P w = .ok z w) (hc : z.cells = cs.toArray) (hst : St w0 w L)
    (hk : ∀ b w', St w0 w' ((b, blk t cs) :: L) → WL r P ops Q rest (A n (upd ρ d (.pointer (some ⟨b, 0, none⟩))) ds) w') :
    WL r P ops Q (⟨some d, .alloc t, ty, p, e, g⟩ :: rest) (A n ρ ds) w := by
  refine w_val (v := .pointer (some ⟨w.heap.size, 0, none⟩)) (w' := w.alloc (blk t cs)) hw ?_ rfl (hk _ _ (hst.alloc _))
  simp [execOp, Instr.alloc, Sem.run_bind, hz, newVar, newRow, hc, Result.andThen, blk]
theorem w_box {d : Nat} {t : TypeId} {x : Operand} {v : Value} {cs : List Value} (hw : Want ops (A n ρ ds) ⟨some d, .box t x, ty, p, e, g⟩) (ho : okO n x = true) (hx : ev ρ x = v) (hc : v.cells = cs.toArray) (hst : St w0 w L)
    (hk : ∀ b w', St w0 w' ((b, blk t cs) :: L) → WL r P ops Q rest (A n (upd ρ d (.pointer (some ⟨b, 0, none⟩))) ds) w') :
    WL r P ops Q (⟨some d, .box t x, ty, p, e, g⟩ :: rest) (A n ρ ds) w := by
  refine w_val (v := .pointer (some ⟨w.heap.size, 0, none⟩)) (w' := w.alloc (blk t cs)) hw ?_ rfl (hk _ _ (hst.alloc _))
  simp [execOp, Instr.box, Sem.run_bind, newVar, newRow, ev_eq ho, hx, hc, Result.andThen, blk]
def setMany (cs : List Value) (off : Nat) : List Value → List Value
  | [] => cs
  | v :: vs => setMany (cs.set off v) (off + 1) vs
theorem run_storeCells_st {b off : Nat} {t : TypeId} {i : Nat} : ∀ (vs : List Value) (j : Nat) (cs : List Value) (w : World) (L : List (Nat × Obj)), St w0 w L → L[i]? = some (b, blk t cs) → off + j + vs.length ≤ cs.length → (∀ v ∈ vs, v.oneCell' = true) →
    ∃ w', (storeCells ⟨b, off, none⟩ vs j).run P w = .ok () w' ∧ St w0 w' (L.set i (b, blk t (setMany cs (off + j) vs)))
  | [], j, cs, w, L, hst, hi, _, _ => ⟨w, rfl, by
      have : L.set i (b, blk t cs) = L := by
        apply List.ext_getElem?
        intro k
        rw [List.getElem?_set]
        split
        · rename_i e; subst e; rw [if_pos (List.getElem?_eq_some_iff.1 hi).1]; exact hi.symm
        · rfl
      simp only [setMany, this]; exact hst⟩
  | v :: vs, j, cs, w, L, hst, hi, hle, h1 => by
    simp only [List.length_cons] at hle
    have hlt : off + j < cs.length := by omega
    have hv : cs[off + j]? = some (cs[off + j]'hlt) := List.getElem?_eq_getElem hlt
    have hcell := hst.cell hi hv
    have hfree := hst.free (off := off + j) hi
    have hst1 := hst.setCell hi (off + j) v
    have hi1 : (L.set i (b, blk t (cs.set (off + j) v)))[i]? = some (b, blk t (cs.set (off + j) v)) := by
      rw [List.getElem?_set]; simp [(List.getElem?_eq_some_iff.1 hi).1]
    obtain ⟨w', hr, hst'⟩ := run_storeCells_st (b := b) (off := off) (t := t) (i := i) vs (j + 1) (cs.set (off + j) v) _ _ hst1 hi1 (by simp; omega) (fun u hu => h1 u (.tail _ hu))
    refine ⟨w', ?_, ?_⟩
    · unfold storeCells
      rw [Sem.run_bind, Addr.add_lit]
      have hs : (store ⟨b, off + j, none⟩ v).run P w = .ok () (w.setCell ⟨b, off + j, none⟩ v) := by
        rw [run_store P w _ _ _ (h1 v (.head _))]
        simp [stored, hcell, hfree]
      rw [hs]
      exact hr
    · rw [List.set_set] at hst'
      exact hst'
theorem w_store {t : TypeId} {x y : Operand} {b off i : Nat} {tb : TypeId} {cs : List Value} {v : Value} {vs : List Value} (hw : Want ops (A n ρ ds) ⟨none, .store t x y, ty, p, e, g⟩) (hs : ∀ w, (sizeOf t).run P w = .ok vs.length w)
    (ho : okO n x = true) (ho1 : okO n y = true) (hx : ev ρ x = .pointer (some ⟨b, off, none⟩)) (hy : ev ρ y = v) (hc : v.cells = vs.toArray) (h1 : ∀ u ∈ vs, u.oneCell' = true) (hst : St w0 w L) (hi : L[i]? = some (b, blk tb cs))
    (hle : off + vs.length ≤ cs.length)
    (hk : ∀ w', St w0 w' (L.set i (b, blk tb (setMany cs off vs))) → WL r P ops Q rest (A n ρ ds) w') :
    WL r P ops Q (⟨none, .store t x y, ty, p, e, g⟩ :: rest) (A n ρ ds) w := by
  obtain ⟨w', hr, hst'⟩ := run_storeCells_st (P := P) vs 0 cs w L hst hi (by omega) h1
  refine w_unit hw (w' := w') ?_ rfl (hk w' (by simpa using hst'))
  have hsz : v.cells.size = vs.length := by rw [hc]; simp
  have hne : ¬ (v.cells.size ≠ vs.length) := fun h => h hsz
  simp only [execOp, Instr.storeAt, Instr.sureAddr, ev_eq ho, ev_eq ho1, hx, hy, Sem.run_bind, Sem.run_pure, Result.andThen, storeVar, hs]
  rw [if_neg hne]
  simp only [Sem.run_pure, Result.andThen, hc, List.toList_toArray, hr]
end writes
end Go.Rt
