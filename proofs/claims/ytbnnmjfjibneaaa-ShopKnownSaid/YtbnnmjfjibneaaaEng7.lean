/- The walking engine, part 7: arrays and structs of integers as lists, their equality, maps that have them as keys. No conditions. -/
import Derived.Test.YtbnnmjfjibneaaaEng6
import Derived.ChangeKeysEq
import Derived.Laws.Cover3
set_option linter.unusedSimpArgs false
set_option linter.unusedVariables false
namespace Go.Rt
open Go.RowKit
variable {r : Option Nat} {P : Program} {ops : Array Oper} {Q : Exit → Act → World → Prop} {rest : List Oper} {n : Nat} {ρ : Nat → Value} {ds : List Deferred} {w w0 : World} {L : List (Nat × Obj)}
  {d : Option Tmp} {ty : TypeId} {p : String} {e : Array Edge} {g : Option (Nat × Bool)}

theorem agree_mixin {D D' : List Nat} {a b μ : Nat → Value} (hs : D'.all (D.elem ·) = true) (h : Agree D a b) : Agree D a (mix D' b μ) := agree_trans h (agree_sub hs agree_mix)
theorem sl_none {sz : Nat} {rows : List (List Value)} (h : Sl w0 L none sz rows) : rows = [] := by
  rcases h with h | ⟨_, _, h, _⟩
  · exact h
  · cases h
theorem own_made {t : TypeId} {sz b : Nat} : Own (.slice (some ⟨b, 0, none⟩) 0 0) t sz 0 [] [(b, blk t [])] := ⟨by simp, .inr ⟨b, 0, [], rfl, rfl, by omega, by simp [maxLen], by simp, by simp⟩⟩
theorem own_sl_map {α : Type} {v : Value} {t : TypeId} {i : Nat} {f : α → Value} {l : List α} {B : List (Nat × Obj)} (h : Own v t 1 i (l.map f) B) (hl : l.length = i) (F : List (Nat × Obj)) :
    ∃ a c, v = .slice a l.length c ∧ Sl w0 (B ++ F) a 1 (l.map fun x => [f x]) := by
  obtain ⟨a, c, hv, hs⟩ := h.sl (w0 := w0) (rows := l.map fun x => [f x]) (by simp) (by simpa using hl) (by clear h hl; induction l <;> simp_all) F
  rw [List.length_map] at hv
  exact ⟨a, c, hv, hs⟩
theorem fcon_fn {k : FuncId} {first captured : Array Value} {args : List Value} {R : Value → World → Prop} (hC : CF P k) (h : Con P k (first.toList ++ (args ++ captured.toList)) w R) : FCon P (.func (.func k) first captured) args w R :=
  .inl ⟨k, first, captured, rfl, hC, h⟩
/-- Integers as values. -/
abbrev iv (l : List Int) : List Value := l.map (Value.int .i64)
/-- An array or a struct of integers. -/
def ia (l : List Int) : Value := .agg (iv l).toArray
def isI64 (P : Program) (t : TypeId) : Bool := match P.underlying t with | some (.int .i64) => true | _ => false
theorem isI64_spec {t : TypeId} (h : isI64 P t = true) : P.underlying t = some (.int .i64) := by
  unfold isI64 at h
  split at h
  · assumption
  · cases h
/-- A type of just n integers. -/
def flatInts (P : Program) (t : TypeId) (n : Nat) : Bool :=
  match P.underlying t with
  | some (.struct fs) => !P.stoodInHeld t && (fs.toList.all (fun f => f.name != "_" && isI64 P f.type) && (fs.toList.map (·.offset) == List.range n))
  | some (.array k e) => k == n && (isI64 P e && P.cellsOf e == 1)
  | _ => false
theorem run_part_int {t : TypeId} (h : P.underlying t = some (.int .i64)) {xs : Array Value} {i : Nat} {v : Value} (hi : xs[i]? = some v) : (part t xs i).run P w = .ok v w := by
  simp [part, isAgg, Sem.run_bind, run_underlying h, hi, Result.andThen]
theorem eqItems_ints {t : TypeId} (dd : Nat) (h : P.underlying t = some (.int .i64)) (l m : List Int) : ∀ is : List Nat, (∀ i ∈ is, i < l.length ∧ i < m.length) →
    (Op.eqItems (dd + 1) t 1 (iv l).toArray (iv m).toArray is).run P w = .ok (is.all fun i => decide (l.getD i 0 = m.getD i 0)) w
  | [], _ => by simp [Op.eqItems]
  | i :: is, hh => by
    obtain ⟨h1, h2⟩ := hh i (.head _)
    have ih := eqItems_ints dd h l m is fun j hj => hh j (.tail _ hj)
    have e1 : (iv l).toArray[i * 1]? = some (.int .i64 (l.getD i 0)) := by simp [h1]
    have e2 : (iv m).toArray[i * 1]? = some (.int .i64 (m.getD i 0)) := by simp [h2]
    simp only [Op.eqItems, Sem.run_bind, run_part_int h e1, run_part_int h e2, Result.andThen_ok, run_equalIn_int w dd t .i64 .i64 _ _ h]
    simp only [List.map_cons, List.all_cons]
    by_cases hv : l.getD i 0 = m.getD i 0
    · rw [hv, beq_self_eq_true]
      simp only [Bool.not_true, Bool.false_eq_true, if_false, decide_true, Bool.true_and]
      exact ih
    · rw [beq_false_of_ne hv, decide_eq_false hv]
      simp only [Bool.not_false, if_true, Sem.run_pure, Bool.false_and]
theorem eqFields_ints (dd : Nat) (l m : List Int) : ∀ fs : List Field, (∀ f ∈ fs, f.name ≠ "_" ∧ P.underlying f.type = some (.int .i64) ∧ f.offset < l.length ∧ f.offset < m.length) →
    (Op.eqFields (dd + 1) (iv l).toArray (iv m).toArray fs).run P w = .ok ((fs.map (·.offset)).all fun i => decide (l.getD i 0 = m.getD i 0)) w
  | [], _ => by simp [Op.eqFields]
  | f :: fs, hh => by
    obtain ⟨hn, h, h1, h2⟩ := hh f (.head _)
    have ih := eqFields_ints dd l m fs fun j hj => hh j (.tail _ hj)
    have e1 : (iv l).toArray[f.offset]? = some (.int .i64 (l.getD f.offset 0)) := by simp [h1]
    have e2 : (iv m).toArray[f.offset]? = some (.int .i64 (m.getD f.offset 0)) := by simp [h2]
    simp only [Op.eqFields, hn, ne_eq, not_false_eq_true, if_true, Sem.run_bind, run_part_int h e1, run_part_int h e2, Result.andThen_ok, run_equalIn_int w dd f.type .i64 .i64 _ _ h]
    simp only [List.map_cons, List.all_cons]
    by_cases hv : l.getD f.offset 0 = m.getD f.offset 0
    · rw [hv, beq_self_eq_true]
      simp only [Bool.not_true, Bool.false_eq_true, if_false, decide_true, Bool.true_and]
      exact ih
    · rw [beq_false_of_ne hv, decide_eq_false hv]
      simp only [Bool.not_false, if_true, Sem.run_pure, Bool.false_and]
theorem all_getD {l m : List Int} (h : m.length = l.length) : ((List.range l.length).all fun i => decide (l.getD i 0 = m.getD i 0)) = decide (l = m) := by
  rw [Bool.eq_iff_iff]
  simp only [List.all_eq_true, List.mem_range, decide_eq_true_eq]
  constructor
  · intro hh
    apply List.ext_getElem h.symm
    intro i h1 h2
    have := hh i h1
    simpa [List.getD, h1, h2] using this
  · rintro rfl i _; rfl
theorem run_equal_flat {t : TypeId} {l m : List Int} (dd : Nat) (hf : flatInts P t l.length = true) (hm : m.length = l.length) : (Op.equalIn (dd + 2) t (ia l) (ia m)).run P w = .ok (decide (l = m)) w := by
  unfold flatInts at hf
  split at hf
  · rename_i fs hu
    simp only [Bool.and_eq_true, Bool.not_eq_true', beq_iff_eq, List.all_eq_true, bne_iff_ne, ne_eq] at hf
    obtain ⟨hp, hall, hoff⟩ := hf
    have hfs : P.fieldsOf t = fs := by simp [Program.fieldsOf, hu]
    unfold ia
    rw [run_equalIn_struct w (dd + 1) t _ _ (by rw [hfs]; exact hu) hp, hfs, eqFields_ints dd l m fs.toList ?_, hoff, all_getD hm]
    intro f hfm
    have := hall f hfm
    have ho : f.offset ∈ List.range l.length := by rw [← hoff]; exact List.mem_map_of_mem hfm
    rw [List.mem_range] at ho
    exact ⟨this.1, isI64_spec this.2, ho, by omega⟩
  · rename_i k el hu
    simp only [Bool.and_eq_true, beq_iff_eq] at hf
    obtain ⟨rfl, h64, hc⟩ := hf
    obtain ⟨i, hi⟩ := info_of_underlying (isI64_spec h64)
    unfold ia
    rw [run_equalIn_array w (dd + 1) _ _ hu hi, hc, eqItems_ints dd (isI64_spec h64) l m _ ?_, all_getD hm]
    intro i hi
    rw [List.mem_range] at hi
    exact ⟨hi, by omega⟩
  · cases hf
theorem run_eqGuard_flat {op : BinOp} {t : TypeId} {x y : Operand} {a b : Array Value} (h : P.eqGuardType P.depth t = false) : (eqGuard op t x y (.agg a) (.agg b)).run P w = .ok () w := by
  unfold eqGuard
  cases op <;> simp [Sem.run_bind, Result.andThen, h, Go.run_program]
theorem y_eqFlat {t t2 : TypeId} {x y : Operand} {l m : List Int} {a b : Value} {k : Nat} (hg : P.eqGuardType P.depth t = false) (hf : flatInts P t k = true) (hl : l.length = k) (hm : m.length = k) (ho : okO n x = true) (ho1 : okO n y = true) (hx : ev ρ x = a) (hy : ev ρ y = b) (ha : a = ia l) (hb : b = ia m) :
    Yd P (A n ρ ds) ⟨d, .binOp .eql t x y t2, ty, p, e, g⟩ w (.bool (decide (l = m))) := by
  subst ha hb hl
  have h1 := run_equal_flat (P := P) (w := w) 9998 hf hm
  have h2 := run_eqGuard_flat (P := P) (w := w) (op := .eql) (x := x) (y := y) (a := (iv l).toArray) (b := (iv m).toArray) hg
  unfold Yd
  simp only [execOp, ev_eq ho, ev_eq ho1, hx, hy, Sem.run_bind]
  have h2' : (eqGuard .eql t x y (ia l) (ia m)).run P w = .ok () w := h2
  have h3 : (binOp .eql t (ia l) (ia m)).run P w = .ok (.bool (decide (l = m))) w := by
    unfold ia at h1 ⊢
    rw [run_eql_struct, h1]
    rfl
  rw [h2']
  simp only [Result.andThen_ok]
  rw [h3]
  rfl
theorem y_neFlat {t t2 : TypeId} {x y : Operand} {l m : List Int} {a b : Value} {k : Nat} (hg : P.eqGuardType P.depth t = false) (hf : flatInts P t k = true) (hl : l.length = k) (hm : m.length = k) (ho : okO n x = true) (ho1 : okO n y = true) (hx : ev ρ x = a) (hy : ev ρ y = b) (ha : a = ia l) (hb : b = ia m) :
    Yd P (A n ρ ds) ⟨d, .binOp .neq t x y t2, ty, p, e, g⟩ w (.bool (!decide (l = m))) := by
  subst ha hb hl
  have h1 := run_equal_flat (P := P) (w := w) 9998 hf hm
  have h2 := run_eqGuard_flat (P := P) (w := w) (op := .neq) (x := x) (y := y) (a := (iv l).toArray) (b := (iv m).toArray) hg
  unfold Yd
  simp only [execOp, ev_eq ho, ev_eq ho1, hx, hy, Sem.run_bind]
  have h2' : (eqGuard .neq t x y (ia l) (ia m)).run P w = .ok () w := h2
  have h3 : (binOp .neq t (ia l) (ia m)).run P w = .ok (.bool (!decide (l = m))) w := by
    unfold ia at h1 ⊢
    rw [run_neq_struct, h1]
    rfl
  rw [h2']
  simp only [Result.andThen_ok]
  rw [h3]
  rfl
/-- A slice compared with nil. -/
theorem y_sliceNil {t t2 el : TypeId} {x y : Operand} {a : Option Addr} {l c : Nat} (hU : P.underlying t = some (.slice el)) (ho : okO n x = true) (ho1 : okO n y = true) (hx : ev ρ x = .slice a l c) (hy : ev ρ y = .slice none 0 0) :
    Yd P (A n ρ ds) ⟨d, .binOp .eql t x y t2, ty, p, e, g⟩ w (.bool a.isNone) := by
  unfold Yd
  simp only [execOp, ev_eq ho, ev_eq ho1, hx, hy, Sem.run_bind]
  have h2 : (eqGuard .eql t x y (.slice a l c) (.slice none 0 0)).run P w = .ok () w := by
    unfold eqGuard; simp [Sem.run_bind, Result.andThen]
  rw [h2]
  simp only [Result.andThen]
  have h3 : (binOp .eql t (.slice a l c) (.slice none 0 0)).run P w = .ok (.bool a.isNone) w := by
    have := run_equal_slice_nil w t el a l c hU
    simp [binOp, Sem.run_bind, this, Result.andThen]
  simp only [Result.andThen_ok, h3]
  rfl

/-! ### Arrays of integers that are opaque -/
theorem w_boxI {d : Nat} {t : TypeId} {x : Operand} {l : List Int} {a : Value} (hw : Want ops (A n ρ ds) ⟨some d, .box t x, ty, p, e, g⟩) (ho : okO n x = true) (hx : ev ρ x = a) (ha : a = ia l) (hst : St w0 w L)
    (hk : ∀ b w', St w0 w' ((b, blk t (iv l)) :: L) → WL r P ops Q rest (A n (upd ρ d (.pointer (some ⟨b, 0, none⟩))) ds) w') :
    WL r P ops Q (⟨some d, .box t x, ty, p, e, g⟩ :: rest) (A n ρ ds) w := w_box (v := ia l) (cs := iv l) hw ho (hx.trans ha) rfl hst hk
theorem setMany_all : ∀ (vs pre cs : List Value), vs.length = cs.length → setMany (pre ++ cs) pre.length vs = pre ++ vs
  | [], pre, [], _ => by simp [setMany]
  | [], _, _ :: _, h => by simp at h
  | _ :: _, _, [], h => by simp at h
  | v :: vs, pre, c :: cs, h => by
    simp only [setMany]
    have : (pre ++ c :: cs).set pre.length v = (pre ++ [v]) ++ cs := by simp
    rw [this]
    have ih := setMany_all vs (pre ++ [v]) cs (by simpa using h)
    simp only [List.length_append, List.length_singleton, List.append_assoc] at ih ⊢
    rw [ih]
    simp
/-- All of a block is written. -/
theorem w_storeI {k : Nat} {t : TypeId} {x y : Operand} {b i : Nat} {tb : TypeId} {cs : List Value} {l : List Int} {a : Value} (hw : Want ops (A n ρ ds) ⟨none, .store t x y, ty, p, e, g⟩) (hs : ∀ w, (sizeOf t).run P w = .ok k w) (hkl : l.length = k)
    (ho : okO n x = true) (ho1 : okO n y = true) (hx : ev ρ x = .pointer (some ⟨b, 0, none⟩)) (hy : ev ρ y = a) (ha : a = ia l) (hst : St w0 w L) (hi : L[i]? = some (b, blk tb cs)) (hl : cs.length = k)
    (hk : ∀ w', St w0 w' (L.set i (b, blk tb (iv l))) → WL r P ops Q rest (A n ρ ds) w') :
    WL r P ops Q (⟨none, .store t x y, ty, p, e, g⟩ :: rest) (A n ρ ds) w := by
  subst hkl
  refine w_store (v := ia l) (vs := iv l) hw (by simpa using hs) ho ho1 hx (hy.trans ha) rfl (fun u hu => ?_) hst hi (by simp [hl]) (fun w' hst' => hk w' ?_)
  · obtain ⟨z, _, rfl⟩ := List.mem_map.1 hu; rfl
  · have := setMany_all (iv l) [] cs (by simp [hl])
    simp only [List.nil_append, List.length_nil] at this
    rwa [this] at hst'
/-- One of its integers is written. -/
theorem w_storeAtI {t : TypeId} {x y : Operand} {b i j : Nat} {tb : TypeId} {l : List Int} {z : Int} (hw : Want ops (A n ρ ds) ⟨none, .store t x y, ty, p, e, g⟩) (hs : ∀ w, (sizeOf t).run P w = .ok 1 w)
    (ho : okO n x = true) (ho1 : okO n y = true) (hx : ev ρ x = .pointer (some ⟨b, 0 + j * 1, none⟩)) (hy : ev ρ y = .int .i64 z) (hst : St w0 w L) (hi : L[i]? = some (b, blk tb (iv l))) (hl : j < l.length)
    (hk : ∀ w', St w0 w' (L.set i (b, blk tb (iv (l.set j z)))) → WL r P ops Q rest (A n ρ ds) w') :
    WL r P ops Q (⟨none, .store t x y, ty, p, e, g⟩ :: rest) (A n ρ ds) w := by
  refine w_store (v := .int .i64 z) (vs := [.int .i64 z]) hw hs ho ho1 hx hy rfl (by simp [Value.oneCell']) hst hi (by simp; omega) (fun w' hst' => hk w' ?_)
  have : setMany (iv l) (0 + j * 1) [.int .i64 z] = iv (l.set j z) := by simp [setMany, iv, List.map_set]
  rwa [this] at hst'
theorem y_loadI {k : Nat} {t : TypeId} {x : Operand} {b i : Nat} {tb : TypeId} {l : List Int} (ha : ∀ w, (isAgg t).run P w = .ok true w) (hs : ∀ w, (sizeOf t).run P w = .ok k w) (hkl : l.length = k) (hst : St w0 w L) (ho : okO n x = true) (hx : ev ρ x = .pointer (some ⟨b, 0, none⟩))
    (hi : L[i]? = some (b, blk tb (iv l))) : Yd P (A n ρ ds) ⟨d, .load t x, ty, p, e, g⟩ w (ia l) :=
  y_loadN (vs := iv l) ha (by subst hkl; simpa using hs) hst ho hx (ats_own hi (by rw [List.drop_zero, List.take_length]))
theorem ats_ints {b i j : Nat} {t : TypeId} {l : List Int} (hi : L[i]? = some (b, blk t (iv l))) (hj : j < l.length) : Ats w0 L b (0 + j * 1) [.int .i64 (l.getD j 0)] := by
  refine ats_own hi ?_
  have h : ((iv l).drop j).take 1 = [.int .i64 (l.getD j 0)] := by
    rw [List.drop_eq_getElem_cons (by simpa using hj)]
    simp [List.getD, hj]
  simpa using h

/-! ### Maps with such keys -/
theorem w_makeMap {d : Nat} {t : TypeId} (hw : Want ops (A n ρ ds) ⟨some d, .makeMap t none, ty, p, e, g⟩) (hst : St w0 w L)
    (hk : ∀ b w', St w0 w' ((b, .map #[] 0) :: L) → WL r P ops Q rest (A n (upd ρ d (.map (some b))) ds) w') :
    WL r P ops Q (⟨some d, .makeMap t none, ty, p, e, g⟩ :: rest) (A n ρ ds) w := by
  refine w_val (v := .map (some w.heap.size)) (w' := w.alloc (.map #[] 0)) hw ?_ rfl (hk _ _ (hst.alloc _))
  simp [execOp, Instr.makeMap, Sem.run_bind, Result.andThen]
theorem ia_inj {l m : List Int} (h : ia l = ia m) : l = m := by
  unfold ia at h
  injection h with h
  have h2 : iv l = iv m := by simpa using congrArg Array.toList h
  have : ∀ (l m : List Int), iv l = iv m → l = m := by
    intro l
    induction l with
    | nil => intro m h; cases m with | nil => rfl | cons _ _ => simp [iv] at h
    | cons a l ih => intro m h; cases m with
      | nil => simp [iv] at h
      | cons b m =>
        simp only [iv, List.map_cons, List.cons.injEq, Value.int.injEq, true_and] at h
        rw [h.1, ih m h.2]
  exact this l m h2
theorem run_findAsking {t : TypeId} {l : List Int} (hf : flatInts P t l.length = true) : ∀ (es : List MapEntry) (i : Nat), (∀ e ∈ es, ∃ m, m.length = l.length ∧ e.key = ia m) →
    ((∀ w, (Instr.findAsking t (ia l) es i).run P w = .ok none w) ∧ ∀ e ∈ es, e.key ≠ ia l) ∨ ∃ j e, (∀ w, (Instr.findAsking t (ia l) es i).run P w = .ok (some (j, e.val)) w) ∧ e ∈ es ∧ e.key = ia l
  | [], i, _ => .inl ⟨fun w => by simp [Instr.findAsking], by simp⟩
  | e :: es, i, hall => by
    obtain ⟨m, hm, hk⟩ := hall e (.head _)
    have h2 : ∀ w, (Op.equal t (ia l) e.key).run P w = .ok (decide (l = m)) w := fun w => by rw [hk]; exact run_equal_flat (P := P) (w := w) 9998 hf hm
    by_cases hlm : l = m
    · rw [decide_eq_true hlm] at h2
      exact .inr ⟨i, e, fun w => by simp [Instr.findAsking, Sem.run_bind, h2, Result.andThen], .head _, by rw [hk, hlm]⟩
    · have h3 : ∀ w, (Instr.findAsking t (ia l) (e :: es) i).run P w = (Instr.findAsking t (ia l) es (i + 1)).run P w := by
        intro w
        simp [Instr.findAsking, Sem.run_bind, h2, hlm, Result.andThen]
      rcases run_findAsking hf es (i + 1) (fun e he => hall e (.tail _ he)) with ⟨h4, h5⟩ | ⟨j, e', h4, h5, h6⟩
      · exact .inl ⟨fun w => (h3 w).trans (h4 w), fun e' he' => by
          cases he' with
          | head => rw [hk]; exact fun h => hlm (ia_inj h).symm
          | tail _ he' => exact h5 e' he'⟩
      · exact .inr ⟨j, e', fun w => (h3 w).trans (h4 w), .tail _ h5, h6⟩
theorem run_findKey {t el : TypeId} {k : Nat} {l : List Int} (hu : P.underlying t = some (.array k el)) (hf : flatInts P t l.length = true) (es : List MapEntry) (hall : ∀ e ∈ es, ∃ m, m.length = l.length ∧ e.key = ia m) :
    ((∀ w, (Instr.findKey t (ia l) es).run P w = .ok none w) ∧ ∀ e ∈ es, e.key ≠ ia l) ∨ ∃ j e, (∀ w, (Instr.findKey t (ia l) es).run P w = .ok (some (j, e.val)) w) ∧ e ∈ es ∧ e.key = ia l := by
  cases es with
  | nil => exact .inl ⟨fun w => by simp [Instr.findKey, Sem.run_bind, run_underlying hu, Result.andThen, Instr.findNow], by simp⟩
  | cons e es =>
    have : Instr.findNow (.array k el) (ia l) (e :: es) 0 = none := by
      simp [Instr.findNow, Instr.sameNow]
    have h : ∀ w, (Instr.findKey t (ia l) (e :: es)).run P w = (Instr.findAsking t (ia l) (e :: es) 0).run P w := fun w => by
      simp [Instr.findKey, Sem.run_bind, run_underlying hu, Result.andThen, this]
    rcases run_findAsking hf (e :: es) 0 hall with ⟨h1, h2⟩ | ⟨j, e', h1, h2, h3⟩
    · exact .inl ⟨fun w => (h w).trans (h1 w), h2⟩
    · exact .inr ⟨j, e', fun w => (h w).trans (h1 w), h2, h3⟩
theorem run_checkKey {em : Bool} {dd : Nat} {t el : TypeId} {k : Nat} {l : List Int} (hu : P.underlying t = some (.array k el)) (hk : k = l.length) (he : P.underlying el = some (.int .i64)) (hsz : ∀ w, (sizeOf el).run P w = .ok 1 w) : (Instr.checkKey em (dd + 2) t (ia l)).run P w = .ok () w := by
  have h1 : ∀ a w, (Instr.checkKey em (dd + 1) el (.int .i64 a)).run P w = .ok () w := by
    intro a w
    unfold Instr.checkKey
    simp [Sem.run_bind, run_underlying he, Result.andThen]
  have h2 : ∀ is : List Nat, (∀ i ∈ is, i < l.length) → ((forIn is PUnit.unit fun i _ => do
      Instr.checkKey em (dd + 1) el (← part el (iv l).toArray (i * (← sizeOf el)))
      pure (ForInStep.yield PUnit.unit) : Sem PUnit)).run P w = .ok PUnit.unit w := by
    intro is
    induction is with
    | nil => intro _; simp
    | cons i is ih =>
      intro hh
      have hi := hh i (.head _)
      have e1 : (iv l).toArray[i * 1]? = some (.int .i64 (l.getD i 0)) := by simp [hi]
      simp only [List.forIn_cons, Sem.run_bind, hsz, Result.andThen_ok, run_part_int he e1, h1, Sem.run_pure]
      exact ih fun j hj => hh j (.tail _ hj)
  rw [show dd + 2 = (dd + 1) + 1 from rfl, Instr.checkKey]
  unfold ia
  simp only [Sem.run_bind, run_underlying hu, Result.andThen_ok]
  simp only [Std.Legacy.Range.forIn_eq_forIn_range', Std.Legacy.Range.size, Nat.sub_zero, Nat.add_one_sub_one, Nat.div_one]
  have := h2 (List.range' 0 k) (fun i hi => by
    rw [← List.range_eq_range', List.mem_range] at hi; omega)
  rw [this]
  rfl
theorem St.obj {b i ck : Nat} {es : Array MapEntry} (hst : St w0 w L) (hi : L[i]? = some (b, .map es ck)) : (getObj b).run P w = .ok (.map es ck) w := by simp [getObj, Sem.run, hst.get hi]
theorem y_lookupS {mt kt el ea : TypeId} {x y : Operand} {l : List Int} {a : Value} {m i k j : Nat} {es : Array MapEntry} {ck : Nat} {v : Value} (hU : P.underlying mt = some (.map kt el)) (hk : P.underlying kt = some (.array k ea)) (hkl : k = l.length) (he : P.underlying ea = some (.int .i64))
    (hsz : ∀ w, (sizeOf ea).run P w = .ok 1 w) (hst : St w0 w L) (ho : okO n x = true) (ho1 : okO n y = true) (hx : ev ρ x = .map (some m)) (hy : ev ρ y = a) (ha : a = ia l) (hi : L[i]? = some (m, .map es ck)) (hf : ∀ w, (Instr.findKey kt (ia l) es.toList).run P w = .ok (some (j, v)) w) :
    Yd P (A n ρ ds) ⟨d, .lookup mt x y true, ty, p, e, g⟩ w (.tuple #[v, .bool true]) := by
  unfold Yd
  have hc := run_checkKey (P := P) (w := w) (em := es.isEmpty) (dd := 9998) hk hkl he hsz
  have : (Instr.lookup mt (.map (some m)) (ia l) true).run P w = .ok (.tuple #[v, .bool true]) w := by
    simp only [Instr.lookup, Sem.run_bind, run_underlying hU, Result.andThen_ok, hst.obj hi, Sem.run_pure]
    rw [show (10000 : Nat) = 9998 + 2 from rfl, hc]
    simp only [Result.andThen_ok, hf, Sem.run_bind, Sem.run_pure, if_true]
  simp only [execOp, ev_eq ho, ev_eq ho1, hx, hy, ha, Sem.run_bind, this]
  rfl
theorem y_lookupN {mt kt el ea : TypeId} {x y : Operand} {l : List Int} {a : Value} {m i k : Nat} {es : Array MapEntry} {ck : Nat} {z : Value} (hU : P.underlying mt = some (.map kt el)) (hk : P.underlying kt = some (.array k ea)) (hkl : k = l.length) (he : P.underlying ea = some (.int .i64))
    (hsz : ∀ w, (sizeOf ea).run P w = .ok 1 w) (hz : ∀ w, (zeroValue el).run P w = .ok z w) (hst : St w0 w L) (ho : okO n x = true) (ho1 : okO n y = true) (hx : ev ρ x = .map (some m)) (hy : ev ρ y = a) (ha : a = ia l) (hi : L[i]? = some (m, .map es ck))
    (hf : ∀ w, (Instr.findKey kt (ia l) es.toList).run P w = .ok none w) : Yd P (A n ρ ds) ⟨d, .lookup mt x y true, ty, p, e, g⟩ w (.tuple #[z, .bool false]) := by
  unfold Yd
  have hc := run_checkKey (P := P) (w := w) (em := es.isEmpty) (dd := 9998) hk hkl he hsz
  have : (Instr.lookup mt (.map (some m)) (ia l) true).run P w = .ok (.tuple #[z, .bool false]) w := by
    simp only [Instr.lookup, Sem.run_bind, run_underlying hU, Result.andThen_ok, hst.obj hi, Sem.run_pure]
    rw [show (10000 : Nat) = 9998 + 2 from rfl, hc]
    simp only [Result.andThen_ok, hf, Sem.run_bind, hz, Sem.run_pure, if_true]
  simp only [execOp, ev_eq ho, ev_eq ho1, hx, hy, ha, Sem.run_bind, this]
  rfl
/-- A new entry of a map. -/
theorem w_mapAdd {mt kt el ea : TypeId} {x y z : Operand} {l : List Int} {a v : Value} {m i k : Nat} {es : Array MapEntry} {ck : Nat} (hw : Want ops (A n ρ ds) ⟨none, .mapUpdate mt x y z, ty, p, e, g⟩) (hU : P.underlying mt = some (.map kt el)) (hk : P.underlying kt = some (.array k ea)) (hkl : k = l.length)
    (he : P.underlying ea = some (.int .i64)) (hsz : ∀ w, (sizeOf ea).run P w = .ok 1 w) (ho : okO n x = true) (ho1 : okO n y = true) (ho2 : okO n z = true) (hx : ev ρ x = .map (some m)) (hy : ev ρ y = a) (ha : a = ia l) (hz : ev ρ z = v) (hst : St w0 w L) (hi : L[i]? = some (m, .map es ck))
    (hf : ∀ w, (Instr.findKey kt (ia l) es.toList).run P w = .ok none w) (hk2 : ∀ w', St w0 w' (L.set i (m, .map (es.push { key := ia l, val := v, born := ck }) (ck + 1))) → WL r P ops Q rest (A n ρ ds) w') :
    WL r P ops Q (⟨none, .mapUpdate mt x y z, ty, p, e, g⟩ :: rest) (A n ρ ds) w := by
  refine w_unit hw (w' := w.putObj m (.map (es.push { key := ia l, val := v, born := ck }) (ck + 1))) ?_ rfl (hk2 _ (hst.putObj hi _))
  have hc := run_checkKey (P := P) (w := w) (em := false) (dd := 9998) hk hkl he hsz
  have hs : (setObj m (.map (es.push { key := ia l, val := v, born := ck }) (ck + 1))).run P w = .ok () (w.putObj m (.map (es.push { key := ia l, val := v, born := ck }) (ck + 1))) := by
    simp [setObj, Sem.run, hst.get hi, World.putObj]
  have : (Instr.mapUpdate mt (.map (some m)) (ia l) v).run P w = .ok () (w.putObj m (.map (es.push { key := ia l, val := v, born := ck }) (ck + 1))) := by
    simp only [Instr.mapUpdate, Sem.run_bind, run_underlying hU, Result.andThen_ok, hst.obj hi, Sem.run_pure]
    rw [show (10000 : Nat) = 9998 + 2 from rfl, hc]
    simp only [Result.andThen_ok, hf, hs]
  simp only [execOp, ev_eq ho, ev_eq ho1, ev_eq ho2, hx, hy, ha, hz, Sem.run_bind, this]
  rfl
/-- make([]int, k). -/
theorem w_makeInts {d : Nat} {t el : TypeId} {x y : Operand} {k : Nat} {i : TypeInfo} (hw : Want ops (A n ρ ds) ⟨some d, .makeSlice t x y, ty, p, e, g⟩) (ht : P.underlying t = some (.slice el)) (hi : P.info? el = some i) (hz : i.zero = some (.int .i64 0)) (hsize : i.size = 1)
    (hk0 : k ≤ 1000000) (hby : i.bytes = 8) (ho : okO n x = true) (ho1 : okO n y = true) (hx : ev ρ x = .int .i64 (k : Int)) (hy : ev ρ y = .int .i64 (k : Int)) (hst : St w0 w L)
    (hk : ∀ b w', St w0 w' ((b, blk el (iv (List.replicate k 0))) :: L) → WL r P ops Q rest (A n (upd ρ d (.slice (some ⟨b, 0, none⟩) k k)) ds) w') :
    WL r P ops Q (⟨some d, .makeSlice t x y, ty, p, e, g⟩ :: rest) (A n ρ ds) w := by
  have hcs : ((List.range k).map fun _ => Value.int .i64 0) = iv (List.replicate k 0) := by
    apply List.ext_getElem?
    intro j
    by_cases hj : j < k <;> simp [hj, List.getElem?_replicate]
  refine w_val (v := .slice (some ⟨w.heap.size, 0, none⟩) k k) (w' := w.alloc (blk el (iv (List.replicate k 0)))) hw ?_ rfl (hk _ _ (hst.alloc _))
  have : (Instr.makeSlice t (.int .i64 (k : Int)) (.int .i64 (k : Int))).run P w = .ok (.slice (some ⟨w.heap.size, 0, none⟩) k k) (w.alloc (blk el (iv (List.replicate k 0)))) := by
    have h := run_makeSlice (P := P) w t el i _ ht hi hz .i64 .i64 (k : Int) (k : Int) (by omega) (by omega) (by rw [hsize]; omega) (by rw [hby]; omega) (by omega)
    rw [h]
    have hm : madeCells (Value.int .i64 0).cells (k * 1) = (iv (List.replicate k 0)).toArray := by
      apply Array.ext'
      rw [Nat.mul_one, ← hcs]
      simp [madeCells, Value.cells]
      intro a _
      rw [Nat.mod_one]
      rfl
    simp only [Int.toNat_natCast, hsize, hm]
    rfl
  simp only [execOp, ev_eq ho, ev_eq ho1, hx, hy, Sem.run_bind, this]
  rfl
end Go.Rt
