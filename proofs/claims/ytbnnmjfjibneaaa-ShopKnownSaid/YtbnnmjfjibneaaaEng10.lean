/- The walking engine, part 10: bits of numbers, numbers within arrays of a struct, maps by structs of numbers. No conditions. -/
import Derived.Test.YtbnnmjfjibneaaaEng9
import Derived.Laws.Bits64b
set_option linter.unusedSimpArgs false
set_option linter.unusedVariables false
namespace Go.Rt
open Go.RowKit
section
variable {r : Option Nat} {P : Program} {ops : Array Oper} {Q : Exit → Act → World → Prop} {rest : List Oper} {n : Nat} {ρ : Nat → Value} {ds : List Deferred} {d : Option Tmp} {ty : TypeId} {p : String} {e : Array Edge} {g : Option (Nat × Bool)} {w w0 : World} {L : List (Nat × Obj)}
/-! ### Bits -/
theorem ofI (a : Nat) (ha : a < 9223372036854775808) : (BitVec.ofInt 64 (a : Int)).toNat = a := by
  rw [BitVec.ofInt_natCast, BitVec.toNat_ofNat]; exact Nat.mod_eq_of_lt (by omega)
theorem y_and {t t2 : TypeId} {u v : Operand} {a b : Int} {x y : Nat} (ho : okO n u = true) (ho1 : okO n v = true) (hx : ev ρ u = .int .i64 a) (hy : ev ρ v = .int .i64 b) (ha : a = (x : Int)) (hb : b = (y : Int)) (h1 : x < 9223372036854775808) (h2 : y < 9223372036854775808) :
    Yd P (A n ρ ds) ⟨d, .binOp .and t u v t2, ty, p, e, g⟩ w (.int .i64 ((x &&& y : Nat) : Int)) := by
  subst ha hb
  refine y_bin ho ho1 hx hy fun w => ?_
  have hle : x &&& y < 2 ^ 63 := Nat.and_lt_two_pow _ (by omega)
  have : Go.bits .and .i64 (x : Int) (y : Int) = ((x &&& y : Nat) : Int) := by
    show IntKind.i64.wrap ((BitVec.ofInt 64 (x : Int) &&& BitVec.ofInt 64 (y : Int)).toNat : Int) = _
    rw [BitVec.toNat_and, ofI x h1, ofI y h2, wrap_in (by omega) (by omega)]
  rw [binOp_and, intBits_and, this]; rfl
theorem y_or {t t2 : TypeId} {u v : Operand} {a b : Int} {x y : Nat} (ho : okO n u = true) (ho1 : okO n v = true) (hx : ev ρ u = .int .i64 a) (hy : ev ρ v = .int .i64 b) (ha : a = (x : Int)) (hb : b = (y : Int)) (h1 : x < 9223372036854775808) (h2 : y < 9223372036854775808) :
    Yd P (A n ρ ds) ⟨d, .binOp .or t u v t2, ty, p, e, g⟩ w (.int .i64 ((x ||| y : Nat) : Int)) := by
  subst ha hb
  refine y_bin ho ho1 hx hy fun w => ?_
  have hle : x ||| y < 2 ^ 63 := Nat.or_lt_two_pow (by omega) (by omega)
  have : Go.bits .or .i64 (x : Int) (y : Int) = ((x ||| y : Nat) : Int) := by
    show IntKind.i64.wrap ((BitVec.ofInt 64 (x : Int) ||| BitVec.ofInt 64 (y : Int)).toNat : Int) = _
    rw [BitVec.toNat_or, ofI x h1, ofI y h2, wrap_in (by omega) (by omega)]
  rw [binOp_or, intBits_or, this]; rfl
/-- What is in x and not in y, of small numbers. -/
def bitDiff (x y : Nat) : Nat := (BitVec.ofNat 64 x &&& ~~~(BitVec.ofNat 64 y)).toNat
theorem bitDiff_le (x y : Nat) (h : x < 9223372036854775808) : bitDiff x y ≤ x := by
  unfold bitDiff
  rw [BitVec.toNat_and, BitVec.toNat_ofNat, Nat.mod_eq_of_lt (by omega)]
  exact Nat.and_le_left
theorem y_andNot {t t2 : TypeId} {u v : Operand} {a b : Int} {x y : Nat} (ho : okO n u = true) (ho1 : okO n v = true) (hx : ev ρ u = .int .i64 a) (hy : ev ρ v = .int .i64 b) (ha : a = (x : Int)) (hb : b = (y : Int)) (h1 : x < 9223372036854775808) :
    Yd P (A n ρ ds) ⟨d, .binOp .andNot t u v t2, ty, p, e, g⟩ w (.int .i64 ((bitDiff x y : Nat) : Int)) := by
  subst ha hb
  refine y_bin ho ho1 hx hy fun w => ?_
  have hle := bitDiff_le x y h1
  have : Go.bits .andNot .i64 (x : Int) (y : Int) = ((bitDiff x y : Nat) : Int) := by
    show IntKind.i64.wrap ((BitVec.ofInt 64 (x : Int) &&& ~~~(BitVec.ofInt 64 (y : Int))).toNat : Int) = _
    rw [BitVec.ofInt_natCast, BitVec.ofInt_natCast]
    exact wrap_in (z := ((bitDiff x y : Nat) : Int)) (by omega) (by omega)
  rw [binOp_andNot, intBits_andNot, this]; rfl
theorem y_shr {t t2 : TypeId} {u v : Operand} {a b : Int} {x y : Nat} (ho : okO n u = true) (ho1 : okO n v = true) (hx : ev ρ u = .int .i64 a) (hy : ev ρ v = .int .i64 b) (ha : a = (x : Int)) (hb : b = (y : Int)) (h2 : y ≤ 60) :
    Yd P (A n ρ ds) ⟨d, .binOp .shr t u v t2, ty, p, e, g⟩ w (.int .i64 ((x >>> y : Nat) : Int)) := by
  subst ha hb
  refine y_bin ho ho1 hx hy fun w => ?_
  rw [binOp_shr]
  unfold Op.shift
  have hb : IntKind.i64.bits = 64 := rfl
  rw [if_neg (by omega)]
  simp only [Int.toNat_natCast, hb, Nat.min_eq_left (show y ≤ 64 by omega), Sem.run_pure]
  congr 2
  rw [Int.fdiv_eq_ediv_of_nonneg _ (by exact_mod_cast Nat.zero_le _), Nat.shiftRight_eq_div_pow]
  norm_cast
theorem y_shl {t t2 : TypeId} {u v : Operand} {a b : Int} {x y : Nat} (ho : okO n u = true) (ho1 : okO n v = true) (hx : ev ρ u = .int .i64 a) (hy : ev ρ v = .int .i64 b) (ha : a = (x : Int)) (hb : b = (y : Int)) (h1 : x ≤ 1000) (h2 : y ≤ 40) :
    Yd P (A n ρ ds) ⟨d, .binOp .shl t u v t2, ty, p, e, g⟩ w (.int .i64 ((x <<< y : Nat) : Int)) := by
  subst ha hb
  refine y_bin ho ho1 hx hy fun w => ?_
  rw [binOp_shl]
  unfold Op.shift
  have hb : IntKind.i64.bits = 64 := rfl
  rw [if_neg (by omega)]
  simp only [Int.toNat_natCast, hb, Nat.min_eq_left (show y ≤ 64 by omega), Sem.run_pure]
  have h3 : x * 2 ^ y ≤ 1000 * 2 ^ 40 := Nat.mul_le_mul h1 (Nat.pow_le_pow_right (by omega) h2)
  have h4 : (x : Int) * 2 ^ y = ((x * 2 ^ y : Nat) : Int) := by push_cast; rfl
  rw [h4, wrap_in (by omega) (by omega), Nat.shiftLeft_eq]
/-! ### Numbers within -/
theorem ats_intsO {b i o j : Nat} {t : TypeId} {l : List Int} (hi : L[i]? = some (b, blk t (iv l))) (hj : o + j < l.length) : Ats w0 L b (o + j * 1) [.int .i64 (l.getD (o + j) 0)] := by
  have := ats_ints (w0 := w0) (j := o + j) hi hj
  rwa [show 0 + (o + j) * 1 = o + j * 1 by omega] at this
theorem ats_intsC {b i o : Nat} {t : TypeId} {l : List Int} (hi : L[i]? = some (b, blk t (iv l))) (hj : o < l.length) : Ats w0 L b o [.int .i64 (l.getD o 0)] := by
  have := ats_ints (w0 := w0) (j := o) hi hj
  rwa [show 0 + o * 1 = o by omega] at this
theorem w_storeAtIO {t : TypeId} {x y : Operand} {b i o j : Nat} {tb : TypeId} {l : List Int} {z : Int} (hw : Want ops (A n ρ ds) ⟨none, .store t x y, ty, p, e, g⟩) (hs : ∀ w, (sizeOf t).run P w = .ok 1 w)
    (ho : okO n x = true) (ho1 : okO n y = true) (hx : ev ρ x = .pointer (some ⟨b, o + j * 1, none⟩)) (hy : ev ρ y = .int .i64 z) (hst : St w0 w L) (hi : L[i]? = some (b, blk tb (iv l))) (hl : o + j < l.length)
    (hk : ∀ w', St w0 w' (L.set i (b, blk tb (iv (l.set (o + j) z)))) → WL r P ops Q rest (A n ρ ds) w') :
    WL r P ops Q (⟨none, .store t x y, ty, p, e, g⟩ :: rest) (A n ρ ds) w :=
  w_storeAtI (j := o + j) hw hs ho ho1 (by rw [hx, show 0 + (o + j) * 1 = o + j * 1 by omega]) hy hst hi hl hk
theorem w_storeAtIC {t : TypeId} {x y : Operand} {b i o : Nat} {tb : TypeId} {l : List Int} {z : Int} (hw : Want ops (A n ρ ds) ⟨none, .store t x y, ty, p, e, g⟩) (hs : ∀ w, (sizeOf t).run P w = .ok 1 w)
    (ho : okO n x = true) (ho1 : okO n y = true) (hx : ev ρ x = .pointer (some ⟨b, o, none⟩)) (hy : ev ρ y = .int .i64 z) (hst : St w0 w L) (hi : L[i]? = some (b, blk tb (iv l))) (hl : o < l.length)
    (hk : ∀ w', St w0 w' (L.set i (b, blk tb (iv (l.set o z)))) → WL r P ops Q rest (A n ρ ds) w') :
    WL r P ops Q (⟨none, .store t x y, ty, p, e, g⟩ :: rest) (A n ρ ds) w :=
  w_storeAtI (j := o) hw hs ho ho1 (by rw [hx, show 0 + o * 1 = o by omega]) hy hst hi hl hk
/-- Part of a block of numbers, as an array. -/
theorem y_loadIP {k o : Nat} {t : TypeId} {x : Operand} {b i : Nat} {tb : TypeId} {l : List Int} (ha : ∀ w, (isAgg t).run P w = .ok true w) (hs : ∀ w, (sizeOf t).run P w = .ok k w) (hkl : o + k ≤ l.length) (hst : St w0 w L) (ho : okO n x = true) (hx : ev ρ x = .pointer (some ⟨b, o, none⟩))
    (hi : L[i]? = some (b, blk tb (iv l))) : Yd P (A n ρ ds) ⟨d, .load t x, ty, p, e, g⟩ w (ia ((l.drop o).take k)) := by
  have hl : (iv ((l.drop o).take k)).length = k := by simp; omega
  have := y_loadN (d := d) (ty := ty) (p := p) (e := e) (g := g) (P := P) (ds := ds) (vs := iv ((l.drop o).take k)) ha (by rw [hl]; exact hs) hst ho hx (ats_own hi (by rw [hl]; simp [iv, List.map_drop, List.map_take]))
  exact this
theorem y_indexV {t el len : TypeId} {x y : Operand} {a : Value} {l : List Int} {z : Int} {i : Nat} (hU : P.underlying t = some (.array len el)) (hel : P.underlying el = some (.int .i64)) (hsz : ∀ w, (sizeOf el).run P w = .ok 1 w) (ho : okO n x = true) (ho1 : okO n y = true)
    (hx : ev ρ x = a) (ha : a = ia l) (hy : ev ρ y = .int .i64 z) (hz : z = (i : Int)) (hi : i < len) (hl : i < l.length) : Yd P (A n ρ ds) ⟨d, .index t x y, ty, p, e, g⟩ w (.int .i64 (l.getD i 0)) := by
  subst hz ha
  have e1 : (iv l).toArray[i * 1]? = some (.int .i64 (l.getD i 0)) := by simp [hl]
  have hp := run_part_int (P := P) (w := w) hel e1
  have : (Instr.index t (ia l) (.int .i64 (i : Int))).run P w = .ok (.int .i64 (l.getD i 0)) w := by
    unfold Instr.index ia
    simp only [asIntOf, Sem.run_bind, Sem.run_pure, Result.andThen_ok, run_underlying hU]
    rw [if_pos ⟨by omega, by omega⟩]
    simp only [Sem.run_bind, hsz, Result.andThen_ok, Int.toNat_natCast, hp]
  simp only [Yd, execOp, ev_eq ho, ev_eq ho1, hx, hy, Sem.run_bind, this]
  rfl
/-! ### Structs of numbers and arrays of numbers -/
theorem run_part_flat {t : TypeId} {k o : Nat} (ha : ∀ w, (isAgg t).run P w = .ok true w) (hs : ∀ w, (sizeOf t).run P w = .ok k w) {l : List Int} : (part t (iv l).toArray o).run P w = .ok (ia ((l.drop o).take k)) w := by
  unfold part
  simp only [Sem.run_bind, ha, Result.andThen_ok, if_true, hs, Sem.run_pure]
  congr 2
  simp [iv, List.map_drop, List.map_take, List.extract_eq_take_drop]
/-- A field that is a number, or an array of numbers. -/
def FF (P : Program) (f : Field) (k : Nat) : Prop := f.name ≠ "_" ∧ ((P.underlying f.type = some (.int .i64) ∧ k = 1) ∨ (flatInts P f.type k = true ∧ (∀ w, (isAgg f.type).run P w = .ok true w) ∧ ∀ w, (sizeOf f.type).run P w = .ok k w))
theorem eqFields_flat (dd : Nat) (l m : List Int) : ∀ (fs : List (Field × Nat)), (∀ q ∈ fs, FF P q.1 q.2 ∧ q.1.offset + q.2 ≤ l.length ∧ q.1.offset + q.2 ≤ m.length) →
    (Op.eqFields (dd + 2) (iv l).toArray (iv m).toArray (fs.map Prod.fst)).run P w = .ok (fs.all fun q => decide ((l.drop q.1.offset).take q.2 = (m.drop q.1.offset).take q.2)) w
  | [], _ => by simp [Op.eqFields]
  | q :: fs, hh => by
    obtain ⟨⟨hn, hff⟩, h1, h2⟩ := hh q (.head _)
    have ih := eqFields_flat dd l m fs fun j hj => hh j (.tail _ hj)
    have key : ∃ u v : Value, (part q.1.type (iv l).toArray q.1.offset).run P w = .ok u w ∧ (part q.1.type (iv m).toArray q.1.offset).run P w = .ok v w ∧ (Op.equalIn (dd + 2) q.1.type u v).run P w = .ok (decide ((l.drop q.1.offset).take q.2 = (m.drop q.1.offset).take q.2)) w := by
      rcases hff with ⟨hu, hk⟩ | ⟨hf, ha, hs⟩
      · have e1 : (iv l).toArray[q.1.offset]? = some (.int .i64 (l.getD q.1.offset 0)) := by simp [show q.1.offset < l.length by omega]
        have e2 : (iv m).toArray[q.1.offset]? = some (.int .i64 (m.getD q.1.offset 0)) := by simp [show q.1.offset < m.length by omega]
        refine ⟨_, _, run_part_int hu e1, run_part_int hu e2, ?_⟩
        rw [run_equalIn_int w (dd + 1) q.1.type .i64 .i64 _ _ hu, hk]
        congr 1
        rw [List.drop_eq_getElem_cons (show q.1.offset < l.length by omega), List.drop_eq_getElem_cons (show q.1.offset < m.length by omega)]
        simp only [List.take_succ_cons, List.take_zero, List.cons.injEq, and_true]
        have g1 : l.getD q.1.offset 0 = l[q.1.offset]'(by omega) := by simp [List.getD, show q.1.offset < l.length by omega]
        have g2 : m.getD q.1.offset 0 = m[q.1.offset]'(by omega) := by simp [List.getD, show q.1.offset < m.length by omega]
        rw [g1, g2]
        rfl
      · refine ⟨_, _, run_part_flat ha hs, run_part_flat ha hs, ?_⟩
        have hl1 : ((l.drop q.1.offset).take q.2).length = q.2 := by simp; omega
        have hl2 : ((m.drop q.1.offset).take q.2).length = q.2 := by simp; omega
        exact run_equal_flat dd (by rw [hl1]; exact hf) (by rw [hl1, hl2])
    obtain ⟨u, v, k1, k2, k3⟩ := key
    simp only [List.map_cons, Op.eqFields, hn, ne_eq, not_false_eq_true, if_true, Sem.run_bind, k1, k2, k3, Result.andThen_ok]
    simp only [List.all_cons]
    by_cases hv : (l.drop q.1.offset).take q.2 = (m.drop q.1.offset).take q.2
    · rw [decide_eq_true hv]
      simp only [Bool.not_true, Bool.false_eq_true, if_false, Bool.true_and]
      exact ih
    · rw [decide_eq_false hv]
      simp only [Bool.not_false, if_true, Sem.run_pure, Bool.false_and]
/-- What a key's type has to be like: n numbers. -/
structure KeyTy (P : Program) (t : TypeId) (n : Nat) : Prop where
  chk : ∀ (em : Bool) (l : List Int) (w : World), l.length = n → (Instr.checkKey em 10000 t (ia l)).run P w = .ok () w
  eq : ∀ (l m : List Int) (w : World), l.length = n → m.length = n → (Op.equal t (ia l) (ia m)).run P w = .ok (decide (l = m)) w
  desc : ∃ u, P.underlying t = some u ∧ (∀ (l : List Int) (e : MapEntry) (es : List MapEntry), Instr.findNow u (ia l) (e :: es) 0 = none) ∧ ∀ (l : List Int) (w : World), (Instr.findKey t (ia l) []).run P w = .ok none w
theorem keyTy_struct {t : TypeId} {fs : Array Field} {k : Nat} (fq : List (Field × Nat)) (hu : P.underlying t = some (.struct fs)) (hp : P.stoodInHeld t = false) (hfs : fs.toList = fq.map Prod.fst) (hff : ∀ q ∈ fq, FF P q.1 q.2 ∧ q.1.offset + q.2 ≤ k)
    (hck : ∀ q ∈ fq, P.underlying q.1.type = some (.int .i64) ∨ ∃ el, P.underlying q.1.type = some (.array q.2 el) ∧ P.underlying el = some (.int .i64) ∧ ∀ w, (sizeOf el).run P w = .ok 1 w)
    (hcov : ∀ l m : List Int, l.length = k → m.length = k → (fq.all fun q => decide ((l.drop q.1.offset).take q.2 = (m.drop q.1.offset).take q.2)) = decide (l = m)) : KeyTy P t k := by
  refine ⟨fun em l w hl => ?_, fun l m w hl hm => ?_, ⟨_, hu, fun l e es => ?_, fun l w => ?_⟩⟩
  · have one : ∀ q ∈ fq, ∀ w, q.1.name ≠ "_" ∧ ∃ v, (part q.1.type (iv l).toArray q.1.offset).run P w = .ok v w ∧ (Instr.checkKey em 9999 q.1.type v).run P w = .ok () w := by
      intro q hq w
      obtain ⟨⟨hn, hf⟩, ho⟩ := hff q hq
      refine ⟨hn, ?_⟩
      rcases hf with ⟨hi, hk1⟩ | ⟨hf, ha, hs⟩
      · have e1 : (iv l).toArray[q.1.offset]? = some (.int .i64 (l.getD q.1.offset 0)) := by simp [show q.1.offset < l.length by omega]
        refine ⟨_, run_part_int hi e1, ?_⟩
        unfold Instr.checkKey
        simp [Sem.run_bind, run_underlying hi, Result.andThen]
      · refine ⟨_, run_part_flat ha hs, ?_⟩
        rcases hck q hq with hi | ⟨el, h1, h2, h3⟩
        · exfalso
          unfold flatInts at hf
          rw [hi] at hf
          cases hf
        · exact run_checkKey (dd := 9997) h1 (by simp; omega) h2 h3
    rw [show (10000 : Nat) = 9999 + 1 from rfl, Instr.checkKey]
    unfold ia
    simp only [Sem.run_bind, run_underlying hu, Result.andThen_ok]
    rw [← Array.forIn_toList, hfs]
    have : ∀ (q : List (Field × Nat)), (∀ x ∈ q, x ∈ fq) → ∀ w, (forIn (q.map Prod.fst) PUnit.unit fun f _ => (do
        if f.name ≠ "_" then Instr.checkKey em 9999 f.type (← part f.type (iv l).toArray f.offset)
        pure (ForInStep.yield PUnit.unit) : Sem (ForInStep PUnit)) : Sem PUnit).run P w = .ok PUnit.unit w := by
      intro q
      induction q with
      | nil => intro _ w; simp
      | cons x q ih =>
        intro hx w
        obtain ⟨hn, v, h1, h2⟩ := one x (hx x (.head _)) w
        simp only [List.map_cons, List.forIn_cons, Sem.run_bind, hn, ne_eq, not_false_eq_true, if_true, h1, h2, Result.andThen_ok, Sem.run_pure]
        exact ih (fun y hy => hx y (.tail _ hy)) w
    have h := this fq (fun _ h => h) w
    exact congrArg (fun r => Result.andThen r fun a w' => Sem.run P (pure ()) w') h
  · have hfo : P.fieldsOf t = fs := by simp [Program.fieldsOf, hu]
    show (Op.equalIn ((9997 + 2) + 1) t (.agg (iv l).toArray) (.agg (iv m).toArray)).run P w = _
    rw [run_equalIn_struct w (9997 + 2) t _ _ (by rw [hfo]; exact hu) hp, hfo, hfs, eqFields_flat 9997 l m fq (fun q hq => ⟨(hff q hq).1, by have := (hff q hq).2; omega, by have := (hff q hq).2; omega⟩), hcov l m hl hm]
  · simp [Instr.findNow, Instr.sameNow]
  · simp [Instr.findKey, Sem.run_bind, run_underlying hu, Result.andThen, Instr.findNow]
theorem K_findAsking {t : TypeId} {l : List Int} {k : Nat} (hK : KeyTy P t k) (hl : l.length = k) : ∀ (es : List MapEntry) (i : Nat), (∀ e ∈ es, ∃ m, m.length = k ∧ e.key = ia m) →
    ((∀ w, (Instr.findAsking t (ia l) es i).run P w = .ok none w) ∧ ∀ e ∈ es, e.key ≠ ia l) ∨ ∃ j e, (∀ w, (Instr.findAsking t (ia l) es i).run P w = .ok (some (j, e.val)) w) ∧ e ∈ es ∧ e.key = ia l
  | [], i, _ => .inl ⟨fun w => by simp [Instr.findAsking], by simp⟩
  | e :: es, i, hall => by
    obtain ⟨m, hm, hk⟩ := hall e (.head _)
    have h2 : ∀ w, (Op.equal t (ia l) e.key).run P w = .ok (decide (l = m)) w := fun w => by rw [hk]; exact hK.eq l m w hl hm
    by_cases hlm : l = m
    · rw [decide_eq_true hlm] at h2
      exact .inr ⟨i, e, fun w => by simp [Instr.findAsking, Sem.run_bind, h2, Result.andThen], .head _, by rw [hk, hlm]⟩
    · have h3 : ∀ w, (Instr.findAsking t (ia l) (e :: es) i).run P w = (Instr.findAsking t (ia l) es (i + 1)).run P w := by
        intro w
        simp [Instr.findAsking, Sem.run_bind, h2, hlm, Result.andThen]
      rcases K_findAsking hK hl es (i + 1) (fun e he => hall e (.tail _ he)) with ⟨h4, h5⟩ | ⟨j, e', h4, h5, h6⟩
      · exact .inl ⟨fun w => (h3 w).trans (h4 w), fun e' he' => by
          cases he' with
          | head => rw [hk]; exact fun h => hlm (ia_inj h).symm
          | tail _ he' => exact h5 e' he'⟩
      · exact .inr ⟨j, e', fun w => (h3 w).trans (h4 w), .tail _ h5, h6⟩
theorem K_findKey {t : TypeId} {l : List Int} {k : Nat} (hK : KeyTy P t k) (hl : l.length = k) (es : List MapEntry) (hall : ∀ e ∈ es, ∃ m, m.length = k ∧ e.key = ia m) :
    ((∀ w, (Instr.findKey t (ia l) es).run P w = .ok none w) ∧ ∀ e ∈ es, e.key ≠ ia l) ∨ ∃ j e, (∀ w, (Instr.findKey t (ia l) es).run P w = .ok (some (j, e.val)) w) ∧ e ∈ es ∧ e.key = ia l := by
  obtain ⟨u, hu, hn, h0⟩ := hK.desc
  cases es with
  | nil => exact .inl ⟨h0 l, by simp⟩
  | cons e es =>
    have h : ∀ w, (Instr.findKey t (ia l) (e :: es)).run P w = (Instr.findAsking t (ia l) (e :: es) 0).run P w := fun w => by
      simp [Instr.findKey, Sem.run_bind, run_underlying hu, Result.andThen, hn l e es]
    rcases K_findAsking hK hl (e :: es) 0 hall with ⟨h1, h2⟩ | ⟨j, e', h1, h2, h3⟩
    · exact .inl ⟨fun w => (h w).trans (h1 w), h2⟩
    · exact .inr ⟨j, e', fun w => (h w).trans (h1 w), h2, h3⟩
theorem K_lookupS {mt kt el : TypeId} {x y : Operand} {l : List Int} {a : Value} {m i k j : Nat} {es : Array MapEntry} {ck : Nat} {v : Value} (hU : P.underlying mt = some (.map kt el)) (hK : KeyTy P kt k) (hkl : l.length = k)
    (hst : St w0 w L) (ho : okO n x = true) (ho1 : okO n y = true) (hx : ev ρ x = .map (some m)) (hy : ev ρ y = a) (ha : a = ia l) (hi : L[i]? = some (m, .map es ck)) (hf : ∀ w, (Instr.findKey kt (ia l) es.toList).run P w = .ok (some (j, v)) w) :
    Yd P (A n ρ ds) ⟨d, .lookup mt x y true, ty, p, e, g⟩ w (.tuple #[v, .bool true]) := by
  unfold Yd
  have hc := hK.chk es.isEmpty l w hkl
  have : (Instr.lookup mt (.map (some m)) (ia l) true).run P w = .ok (.tuple #[v, .bool true]) w := by
    simp only [Instr.lookup, Sem.run_bind, run_underlying hU, Result.andThen_ok, hst.obj hi, Sem.run_pure, hc, hf, if_true]
  simp only [execOp, ev_eq ho, ev_eq ho1, hx, hy, ha, Sem.run_bind, this]
  rfl
theorem K_lookupN {mt kt el : TypeId} {x y : Operand} {l : List Int} {a : Value} {m i k : Nat} {es : Array MapEntry} {ck : Nat} {z : Value} (hU : P.underlying mt = some (.map kt el)) (hK : KeyTy P kt k) (hkl : l.length = k)
    (hz : ∀ w, (zeroValue el).run P w = .ok z w) (hst : St w0 w L) (ho : okO n x = true) (ho1 : okO n y = true) (hx : ev ρ x = .map (some m)) (hy : ev ρ y = a) (ha : a = ia l) (hi : L[i]? = some (m, .map es ck))
    (hf : ∀ w, (Instr.findKey kt (ia l) es.toList).run P w = .ok none w) : Yd P (A n ρ ds) ⟨d, .lookup mt x y true, ty, p, e, g⟩ w (.tuple #[z, .bool false]) := by
  unfold Yd
  have hc := hK.chk es.isEmpty l w hkl
  have : (Instr.lookup mt (.map (some m)) (ia l) true).run P w = .ok (.tuple #[z, .bool false]) w := by
    simp only [Instr.lookup, Sem.run_bind, run_underlying hU, Result.andThen_ok, hst.obj hi, Sem.run_pure, hc, hf, hz, if_true]
  simp only [execOp, ev_eq ho, ev_eq ho1, hx, hy, ha, Sem.run_bind, this]
  rfl
theorem K_mapAdd {mt kt el : TypeId} {x y z : Operand} {l : List Int} {a v : Value} {m i k : Nat} {es : Array MapEntry} {ck : Nat} (hw : Want ops (A n ρ ds) ⟨none, .mapUpdate mt x y z, ty, p, e, g⟩) (hU : P.underlying mt = some (.map kt el)) (hK : KeyTy P kt k) (hkl : l.length = k)
    (ho : okO n x = true) (ho1 : okO n y = true) (ho2 : okO n z = true) (hx : ev ρ x = .map (some m)) (hy : ev ρ y = a) (ha : a = ia l) (hz : ev ρ z = v) (hst : St w0 w L) (hi : L[i]? = some (m, .map es ck))
    (hf : ∀ w, (Instr.findKey kt (ia l) es.toList).run P w = .ok none w) (hk2 : ∀ w', St w0 w' (L.set i (m, .map (es.push { key := ia l, val := v, born := ck }) (ck + 1))) → WL r P ops Q rest (A n ρ ds) w') :
    WL r P ops Q (⟨none, .mapUpdate mt x y z, ty, p, e, g⟩ :: rest) (A n ρ ds) w := by
  refine w_unit hw (w' := w.putObj m (.map (es.push { key := ia l, val := v, born := ck }) (ck + 1))) ?_ rfl (hk2 _ (hst.putObj hi _))
  have hc := hK.chk false l w hkl
  have hs : (setObj m (.map (es.push { key := ia l, val := v, born := ck }) (ck + 1))).run P w = .ok () (w.putObj m (.map (es.push { key := ia l, val := v, born := ck }) (ck + 1))) := by
    simp [setObj, Sem.run, hst.get hi, World.putObj]
  have : (Instr.mapUpdate mt (.map (some m)) (ia l) v).run P w = .ok () (w.putObj m (.map (es.push { key := ia l, val := v, born := ck }) (ck + 1))) := by
    simp only [Instr.mapUpdate, Sem.run_bind, run_underlying hU, Result.andThen_ok, hst.obj hi, Sem.run_pure, hc, hf, hs]
  simp only [execOp, ev_eq ho, ev_eq ho1, ev_eq ho2, hx, hy, ha, hz, Sem.run_bind, this]
  rfl
end
end Go.Rt
