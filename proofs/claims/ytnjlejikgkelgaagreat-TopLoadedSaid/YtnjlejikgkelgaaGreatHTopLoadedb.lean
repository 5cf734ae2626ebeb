/- Own texts of this claim, joined. No conditions. -/
import Derived.Test.YtnjlejikgkelgaaGreatRows
import Derived.Laws.RangeAny
import Derived.Test.YtnjlejikgkelgaaGreatHTopLoadeda
/- Plain words of the cable layer: what Plan, Held and Told return. No conditions. -/
set_option linter.unusedSimpArgs false
namespace Go.Rt.Ca
def planL (p : Port) : List Int := if (check p).2.2 = 0 ∧ (best p (doP p)).found = true then (best p (doP p)).b.take p.farms.length else []
def planV (p : Port) : Int := if (check p).2.2 = 0 ∧ (best p (doP p)).found = true then vain p (best p (doP p)).b else 0
def planE (p : Port) : Int := if (check p).2.2 = 0 then (if (best p (doP p)).found = true then 0 else 9) else (check p).2.2
theorem plan_e1 {p : Port} (h : ¬ (check p).2.2 = 0) : planL p = [] ∧ planV p = 0 ∧ planE p = (check p).2.2 := by
  unfold planL planV planE
  rw [if_neg (fun hh => h hh.1), if_neg (fun hh => h hh.1), if_neg h]; exact ⟨rfl, rfl, rfl⟩
theorem plan_e2 {p : Port} (h : (check p).2.2 = 0) (hf : (best p (doP p)).found = false) : planL p = [] ∧ planV p = 0 ∧ planE p = 9 := by
  unfold planL planV planE
  rw [hf]; simp [h]
theorem plan_ok {p : Port} (h : (check p).2.2 = 0) (hf : (best p (doP p)).found = true) : planL p = (best p (doP p)).b.take p.farms.length ∧ planV p = vain p (best p (doP p)).b ∧ planE p = 0 := by
  unfold planL planV planE
  rw [hf]; simp [h]
def heldUpto (p : Port) (f i : Nat) : Int := ((doP p).take i).foldl (fun n l => max n (l.getD f 0)) 0
def held (p : Port) (f : Nat) : Int := (doP p).foldl (fun n l => max n (l.getD f 0)) 0
theorem heldUpto_succ {p : Port} {f i : Nat} (hi : i < (doP p).length) : heldUpto p f (i + 1) = max (heldUpto p f i) ((doP p)[i].getD f 0) := by
  unfold heldUpto; rw [List.take_succ_eq_append_getElem hi, List.foldl_append]; rfl
theorem zEf {p : Port} {f i : Nat} (hi : (doP p).length ≤ i) : heldUpto p f i = held p f := by unfold heldUpto held; rw [List.take_of_length_le hi]
def anyNever (p : Port) (f i : Nat) : Bool := ((doP p).take i).any fun l => decide (l.getD f 0 = -1)
theorem zH9 {p : Port} {f i : Nat} (hi : i < (doP p).length) : anyNever p f (i + 1) = (anyNever p f i || decide ((doP p)[i].getD f 0 = -1)) := by
  unfold anyNever; rw [List.take_succ_eq_append_getElem hi, List.any_append]; simp
theorem zEh {p : Port} {f i : Nat} (hi : (doP p).length ≤ i) : anyNever p f i = (doP p).any fun l => decide (l.getD f 0 = -1) := by unfold anyNever; rw [List.take_of_length_le hi]
theorem anyNever_true {p : Port} {f i : Nat} (h : anyNever p f i = true) : ((doP p).any fun l => decide (l.getD f 0 = -1)) = true := by
  unfold anyNever at h
  rw [List.any_eq_true] at h ⊢
  obtain ⟨x, hx, h⟩ := h
  exact ⟨x, List.mem_of_mem_take hx, h⟩
def heldD (p : Port) (f : Int) : Int := if (check p).2.2 = 0 ∧ out 0 (p.farms.length - 1) f = false then (if ((doP p).any fun l => decide (l.getD f.toNat 0 = -1)) then -1 else held p f.toNat) else 0
def heldE (p : Port) (f : Int) : Int := if (check p).2.2 = 0 then (if out 0 (p.farms.length - 1) f = false then (if doC p = [] then 9 else 0) else 4) else (check p).2.2
def toldStep (p : Port) (day : Int) (n : Int) (l : List Int) : Int := if 0 ≤ worst p l day ∧ (n < 0 ∨ worst p l day < n) then worst p l day else n
def toldUpto (p : Port) (d i : Nat) : Int := ((((allC d p.farms.length).map pad)).take i).foldl (toldStep p d) (-1)
def told (p : Port) (d : Nat) : Int := ((allC d p.farms.length).map pad).foldl (toldStep p d) (-1)
theorem zC4 {p : Port} {d i : Nat} (hi : i < ((allC d p.farms.length).map pad).length) : toldUpto p d (i + 1) = toldStep p d (toldUpto p d i) ((allC d p.farms.length).map pad)[i] := by
  unfold toldUpto; rw [List.take_succ_eq_append_getElem hi, List.foldl_append]; rfl
theorem zDj {p : Port} {d i : Nat} (hi : ((allC d p.farms.length).map pad).length ≤ i) : toldUpto p d i = told p d := by unfold toldUpto told; rw [List.take_of_length_le hi]
theorem zJb {p : Port} {day n : Int} {l : List Int} (h : 0 ≤ worst p l day) (h2 : n < 0 ∨ worst p l day < n) : worst p l day = toldStep p day n l := by unfold toldStep; rw [if_pos ⟨h, h2⟩]
theorem told_no {p : Port} {day n : Int} {l : List Int} (h : ¬ (0 ≤ worst p l day ∧ (n < 0 ∨ worst p l day < n))) : n = toldStep p day n l := by unfold toldStep; rw [if_neg h]
def toldD (p : Port) (day : Int) : Int := if (check p).2.2 = 0 ∧ out 0 10 day = false ∧ 0 ≤ told p day.toNat then told p day.toNat else 0
def toldE (p : Port) (day : Int) : Int := if (check p).2.2 = 0 then (if out 0 10 day = false then (if told p day.toNat < 0 then 9 else 0) else 7) else (check p).2.2
theorem zFj {w0 w : World} {x : Nat × Obj} {Y F : List (Nat × Obj)} (h : St w0 w (x :: (Y ++ F))) : St w0 w (x :: F) := (h.perm (zAq [x] Y F)).drop
end Go.Rt.Ca
/- Plain words of the cable layer: who must cut too early. No conditions. -/
namespace Go.Rt.Ca
def setKeep (l : List Farm) (i : Nat) (k : Int) : List Farm := l.modify i fun f => { f with keep := k }
def kept (p : Port) (i : Nat) (k : Int) : Port := { p with farms := setKeep p.farms i k }
def canAt (p : Port) (i : Nat) (k : Int) : Bool := !(doC (kept p i k)).isEmpty
def earlyK (p : Port) (i : Nat) : Int → Nat → Option Int
  | _, 0 => none
  | k, n + 1 => if canAt p i k then some k else earlyK p i (k + 1) n
def earlyFrom (p : Port) : Nat → List Farm → Int × Int × Int
  | _, [] => (0,0,9)
  | i, f :: l => match earlyK p i (f.keep + 1) (9 - f.keep).toNat with
    | some k => ((i : Int), k - f.keep, 0)
    | none => earlyFrom p (i + 1) l
def earlyD (p : Port) : Int × Int × Int := if (check p).2.2 = 0 then (if (doC p).isEmpty then earlyFrom p 0 p.farms else (0,0,2)) else (0,0, (check p).2.2)
theorem zFl {p : Port} {i : Nat} (hi : i < p.farms.length) : earlyFrom p i (p.farms.drop i) = match earlyK p i (p.farms[i].keep + 1) (9 - p.farms[i].keep).toNat with
    | some k => ((i : Int), k - p.farms[i].keep, 0)
    | none => earlyFrom p (i + 1) (p.farms.drop (i + 1)) := by
  rw [List.drop_eq_getElem_cons hi]; rfl
theorem zDc (l : List Farm) (i : Nat) (k : Int) : (setKeep l i k).length = l.length := by simp [setKeep]
theorem setKeep_same {l : List Farm} {i : Nat} (hi : i < l.length) : setKeep l i l[i].keep = l := by
  unfold setKeep
  apply List.ext_getElem?
  intro j
  rw [List.getElem?_modify]
  by_cases h : i = j
  · subst h; simp [hi]
  · simp [h]
theorem setKeep_set {l : List Farm} {i : Nat} {k k' : Int} : setKeep (setKeep l i k) i k' = setKeep l i k' := by
  unfold setKeep
  apply List.ext_getElem?
  intro j
  simp only [List.getElem?_modify]
  by_cases h : i = j
  · subst h; cases l[i]? <;> simp
  · simp [h]
theorem setKeep_get {l : List Farm} {i : Nat} (k : Int) (hi : i < l.length) : (setKeep l i k)[i]'(by rw [zDc]; exact hi) = { l[i] with keep := k } := by simp [setKeep]
theorem zHm {l : List Farm} {i : Nat} (k : Int) (hi : i < l.length) : ((setKeep l i k)[i]'(by rw [zDc]; exact hi)).cells = [.string l[i].name, .int .i64 l[i].way, .int .i64 l[i].notice, .int .i64 k, .int .i64 l[i].lo, .int .i64 l[i].hi] := by
  rw [setKeep_get k hi]; rfl
theorem kept_ok {p : Port} (hok : p.Ok) {i : Nat} {k : Int} (hi : i < p.farms.length) (h1 : p.farms[i].keep ≤ k) (h2 : k ≤ 9) : (kept p i k).Ok := by
  refine ⟨hok.hold, hok.come, by show (setKeep p.farms i k).length ≤ 3; rw [zDc]; exact hok.len, ?_⟩
  intro f hf
  obtain ⟨j, hj, rfl⟩ := List.getElem_of_mem hf
  have hj' : j < p.farms.length := by simpa [kept, setKeep] using hj
  have := hok.farm _ (List.getElem_mem hj')
  by_cases h : i = j
  · subst h
    have e : (kept p i k).farms[i] = { p.farms[i] with keep := k } := setKeep_get k hi
    rw [e]
    unfold Farm.Ok at this ⊢
    dsimp only
    omega
  · have e : (kept p i k).farms[j] = p.farms[j] := by simp [kept, setKeep, List.getElem_modify, h]
    rw [e]; exact this
theorem rows_set : ∀ (l : List Farm) (i : Nat) (k : Int), i < l.length → (rows l).flatten.set (i * 6 + 3) (.int .i64 k) = (rows (setKeep l i k)).flatten
  | [], i, _, h => by simp at h
  | f :: l, 0, k, _ => by simp [rows, setKeep, Farm.cells]
  | f :: l, i + 1, k, h => by
    have ih := rows_set l i k (by simpa using h)
    have e : rows (setKeep (f :: l) (i + 1) k) = f.cells :: rows (setKeep l i k) := by simp [rows, setKeep]
    rw [e, List.flatten_cons, ← ih]
    simp only [rows, List.map_cons, List.flatten_cons]
    rw [List.set_append_right _ _ (by simp [Farm.cells]; omega)]
    congr 2
    simp [Farm.cells]; omega
theorem cells_set {cs : List Value} {l : List Farm} {n i : Nat} {k : Int} (hn : l.length = n) (h : cs.take (n * 6) = (rows l).flatten) (hi : i < n) : (cs.set (i * 6 + 3) (.int .i64 k)).take (n * 6) = (rows (setKeep l i k)).flatten := by
  rw [List.take_set, h, rows_set l i k (by omega)]
end Go.Rt.Ca
/- Plain words of the cable layer's reference: all cables made from the left, which come before others. No conditions. -/
namespace Go.Rt.Ca
def grow (ds : List Int) (l : List (List Int)) (k : Nat) : List (List Int) := (l.take k).flatMap fun x => ds.map fun d => x ++ [d]
def growDay (ds : List Int) (l : List (List Int)) (k q : Nat) (x : List Int) : List (List Int) := grow ds l k ++ (List.range q).map fun (d : Nat) => x ++ [(d : Int)]
def beforeL : List Int → List Int → Bool
  | x :: a, y :: b => if x = y then beforeL a b else (decide (y = -1) || (!decide (x = -1) && decide (x < y)))
  | _, _ => false
def before (p : Port) (a b : List Int) : Bool :=
  if vain p a = vain p b then (if cut p.farms a = cut p.farms b then beforeL a b else decide (cut p.farms a < cut p.farms b)) else decide (vain p a < vain p b)
end Go.Rt.Ca
/- Plain words of the cable layer: the examples of the document, evaluated. No conditions. -/
set_option maxRecDepth 100000
namespace Go.Rt.Ca
def fAlto : Farm := ⟨⟨#[97,108,116,111]⟩, 1,1,5,20,25⟩
def fBajo : Farm := ⟨⟨#[98,97,106,111]⟩, 2,1,4,30,30⟩
def fCima : Farm := ⟨⟨#[99,105,109,97]⟩, 1,2,3,40,45⟩
def exPort (come : Int) (n : Nat) : Port := ⟨50, come, 8, [fAlto, fBajo, fCima].take n⟩
theorem zIs (come : Int) (n : Nat) : ∀ f ∈ (exPort come n).farms, f.name.size ≤ 9223372036854775807 := by
  intro f hf
  have h := List.mem_of_mem_take hf
  simp only [List.mem_cons, List.not_mem_nil, or_false] at h
  rcases h with rfl | rfl | rfl <;> decide
def fullR (p : Port) (l : List Int) : Int := if enterErr p l = 0 then does p l else 0
def vainR (p : Port) (l : List Int) : Int := if enterErr p l = 0 then vain p l else 0
theorem ex_q5 : enterErr (exPort 5 3) [2,3, -1] = 0 := by decide +kernel
theorem ex_q5v : quayR (exPort 5 3) [2,3, -1] = [[20,25], [50,55], [50,55], [50,55]] := by decide +kernel
theorem ex_q6 : enterErr (exPort 6 3) [2,3, -1] = 0 := by decide +kernel
theorem ex_q5b : enterErr (exPort 5 3) [-1, -1,3] = 0 := by decide +kernel
theorem ex_f6 : fullR (exPort 6 3) [2,3, -1] = 1 := by decide +kernel
theorem ex_f5 : fullR (exPort 5 3) [2,3, -1] = 0 := by decide +kernel
theorem ex_f5b : fullR (exPort 5 3) [-1, -1,3] = 2 := by decide +kernel
theorem ex_v5 : vainR (exPort 5 3) [2,3, -1] = 30 := by decide +kernel
theorem ex_p6 : planL (exPort 6 3) = [2,3, -1] := by decide +kernel
theorem ex_p6v : planV (exPort 6 3) = 0 := by decide +kernel
theorem ex_p6e : planE (exPort 6 3) = 0 := by decide +kernel
theorem ex_p5 : planL (exPort 5 3) = [2,0,3] := by decide +kernel
theorem ex_p5v : planV (exPort 5 3) = 45 := by decide +kernel
theorem ex_p5e : planE (exPort 5 3) = 0 := by decide +kernel
theorem ex_t5 : planL (exPort 5 2) = [] := by decide +kernel
theorem ex_t5v : planV (exPort 5 2) = 0 := by decide +kernel
theorem ex_t5e : planE (exPort 5 2) = 9 := by decide +kernel
theorem ex_h60 : heldD (exPort 6 2) 0 = 4 := by decide +kernel
theorem ex_h60e : heldE (exPort 6 2) 0 = 0 := by decide +kernel
theorem ex_h63 : heldD (exPort 6 3) 3 = 0 := by decide +kernel
theorem ex_h63e : heldE (exPort 6 3) 3 = 4 := by decide +kernel
theorem ex_e5 : earlyD (exPort 5 2) = (1,1,0) := by decide +kernel
theorem ex_e6 : earlyD (exPort 6 3) = (0,0,2) := by decide +kernel
theorem ex_t3 : toldD (exPort 5 3) 3 = 30 := by decide +kernel
theorem ex_t3e : toldE (exPort 5 3) 3 = 0 := by decide +kernel
end Go.Rt.Ca
/- Plain words of the cable layer: the reference and the laws (joined texts). No conditions. -/
set_option linter.unusedVariables false
namespace Go.Rt.Ca
def dayLt (d e : Int) : Prop := d ≠ e ∧ (decide (e = -1) || (!decide (d = -1) && decide (d < e))) = true
def rsel (p : Port) (b l : List Int) : List Int := if before p l b then l else b
def rbUpto (p : Port) (L : List (List Int)) (i : Nat) : List Int := (L.take i).tail.foldl (rsel p) (L.headD [])
def canUpto (f : Farm) (start day : Int) (k : Nat) : Bool := (List.range k).any fun (j : Nat) => fresh f (start + (j : Int)) day
def thenR (p : Port) (g : List Int) (start day : Int) : Int := if leastT p.farms g start day < p.hold then -1 else (on p.farms g day).vain
def turnOf (x : List Int) (n : Nat) : Int := if x.length = 0 then 0 else x.getD (n % x.length) 0
theorem turn_in {x : List Int} (h : ∀ z ∈ x, 0 ≤ z ∧ z ≤ 255) (n : Nat) : 0 ≤ turnOf x n ∧ turnOf x n ≤ 255 := by
  unfold turnOf
  split
  · omega
  · rename_i h0
    have hl : n % x.length < x.length := Nat.mod_lt _ (by omega)
    simp only [List.getD, List.getElem?_eq_getElem hl, Option.getD_some]
    exact h _ (List.getElem_mem hl)
def anyC (n : Nat) (x : List Int) : List Int := (List.range n).map fun i => turnOf x i % 12 - 1
theorem any_len (n : Nat) (x : List Int) : (anyC n x).length = n := by simp [anyC]
theorem any_succ (n : Nat) (x : List Int) : anyC (n + 1) x = anyC n x ++ [turnOf x n % 12 - 1] := by simp [anyC, List.range_succ]
theorem any_in {n : Nat} {x : List Int} : ∀ z ∈ anyC n x, -1 ≤ z ∧ z ≤ 10 := by
  intro z hz
  obtain ⟨i, _, rfl⟩ := List.mem_map.1 hz
  omega
def ownH (f : Farm) (t : Int) : Int := f.lo + t % (f.hi - f.lo + 1)
def trU (fs : List Farm) (l x : List Int) (day : Int) : Nat → Int × Int
  | 0 => (0,0)
  | i + 1 => match fs[i]? with
    | some f => if l.getD i 0 = -1 then trU fs l x day i else if fresh f (l.getD i 0) day then ((trU fs l x day i).1 + ownH f (turnOf x i), (trU fs l x day i).2) else ((trU fs l x day i).1, (trU fs l x day i).2 + ownH f (turnOf x i))
    | none => trU fs l x day i
theorem ownH_in {f : Farm} (hf : f.Ok) {t : Int} : f.lo ≤ ownH f t ∧ ownH f t ≤ f.hi := by
  unfold Farm.Ok at hf
  unfold ownH
  have h1 := Int.emod_nonneg t (show f.hi - f.lo + 1 ≠ 0 by omega)
  have h2 := Int.emod_lt_of_pos t (show 0 < f.hi - f.lo + 1 by omega)
  omega
theorem tr_bound {fs : List Farm} {l x : List Int} {day : Int} (hok : ∀ f ∈ fs, f.Ok) (hl : l.length = fs.length) : ∀ i, i ≤ fs.length →
    (onUpto fs l day i).least ≤ (trU fs l x day i).1 ∧ (trU fs l x day i).1 ≤ (onUpto fs l day i).most ∧ 0 ≤ (trU fs l x day i).2 ∧ (trU fs l x day i).2 ≤ (onUpto fs l day i).vain
  | 0, _ => by simp [onUpto, trU]
  | i + 1, hi => by
    have ih := tr_bound (x := x) (day := day) hok hl i (by omega)
    have hi2 : i < fs.length := by omega
    have ho := ownH_in (hok _ (List.getElem_mem hi2)) (t := turnOf x i)
    have hf := hok _ (List.getElem_mem hi2)
    unfold Farm.Ok at hf
    rw [onUpto_succ day hi2 (by omega)]
    simp only [trU, List.getElem?_eq_getElem hi2, step]
    split
    · exact ih
    · split
      · dsimp only; omega
      · dsimp only; omega
theorem trU_never {fs : List Farm} {l x : List Int} {day : Int} {i : Nat} (hi : i < fs.length) (h : l.getD i 0 = -1) : trU fs l x day (i + 1) = trU fs l x day i := by
  simp only [trU, List.getElem?_eq_getElem hi, if_pos h]
theorem trU_fresh {fs : List Farm} {l x : List Int} {day : Int} {i : Nat} (hi : i < fs.length) (h : ¬ l.getD i 0 = -1) (h2 : fresh fs[i] (l.getD i 0) day = true) : trU fs l x day (i + 1) = ((trU fs l x day i).1 + ownH fs[i] (turnOf x i), (trU fs l x day i).2) := by
  simp only [trU, List.getElem?_eq_getElem hi, if_neg h, h2, if_true]
theorem trU_vain {fs : List Farm} {l x : List Int} {day : Int} {i : Nat} (hi : i < fs.length) (h : ¬ l.getD i 0 = -1) (h2 : fresh fs[i] (l.getD i 0) day = false) : trU fs l x day (i + 1) = ((trU fs l x day i).1, (trU fs l x day i).2 + ownH fs[i] (turnOf x i)) := by
  simp only [trU, List.getElem?_eq_getElem hi, if_neg h, h2, Bool.false_eq_true, if_false]
theorem tr_small {p : Port} (hok : p.Ok) {l x : List Int} {day : Int} (hl : l.length = p.farms.length) (i : Nat) (hi : i ≤ p.farms.length) : 0 ≤ (trU p.farms l x day i).1 ∧ (trU p.farms l x day i).1 ≤ 180 ∧ 0 ≤ (trU p.farms l x day i).2 ∧ (trU p.farms l x day i).2 ≤ 180 := by
  have h1 := tr_bound (x := x) (day := day) hok.farm hl i hi
  have h2 := zGf (l := l) day i (by have := hok.len; omega) hok.farm
  omega
theorem enter_any {p : Port} (h : (check p).2.2 = 0) {l : List Int} (hl : l.length = p.farms.length) (hi : ∀ z ∈ l, -1 ≤ z ∧ z ≤ 10) : enterErr p l = 0 := by
  unfold enterErr
  rw [if_neg (by simp [h]), if_neg (by simp [hl]), if_neg]
  intro ha
  rw [List.any_eq_true] at ha
  obtain ⟨z, hz, hz2⟩ := ha
  have := hi z hz
  simp only [out, Bool.or_eq_true, decide_eq_true_eq] at hz2
  omega
theorem quay_get {p : Port} {l : List Int} (h : enterErr p l = 0) {k : Nat} (hk : k < (quayR p l).length) : (quayR p l)[k] = [(on p.farms l (p.clo + k)).least, (on p.farms l (p.clo + k)).most] := by
  have e : quayR p l = quay p l := by unfold quayR; rw [if_pos h]
  have hk2 : k < (quay p l).length := by rw [← e]; exact hk
  have : (quayR p l)[k] = (quay p l)[k] := by simp [e]
  rw [this]
  simp [quay, loads, Port.days]
theorem quay_len {p : Port} {l : List Int} (h : enterErr p l = 0) (hc : p.clo ≤ p.chi) : ((quayR p l).length : Int) = p.chi - p.clo + 1 := by
  have e : quayR p l = quay p l := by unfold quayR; rw [if_pos h]
  rw [e]; unfold quay; rw [List.length_map, zD5]; omega
def namesOk : List ByteArray → List ByteArray → Bool
  | _, [] => true
  | b, n :: l => nmOk n && !has b n && namesOk (b ++ [n]) l
theorem farmErr_iff {f : Farm} : farmErr f = 0 ↔ f.Ok := by
  unfold farmErr ends Farm.Ok out
  simp only [Bool.or_eq_true, decide_eq_true_eq]
  constructor
  · intro h
    split at h
    · omega
    · split at h
      · omega
      · split at h <;> omega
  · intro h
    rw [if_neg (by omega), if_neg (by omega), if_neg (by omega)]
theorem fErr_iff {b : List ByteArray} {f : Farm} : fErr b f = 0 ↔ (nmOk f.name && !has b f.name) = true ∧ f.Ok := by
  unfold fErr
  split
  · rename_i h
    split
    · rename_i h2; simp [h, h2]
    · rename_i h2; rw [farmErr_iff]; simp [h, h2]
  · rename_i h; simp [h]
theorem zGp : ∀ (l : List Farm) (b : List ByteArray) (j : Int), (farmsErr b j l).2.2 = 0 ↔ namesOk b (names l) = true ∧ ∀ f ∈ l, f.Ok
  | [], b, j => by simp [farmsErr, names, namesOk]
  | f :: l, b, j => by
    have e : names (f :: l) = f.name :: names l := rfl
    rw [e]
    simp only [farmsErr, namesOk]
    split
    · rename_i h
      have h2 := fErr_iff.1 h
      rw [zGp l, h2.1, Bool.true_and]
      constructor
      · rintro ⟨h3, h4⟩
        refine ⟨h3, fun g hg => ?_⟩
        cases hg with
        | head => exact h2.2
        | tail _ hg => exact h4 g hg
      · rintro ⟨h3, h4⟩; exact ⟨h3, fun g hg => h4 g (.tail _ hg)⟩
    · rename_i h
      constructor
      · intro h2; exact absurd h2 h
      · rintro ⟨h3, h4⟩
        rw [Bool.and_eq_true] at h3
        exact absurd (fErr_iff.2 ⟨h3.1, h4 f (.head _)⟩) h
theorem zEg {p : Port} : (check p).2.2 = 0 ↔ p.Ok ∧ namesOk [] (names p.farms) = true := by
  constructor
  · intro h
    refine ⟨check_ok h, ?_⟩
    unfold check at h
    split at h
    · simp at h
    · split at h
      · simp at h
      · split at h
        · simp at h
        · exact ((zGp _ _ _).1 h).1
  · rintro ⟨hok, hn⟩
    have h1 := hok.hold
    have h2 := hok.come
    have h3 := hok.len
    unfold check
    rw [if_neg (by simp only [out, Bool.or_eq_true, decide_eq_true_eq]; omega), if_neg (by omega), if_neg (by omega)]
    exact (zGp _ _ _).2 ⟨hn, hok.farm⟩
def sumC (g : Farm × Int → Int) (l : List (Farm × Int)) : Int := l.foldr (fun q n => g q + n) 0
def cLo (day : Int) (q : Farm × Int) : Int := if q.2 = -1 then 0 else if fresh q.1 q.2 day then q.1.lo else 0
def cHi (day : Int) (q : Farm × Int) : Int := if q.2 = -1 then 0 else if fresh q.1 q.2 day then q.1.hi else 0
def cVain (day : Int) (q : Farm × Int) : Int := if q.2 = -1 then 0 else if fresh q.1 q.2 day then 0 else q.1.hi
def cLate (start day : Int) (q : Farm × Int) : Int := if q.2 = -1 then (if canLate q.1 start day then q.1.lo else 0) else 0
def cutAt (a z : Int) : Int := if z < a then z else -1
def oneP (p : Port) (day : Int) : Port := { p with clo := day, chi := day }
def never_ (n : Nat) : List Int := List.replicate n (-1)
def bestDay (fs : List Farm) (day : Int) : List Int := fs.map fun f => if canLate f 0 day then min 10 (day - f.way - f.notice) else -1
def moreP (p : Port) (f : Farm) : Port := { p with farms := p.farms ++ [f] }
def lateP (p : Port) (n : Int) : Port := { p with clo := p.clo + n, chi := p.chi + n }
def lateD (n z : Int) : Int := if z = -1 then -1 else z + n
def shortP (p : Port) (a b : Int) : Port := { p with clo := a, chi := b }
def easeF (f : Farm) (k lo : Int) : Farm := { f with keep := k, lo := lo }
def easyL (l : List Farm) (i : Nat) (k lo : Int) : List Farm := match l[i]? with
  | some f => l.set i (easeF f k lo)
  | none => l
def easyP (p : Port) (h a b : Int) (i : Nat) (k lo : Int) : Port := ⟨h, a, b, easyL p.farms i k lo⟩
end Go.Rt.Ca
/- Arguments of TopLoaded, opened; what a law that holds leaves behind. No conditions. -/
set_option maxRecDepth 100000
namespace Go.Proofs.YtnjlejikgkelgaaGreat
open Go.Proofs.Tryz
open Go.Rt Go.RowKit Go.ChangeShapes Go.WideShapes Go.ChangeAt
instance : Inhabited Ca.Farm := ⟨⟨ByteArray.empty, 0,0,0,0,0⟩⟩
theorem Tryz.own : ownKnob Tryz.prog.godebug = none := by kernel_rfl
theorem Tryz.laidOut : laidOutB Tryz.prog = true := by kernel_rfl
theorem cells46 : Tryz.prog.cellsOf 46 = 6 := by kernel_rfl
theorem cells26 : Tryz.prog.cellsOf 26 = 4 := by kernel_rfl
theorem cells23 : Tryz.prog.cellsOf 23 = 2 := by kernel_rfl
theorem cells24 : Tryz.prog.cellsOf 24 = 1 := by kernel_rfl
theorem cells3 : Tryz.prog.cellsOf 3 = 1 := by kernel_rfl
theorem cells9 : Tryz.prog.cellsOf 9 = 1 := by kernel_rfl
variable {H : Type} {enc : TypeId × Value → H} {W : World} {sp : Nat → Bool} {held : Bool}
theorem open_span {fuel : Nat} {cs : List Value} {x : DataW H × List MemPlace} (h : DataW.trod enc Tryz.prog W 0 sp held fuel 23 cs = some x) : ∃ a b : Int, cs = [.int .i64 a, .int .i64 b] := by
  have hl := trod_len underlying23 h
  rw [cells23] at hl
  obtain ⟨n, y, h0⟩ := zC2 underlying23 h 0 3 0 1 rfl rfl rfl cells3
  obtain ⟨n1, y1, h1⟩ := zC2 underlying23 h 1 3 1 1 rfl rfl rfl cells3
  match cs, hl with
  | [c0, c1], _ =>
    obtain ⟨a, e0⟩ := zGs underlying3 h0
    obtain ⟨b, e1⟩ := zGs underlying3 h1
    simp at e0 e1
    exact ⟨a, b, by rw [e0, e1]⟩
theorem open_farm (fuel : Nat) (cs : List Value) (y : DataW H × List MemPlace) (h : DataW.trod enc Tryz.prog W 0 sp held fuel 46 cs = some y) : ∃ f : Ca.Farm, cs = f.cells ∧ f.name.size ≤ 9223372036854775807 := by
  have hl := trod_len underlying46 h
  rw [cells46] at hl
  obtain ⟨_, _, h0⟩ := zC2 underlying46 h 0 9 0 1 rfl rfl rfl cells9
  obtain ⟨_, _, h1⟩ := zC2 underlying46 h 1 3 1 1 rfl rfl rfl cells3
  obtain ⟨_, _, h2⟩ := zC2 underlying46 h 2 3 2 1 rfl rfl rfl cells3
  obtain ⟨_, _, h3⟩ := zC2 underlying46 h 3 3 3 1 rfl rfl rfl cells3
  obtain ⟨_, _, h4⟩ := zC2 underlying46 h 4 23 4 2 rfl rfl rfl cells23
  match cs, hl with
  | [c0, c1, c2, c3, c4, c5], _ =>
    obtain ⟨s, e0, _, hs⟩ := DataW.trod_string underlying9 h0
    obtain ⟨x1, e1⟩ := zGs underlying3 h1
    obtain ⟨x2, e2⟩ := zGs underlying3 h2
    obtain ⟨x3, e3⟩ := zGs underlying3 h3
    obtain ⟨x4, x5, e4⟩ := open_span h4
    simp at e0 e1 e2 e3 e4
    exact ⟨⟨s, x1, x2, x3, x4, x5⟩, by rw [e0, e1, e2, e3, e4.1, e4.2]; rfl, by simpa [maxLen] using hs⟩
theorem open_port {v : Value} {d : DataW H} {ps : List MemPlace} {r : Reach} {b0 : Nat} (hval : Value.okWide Tryz.prog W r b0 26 v) (h : DataW.Trod enc Tryz.prog W 0 sp held 26 v d ps) :
    ∃ (p : Ca.Port) (a : Option Addr) (c : Nat), v = .agg (p.cells a c).toArray ∧ Sl W [] a 6 (Ca.rows p.farms) ∧ p.farms.length ≤ c ∧ p.farms.length ≤ 9223372036854775807 ∧ ∀ f ∈ p.farms, f.name.size ≤ 9223372036854775807 := by
  obtain ⟨xs, rfl, hsz⟩ : ∃ xs, v = .agg xs ∧ xs.size = 4 := by
    unfold Value.okWide at hval
    rw [underlying26] at hval
    obtain ⟨cs, h1, h2, _⟩ := hval
    exact ⟨cs, h1, by rw [h2, cells26]⟩
  obtain ⟨fuel, hf⟩ := h
  have hf2 : DataW.trod enc Tryz.prog W 0 sp held fuel 26 xs.toList = some (d, ps) := hf
  obtain ⟨_, _, h0⟩ := zC2 underlying26 hf2 0 3 0 1 rfl rfl rfl cells3
  obtain ⟨_, _, h1⟩ := zC2 underlying26 hf2 1 23 1 2 rfl rfl rfl cells23
  obtain ⟨_, _, h2⟩ := zC2 underlying26 hf2 2 24 3 1 rfl rfl rfl cells24
  obtain ⟨xl, rfl⟩ : ∃ l : List Value, xs = l.toArray := ⟨xs.toList, by simp⟩
  have hl4 : xl.length = 4 := by simpa using hsz
  match xl, hl4 with
  | [c0, c1, c2, c3], _ =>
    obtain ⟨x0, e0⟩ := zGs underlying3 h0
    obtain ⟨x1, x2, e1⟩ := open_span h1
    obtain ⟨a, c, l, e2, hsl, hc, hm, hn⟩ := open_rows (row := Ca.Farm.cells) (ok := fun f => f.name.size ≤ 9223372036854775807) underlying24 cells46 (by omega) (fun _ => rfl) open_farm h2
    simp at e0 e1 e2
    exact ⟨⟨x0, x1, x2, l⟩, a, c, by rw [e0, e1.1, e1.2, e2]; rfl, hsl, hc, hm, hn⟩
theorem u8_wf {n : Int} (h : (Lit.int .u8 n).wf = true) : 0 ≤ n ∧ n ≤ 255 := by
  simp only [Lit.wf, Bool.and_eq_true, decide_eq_true_eq] at h
  exact h
theorem cells5 : Tryz.prog.cellsOf 5 = 1 := by kernel_rfl
theorem cells27 : Tryz.prog.cellsOf 27 = 1 := by kernel_rfl
theorem cells29 : Tryz.prog.cellsOf 29 = 2 := by kernel_rfl
theorem trod_u8 {fuel : Nat} {cs : List Value} {y : DataW H × List MemPlace} (h : DataW.trod enc Tryz.prog W 0 sp held fuel 5 cs = some y) : ∃ f : Int, cs = [Value.int .u8 f] ∧ 0 ≤ f ∧ f ≤ 255 := by
  obtain ⟨n, e, _, hw⟩ := DataW.trod_int underlying5 h
  exact ⟨n, e, u8_wf hw⟩
theorem cell_u8 (fuel : Nat) (cs : List Value) (y : DataW H × List MemPlace) (h : DataW.trod enc Tryz.prog W 0 sp held fuel 5 cs = some y) : ∃ f : Int, cs = [Value.int .u8 f] ∧ (0 ≤ f ∧ f ≤ 255) := trod_u8 h
theorem bytes_cells {fuel : Nat} {cs : List Value} {y : DataW H × List MemPlace} (h : DataW.trod enc Tryz.prog W 0 sp held fuel 27 cs = some y) :
    ∃ (a : Option Addr) (c : Nat) (x : List Int), cs = [.slice a x.length c] ∧ x.length ≤ 9223372036854775807 ∧ Sl W [] a 1 (x.map fun n => [Value.int .u8 n]) ∧ ∀ z ∈ x, 0 ≤ z ∧ z ≤ 255 := by
  obtain ⟨a, c, l, e, hsl, _, hm, hr⟩ := open_rows (row := fun x : Int => [Value.int .u8 x]) (ok := fun f => 0 ≤ f ∧ f ≤ 255) underlying27 cells5 (by omega) (fun _ => rfl) cell_u8 h
  exact ⟨a, c, l, e, hm, hsl, hr⟩
theorem open_bytes {v : Value} {d : DataW H} {ps : List MemPlace} {r : Reach} {b0 : Nat} (hval : Value.okWide Tryz.prog W r b0 27 v) (h : DataW.Trod enc Tryz.prog W 0 sp held 27 v d ps) :
    ∃ (a : Option Addr) (c : Nat) (x : List Int), v = .slice a x.length c ∧ x.length ≤ 9223372036854775807 ∧ Sl W [] a 1 (x.map fun n => [Value.int .u8 n]) ∧ ∀ z ∈ x, 0 ≤ z ∧ z ≤ 255 := by
  obtain ⟨a0, len, cap, rfl⟩ := okWide_slice underlying27 hval
  obtain ⟨fuel, hf⟩ := h
  obtain ⟨a, c, x, e, h1, h2, h3⟩ := bytes_cells hf
  have e2 : ([Value.slice a0 len cap] : List Value) = [.slice a x.length c] := e
  exact ⟨a, c, x, (List.cons.inj e2).1, h1, h2, h3⟩
theorem open_truth {v : Value} {d : DataW H} {ps : List MemPlace} {r : Reach} {b0 : Nat} (hval : Value.okWide Tryz.prog W r b0 29 v) (h : DataW.Trod enc Tryz.prog W 0 sp held 29 v d ps) :
    ∃ (n : Int) (a : Option Addr) (c : Nat) (x : List Int), v = .agg #[.int .u8 n, .slice a x.length c] ∧ (0 ≤ n ∧ n ≤ 255) ∧ x.length ≤ 9223372036854775807 ∧ Sl W [] a 1 (x.map fun n => [Value.int .u8 n]) ∧ ∀ z ∈ x, 0 ≤ z ∧ z ≤ 255 := by
  obtain ⟨xs, rfl, hsz⟩ := okWide_struct underlying29 hval
  rw [cells29] at hsz
  obtain ⟨fuel, hf⟩ := h
  have hf2 : DataW.trod enc Tryz.prog W 0 sp held fuel 29 xs.toList = some (d, ps) := hf
  obtain ⟨_, _, h0⟩ := zC2 underlying29 hf2 0 5 0 1 rfl rfl rfl cells5
  obtain ⟨_, _, h1⟩ := zC2 underlying29 hf2 1 27 1 1 rfl rfl rfl cells27
  obtain ⟨xl, rfl⟩ : ∃ l : List Value, xs = l.toArray := ⟨xs.toList, by simp⟩
  have hl2 : xl.length = 2 := by simpa using hsz
  match xl, hl2 with
  | [c0, c1], _ =>
    obtain ⟨n, e0, hr⟩ := trod_u8 h0
    obtain ⟨a, c, x, e1, h2, h3, h4⟩ := bytes_cells h1
    simp at e0 e1
    exact ⟨n, a, c, x, by rw [e0, e1], hr, h2, h3, h4⟩

end Go.Proofs.YtnjlejikgkelgaaGreat
/- The walking engine, part 9: regions that draw their order, where two operations can come: both ways are walked. No conditions. -/
namespace Go.Rt
open Go.RowKit
variable {r : Option Nat} {P : Program} {ops : Array Oper} {K K' : Act → World → Prop} {n : Nat} {ρ : Nat → Value} {ds : List Deferred} {w w0 : World} {L : List (Nat × Obj)}
def drawE (ops : Array Oper) (late : List Nat) (e : Array Bool → Bool) : List (Nat × Nat) → Array Bool → Bool
  | [], l => e l
  | (i, t) :: rest, l =>
    (match t with
     | 0 => (Region.ready .any ops l).contains i && Region.free .any ops l i && !late.contains i
     | 1 => (Region.ready .any ops l).contains i && Region.free .any ops l i && !late.contains i &&
        (let c := closeB ops i ops.size l; ((Region.ready .any ops c).all fun j => Nat.beq j i) && !badB late c && !c.getD i false && (List.range ops.size).all fun j => !l.getD j false || c.getD j false)
     | 2 => Region.ready .any ops l == [i] && !late.contains i
     | _ => Region.ready .any ops l == [i] && late.contains i) && drawE ops late e rest (l.setIfInBounds i true)
theorem zD0 {C : World → Prop} {late : List Nat} {e : Array Bool → Bool} {m : Nat} (hns : Region.noSelect ops = true) (hnd : noDefer ops = true)
    (hend : ∀ (l : Array Bool) (a : Act) (w : World), l.size = ops.size → e l = true → (badB late l = false → C w) → K' a w → wAH r P ops K (fun l w => badB late l = false → C w) m l a w) : ∀ (ord : List (Nat × Nat)) (l : Array Bool) (a : Act) (w : World), l.size = ops.size → drawE ops late e ord l = true →
    (badB late l = false → C w) → DW r P ops K' C ord a w → wAH r P ops K (fun l w => badB late l = false → C w) (ord.length + m) l a w
  | [], l, a, w, hsz, hB, hC, h => by
    rw [show ([] : List (Nat × Nat)).length + m = m by simp]
    exact hend l a w hsz hB hC h
  | (i, t) :: rest, l, a, w, hsz, hB, hC, h => by
    simp only [drawE, Bool.and_eq_true] at hB
    obtain ⟨hB1, hB2⟩ := hB
    have hsz' : (l.setIfInBounds i true).size = ops.size := by simpa using hsz
    have ih := zD0 (C := C) (late := late) (e := e) (m := m) hns hnd hend rest (l.setIfInBounds i true)
    rw [show ((i, t) :: rest).length + m = (rest.length + m) + 1 by simp; omega]
    match t, hB1, h with
    | 0, hB1, h =>
      simp only [Bool.and_eq_true, Bool.not_eq_true'] at hB1
      obtain ⟨o, v, ho, hy, hd⟩ := h
      refine zHk (C := fun _ => True) ho (Region.noSelect_spec hns) hnd (rest.length + m) l a w (Region.free_spec ho hB1.1.2) ?_ (by simpa using hB1.1.1) hy trivial hC ⟨?_, ih _ w hsz' hB2 ?_ hd⟩
      · exact fun l' w' _ hS => ⟨trivial, fun hb => hS (zH7 hB1.2 hb)⟩
      · exact fun hb => hC (zJo hB1.2 hb)
      · exact fun hb => hC (zJo hB1.2 hb)
    | 1, hB1, h =>
      simp only [Bool.and_eq_true, Bool.not_eq_true'] at hB1
      obtain ⟨⟨⟨h1, h2⟩, h3⟩, ⟨⟨⟨h4, h5⟩, h6⟩, h7⟩⟩ := hB1
      obtain ⟨hCw, o, v, ho, hy, hd⟩ := h
      refine zHk (C := C) ho (Region.noSelect_spec hns) hnd (rest.length + m) l a w (Region.free_spec ho h2) ?_ (by simpa using h1) hy hCw hC ⟨fun _ => hCw, ih _ w hsz' hB2 (fun _ => hCw) hd⟩
      intro l' w' hre hS
      have hsub := reach_sub (c := closeB ops i ops.size l) hre (fun j hj => ?_) (fun j hj => ?_) (by rw [zHb, hsz])
      · have hb : badB late l' = false := by
          unfold badB at h5 ⊢
          rw [List.any_eq_false] at *
          intro s hs hs'
          exact h5 s hs (hsub s hs')
        have := hS (zH7 h3 hb)
        exact ⟨this, fun _ => this⟩
      · rw [List.all_eq_true] at h7
        have hlt : j < ops.size := by
          rw [← hsz]
          rcases Nat.lt_or_ge j l.size with h' | h'
          · exact h'
          · simp [Array.getElem?_eq_none h'] at hj
        have := h7 j (List.mem_range.2 hlt)
        simp only [hj, Bool.not_true, Bool.false_or] at this
        exact this
      · rw [List.all_eq_true] at h4
        exact Nat.eq_of_beq_eq_true (h4 j hj)
    | 2, hB1, h =>
      simp only [Bool.and_eq_true, Bool.not_eq_true', beq_iff_eq] at hB1
      obtain ⟨o, ho, hw⟩ := h
      refine ⟨fun h0 => (by rw [hB1.1] at h0; cases h0), fun j hj => ?_⟩
      rw [hB1.1] at hj
      obtain rfl : j = i := by simpa using hj
      refine wpOpIn_mono (fun a' w' h' => ⟨fun _ => h'.1, ih a' w' hsz' hB2 (fun _ => h'.1) h'.2⟩) (zEm (K := K) ho hw)
    | t + 3, hB1, h =>
      simp only [Bool.and_eq_true, beq_iff_eq] at hB1
      obtain ⟨o, ho, hw⟩ := h
      refine ⟨fun h0 => (by rw [hB1.1] at h0; cases h0), fun j hj => ?_⟩
      rw [hB1.1] at hj
      obtain rfl : j = i := by simpa using hj
      have hbad : badB late (l.setIfInBounds j true) = true := by
        unfold badB
        rw [List.any_eq_true]
        refine ⟨j, List.contains_iff_mem.1 hB1.2, ?_⟩
        have hlt : j < l.size := by rw [hsz]; exact (Array.getElem?_eq_some_iff.1 ho).1
        simp [hlt]
      refine wpOpIn_mono (fun a' w' h' => ⟨fun hb => (by rw [hbad] at hb; cases hb), ih a' w' hsz' hB2 (fun hb => (by rw [hbad] at hb; cases hb)) h'⟩) (zEm (K := K) ho hw)
inductive OT where
  | done (pre : List (Nat × Nat))
  | two (pre : List (Nat × Nat)) (i j : Nat) (a b : OT)
def OT.len : OT → Nat
  | .done pre => pre.length
  | .two pre _ _ a _ => pre.length + (a.len + 1)
def drawT (ops : Array Oper) (late : List Nat) : OT → Array Bool → Bool
  | .done pre, l => drawE ops late (fun l => (Region.ready .any ops l).isEmpty) pre l
  | .two pre i j a b, l => drawE ops late (fun l => Region.ready .any ops l == [i, j] && !late.contains i && !late.contains j && Nat.beq a.len b.len && drawT ops late a (l.setIfInBounds i true) && drawT ops late b (l.setIfInBounds j true)) pre l
def DT (r : Option Nat) (P : Program) (ops : Array Oper) (K : Act → World → Prop) (C : World → Prop) : OT → Act → World → Prop
  | .done pre => DW r P ops K C pre
  | .two pre i j x y => DW r P ops (fun a w => (∃ o, ops[i]? = some o ∧ WL r P ops (Qn fun a' w' => C w' ∧ DT r P ops K C x a' w') [o] a w) ∧ (∃ o, ops[j]? = some o ∧ WL r P ops (Qn fun a' w' => C w' ∧ DT r P ops K C y a' w') [o] a w)) C pre
theorem wAH_of_DT {C : World → Prop} {late : List Nat} (hns : Region.noSelect ops = true) (hnd : noDefer ops = true) : ∀ (T : OT) (l : Array Bool) (a : Act) (w : World), l.size = ops.size → drawT ops late T l = true →
    (badB late l = false → C w) → DT r P ops K C T a w → wAH r P ops K (fun l w => badB late l = false → C w) T.len l a w
  | .done pre, l, a, w, hsz, hB, hC, h => by
    refine zD0 (m := 0) (e := fun l => (Region.ready .any ops l).isEmpty) hns hnd ?_ pre l a w hsz hB hC h
    intro l' a' w' _ he _ hk
    exact ⟨by simpa using he, hk⟩
  | .two pre i j x y, l, a, w, hsz, hB, hC, h => by
    refine zD0 (m := x.len + 1) hns hnd ?_ pre l a w hsz hB hC h
    intro l' a' w' hsz' he hC' hk
    simp only [Bool.and_eq_true, Bool.not_eq_true', beq_iff_eq] at he
    obtain ⟨⟨⟨⟨⟨h1, h2⟩, h3⟩, h4⟩, h5⟩, h6⟩ := he
    obtain ⟨⟨o1, ho1, hw1⟩, ⟨o2, ho2, hw2⟩⟩ := hk
    have hlen : y.len = x.len := (Nat.eq_of_beq_eq_true h4).symm
    refine ⟨fun h0 => (by rw [h1] at h0; cases h0), fun q hq => ?_⟩
    rw [h1] at hq
    rcases List.mem_cons.1 hq with rfl | hq
    · refine wpOpIn_mono (fun a'' w'' h' => ⟨fun _ => h'.1, wAH_of_DT hns hnd x _ a'' w'' (by simpa using hsz') h5 (fun _ => h'.1) h'.2⟩) (zEm (K := K) ho1 hw1)
    · rw [List.mem_singleton] at hq
      subst hq
      refine wpOpIn_mono (fun a'' w'' h' => ⟨fun _ => h'.1, by rw [← hlen]; exact wAH_of_DT hns hnd y _ a'' w'' (by simpa using hsz') h6 (fun _ => h'.1) h'.2⟩) (zEm (K := K) ho2 hw2)
def drawTOK (ops : Array Oper) (late : List Nat) (T : OT) : Bool := Region.noSelect ops && noDefer ops && Nat.beq T.len ops.size && drawT ops late T (Array.replicate ops.size false)
theorem w_drawT {id : Nat} {l : List Oper} {Q : Exit → Act → World → Prop} {C : World → Prop} (late : List Nat) (T : OT) (hm : P.follows .mixedOrders = true) (hB : drawTOK l.toArray late T = true) (hC : C w)
    (hdrew : ∀ w, C w → C { w with drawn := w.drawn + 1 }) (h : ∀ w', C w' → DT r P l.toArray (fun a w => Q .normal a w) C T (A n ρ ds) w') : WC r P (.region id l.toArray true) Q (A n ρ ds) w := by
  unfold drawTOK at hB
  simp only [Bool.and_eq_true] at hB
  obtain ⟨⟨⟨h1, h2⟩, h3⟩, h4⟩ := hB
  have hst' := hdrew _ hC
  have hsz : T.len = l.toArray.size := Nat.eq_of_beq_eq_true h3
  have := wAH_of_DT h1 h2 T (Array.replicate l.toArray.size false) (A n ρ ds) _ (by simp) h4 (fun _ => hst') (h _ hst')
  have hany := zEv _ _ _ _ this
  rw [hsz] at hany
  refine wpIn_mono (wpIn_region_any hm hany) ?_
  intro e a w hq
  cases e <;> first | exact hq | exact hq.elim
theorem dt_done {C : World → Prop} {pre : List (Nat × Nat)} {a : Act} (h : DW r P ops K C pre a w) : DT r P ops K C (.done pre) a w := h
theorem dt_two {C : World → Prop} {pre : List (Nat × Nat)} {i j : Nat} {x y : OT} {a : Act} (h : DW r P ops (fun a w => (∃ o, ops[i]? = some o ∧ WL r P ops (Qn fun a' w' => C w' ∧ DT r P ops K C x a' w') [o] a w) ∧ (∃ o, ops[j]? = some o ∧ WL r P ops (Qn fun a' w' => C w' ∧ DT r P ops K C y a' w') [o] a w)) C pre a w) : DT r P ops K C (.two pre i j x y) a w := h
theorem d_two {C : World → Prop} {i j : Nat} {x y : OT} {a : Act} {o1 o2 : Oper} (h1 : ops[i]? = some o1) (h2 : ops[j]? = some o2) (hx : WL r P ops (Qn fun a' w' => C w' ∧ DT r P ops K C x a' w') [o1] a w) (hy : WL r P ops (Qn fun a' w' => C w' ∧ DT r P ops K C y a' w') [o2] a w) :
    DW r P ops (fun a w => (∃ o, ops[i]? = some o ∧ WL r P ops (Qn fun a' w' => C w' ∧ DT r P ops K C x a' w') [o] a w) ∧ (∃ o, ops[j]? = some o ∧ WL r P ops (Qn fun a' w' => C w' ∧ DT r P ops K C y a' w') [o] a w)) C [] a w := zB0 ⟨⟨o1, h1, hx⟩, ⟨o2, h2, hy⟩⟩
end Go.Rt
/- The walking engine, part 21: regions that draw their order, where up to four operations can come: all ways are walked; a state that is reached in several ways is proved once. No conditions. -/
namespace Go.Rt
open Go.RowKit
variable {r : Option Nat} {P : Program} {ops : Array Oper} {K K' : Act → World → Prop} {n : Nat} {ρ : Nat → Value} {ds : List Deferred} {w w0 : World} {L : List (Nat × Obj)}
inductive OF where
  | done (pre : List (Nat × Nat))
  | one (pre : List (Nat × Nat)) (i : Nat) (a : OF)
  | two (pre : List (Nat × Nat)) (i j : Nat) (a b : OF)
  | three (pre : List (Nat × Nat)) (i j k : Nat) (a b c : OF)
  | four (pre : List (Nat × Nat)) (i j k m : Nat) (a b c d : OF)
def OF.len : OF → Nat
  | .done pre => pre.length
  | .one pre _ a => pre.length + (a.len + 1)
  | .two pre _ _ a _ => pre.length + (a.len + 1)
  | .three pre _ _ _ a _ _ => pre.length + (a.len + 1)
  | .four pre _ _ _ _ a _ _ _ => pre.length + (a.len + 1)
def drawF (ops : Array Oper) (late : List Nat) : OF → Array Bool → Bool
  | .done pre, l => drawE ops late (fun l => (Region.ready .any ops l).isEmpty) pre l
  | .one pre i a, l => drawE ops late (fun l => Region.ready .any ops l == [i] && !late.contains i && drawF ops late a (l.setIfInBounds i true)) pre l
  | .two pre i j a b, l => drawE ops late (fun l => Region.ready .any ops l == [i, j] && !late.contains i && !late.contains j && Nat.beq a.len b.len && drawF ops late a (l.setIfInBounds i true) && drawF ops late b (l.setIfInBounds j true)) pre l
  | .three pre i j k a b c, l => drawE ops late (fun l => Region.ready .any ops l == [i, j, k] && !late.contains i && !late.contains j && !late.contains k && Nat.beq a.len b.len && Nat.beq a.len c.len && drawF ops late a (l.setIfInBounds i true) && drawF ops late b (l.setIfInBounds j true) && drawF ops late c (l.setIfInBounds k true)) pre l
  | .four pre i j k m a b c d, l => drawE ops late (fun l => Region.ready .any ops l == [i, j, k, m] && !late.contains i && !late.contains j && !late.contains k && !late.contains m && Nat.beq a.len b.len && Nat.beq a.len c.len && Nat.beq a.len d.len && drawF ops late a (l.setIfInBounds i true) && drawF ops late b (l.setIfInBounds j true) && drawF ops late c (l.setIfInBounds k true) && drawF ops late d (l.setIfInBounds m true)) pre l
def DO (r : Option Nat) (P : Program) (ops : Array Oper) (X : Act → World → Prop) (C : World → Prop) (i : Nat) (a : Act) (w : World) : Prop := ∃ o, ops[i]? = some o ∧ WL r P ops (Qn fun a' w' => C w' ∧ X a' w') [o] a w
def DF (r : Option Nat) (P : Program) (ops : Array Oper) (K : Act → World → Prop) (C : World → Prop) : OF → Act → World → Prop
  | .done pre => DW r P ops K C pre
  | .one pre i x => DW r P ops (DO r P ops (DF r P ops K C x) C i) C pre
  | .two pre i j x y => DW r P ops (fun a w => DO r P ops (DF r P ops K C x) C i a w ∧ DO r P ops (DF r P ops K C y) C j a w) C pre
  | .three pre i j k x y z => DW r P ops (fun a w => DO r P ops (DF r P ops K C x) C i a w ∧ DO r P ops (DF r P ops K C y) C j a w ∧ DO r P ops (DF r P ops K C z) C k a w) C pre
  | .four pre i j k m x y z u => DW r P ops (fun a w => DO r P ops (DF r P ops K C x) C i a w ∧ DO r P ops (DF r P ops K C y) C j a w ∧ DO r P ops (DF r P ops K C z) C k a w ∧ DO r P ops (DF r P ops K C u) C m a w) C pre
theorem zDn {C : World → Prop} {late : List Nat} (hns : Region.noSelect ops = true) (hnd : noDefer ops = true) : ∀ (T : OF) (l : Array Bool) (a : Act) (w : World), l.size = ops.size → drawF ops late T l = true →
    (badB late l = false → C w) → DF r P ops K C T a w → wAH r P ops K (fun l w => badB late l = false → C w) T.len l a w
  | .done pre, l, a, w, hsz, hB, hC, h => by
    refine zD0 (m := 0) (e := fun l => (Region.ready .any ops l).isEmpty) hns hnd ?_ pre l a w hsz hB hC h
    intro l' a' w' _ he _ hk
    exact ⟨by simpa using he, hk⟩
  | .one pre i x, l, a, w, hsz, hB, hC, h => by
    refine zD0 (m := x.len + 1) hns hnd ?_ pre l a w hsz hB hC h
    intro l' a' w' hsz' he hC' hk
    simp only [Bool.and_eq_true, Bool.not_eq_true', beq_iff_eq] at he
    obtain ⟨⟨h1, h2⟩, h5⟩ := he
    obtain ⟨o1, ho1, hw1⟩ := hk
    refine ⟨fun h0 => (by rw [h1] at h0; cases h0), fun q hq => ?_⟩
    rw [h1, List.mem_singleton] at hq
    subst hq
    exact wpOpIn_mono (fun a'' w'' h' => ⟨fun _ => h'.1, zDn hns hnd x _ a'' w'' (by simpa using hsz') h5 (fun _ => h'.1) h'.2⟩) (zEm (K := K) ho1 hw1)
  | .two pre i j x y, l, a, w, hsz, hB, hC, h => by
    refine zD0 (m := x.len + 1) hns hnd ?_ pre l a w hsz hB hC h
    intro l' a' w' hsz' he hC' hk
    simp only [Bool.and_eq_true, Bool.not_eq_true', beq_iff_eq] at he
    obtain ⟨⟨⟨⟨⟨h1, h2⟩, h3⟩, h4⟩, h5⟩, h6⟩ := he
    obtain ⟨⟨o1, ho1, hw1⟩, ⟨o2, ho2, hw2⟩⟩ := hk
    have hy : y.len = x.len := (Nat.eq_of_beq_eq_true h4).symm
    refine ⟨fun h0 => (by rw [h1] at h0; cases h0), fun q hq => ?_⟩
    rw [h1] at hq
    simp only [List.mem_cons, List.not_mem_nil, or_false] at hq
    rcases hq with rfl | rfl
    · exact wpOpIn_mono (fun a'' w'' h' => ⟨fun _ => h'.1, zDn hns hnd x _ a'' w'' (by simpa using hsz') h5 (fun _ => h'.1) h'.2⟩) (zEm (K := K) ho1 hw1)
    · exact wpOpIn_mono (fun a'' w'' h' => ⟨fun _ => h'.1, by rw [← hy]; exact zDn hns hnd y _ a'' w'' (by simpa using hsz') h6 (fun _ => h'.1) h'.2⟩) (zEm (K := K) ho2 hw2)
  | .three pre i j k x y z, l, a, w, hsz, hB, hC, h => by
    refine zD0 (m := x.len + 1) hns hnd ?_ pre l a w hsz hB hC h
    intro l' a' w' hsz' he hC' hk
    simp only [Bool.and_eq_true, Bool.not_eq_true', beq_iff_eq] at he
    obtain ⟨⟨⟨⟨⟨⟨⟨⟨h1, _⟩, _⟩, _⟩, h4⟩, h4'⟩, h5⟩, h6⟩, h7⟩ := he
    obtain ⟨⟨o1, ho1, hw1⟩, ⟨o2, ho2, hw2⟩, ⟨o3, ho3, hw3⟩⟩ := hk
    have hy : y.len = x.len := (Nat.eq_of_beq_eq_true h4).symm
    have hz : z.len = x.len := (Nat.eq_of_beq_eq_true h4').symm
    refine ⟨fun h0 => (by rw [h1] at h0; cases h0), fun q hq => ?_⟩
    rw [h1] at hq
    simp only [List.mem_cons, List.not_mem_nil, or_false] at hq
    rcases hq with rfl | rfl | rfl
    · exact wpOpIn_mono (fun a'' w'' h' => ⟨fun _ => h'.1, zDn hns hnd x _ a'' w'' (by simpa using hsz') h5 (fun _ => h'.1) h'.2⟩) (zEm (K := K) ho1 hw1)
    · exact wpOpIn_mono (fun a'' w'' h' => ⟨fun _ => h'.1, by rw [← hy]; exact zDn hns hnd y _ a'' w'' (by simpa using hsz') h6 (fun _ => h'.1) h'.2⟩) (zEm (K := K) ho2 hw2)
    · exact wpOpIn_mono (fun a'' w'' h' => ⟨fun _ => h'.1, by rw [← hz]; exact zDn hns hnd z _ a'' w'' (by simpa using hsz') h7 (fun _ => h'.1) h'.2⟩) (zEm (K := K) ho3 hw3)
  | .four pre i j k m x y z u, l, a, w, hsz, hB, hC, h => by
    refine zD0 (m := x.len + 1) hns hnd ?_ pre l a w hsz hB hC h
    intro l' a' w' hsz' he hC' hk
    simp only [Bool.and_eq_true, Bool.not_eq_true', beq_iff_eq] at he
    obtain ⟨⟨⟨⟨⟨⟨⟨⟨⟨⟨⟨h1, _⟩, _⟩, _⟩, _⟩, h4⟩, h4'⟩, h4''⟩, h5⟩, h6⟩, h7⟩, h8⟩ := he
    obtain ⟨⟨o1, ho1, hw1⟩, ⟨o2, ho2, hw2⟩, ⟨o3, ho3, hw3⟩, ⟨o4, ho4, hw4⟩⟩ := hk
    have hy : y.len = x.len := (Nat.eq_of_beq_eq_true h4).symm
    have hz : z.len = x.len := (Nat.eq_of_beq_eq_true h4').symm
    have hu : u.len = x.len := (Nat.eq_of_beq_eq_true h4'').symm
    refine ⟨fun h0 => (by rw [h1] at h0; cases h0), fun q hq => ?_⟩
    rw [h1] at hq
    simp only [List.mem_cons, List.not_mem_nil, or_false] at hq
    rcases hq with rfl | rfl | rfl | rfl
    · exact wpOpIn_mono (fun a'' w'' h' => ⟨fun _ => h'.1, zDn hns hnd x _ a'' w'' (by simpa using hsz') h5 (fun _ => h'.1) h'.2⟩) (zEm (K := K) ho1 hw1)
    · exact wpOpIn_mono (fun a'' w'' h' => ⟨fun _ => h'.1, by rw [← hy]; exact zDn hns hnd y _ a'' w'' (by simpa using hsz') h6 (fun _ => h'.1) h'.2⟩) (zEm (K := K) ho2 hw2)
    · exact wpOpIn_mono (fun a'' w'' h' => ⟨fun _ => h'.1, by rw [← hz]; exact zDn hns hnd z _ a'' w'' (by simpa using hsz') h7 (fun _ => h'.1) h'.2⟩) (zEm (K := K) ho3 hw3)
    · exact wpOpIn_mono (fun a'' w'' h' => ⟨fun _ => h'.1, by rw [← hu]; exact zDn hns hnd u _ a'' w'' (by simpa using hsz') h8 (fun _ => h'.1) h'.2⟩) (zEm (K := K) ho4 hw4)
def drawFOK (ops : Array Oper) (late : List Nat) (T : OF) : Bool := Region.noSelect ops && noDefer ops && Nat.beq T.len ops.size && drawF ops late T (Array.replicate ops.size false)
theorem w_drawF {id : Nat} {l : List Oper} {Q : Exit → Act → World → Prop} {C : World → Prop} (late : List Nat) (T : OF) (hm : P.follows .mixedOrders = true) (hB : drawFOK l.toArray late T = true) (hC : C w)
    (hdrew : ∀ w, C w → C { w with drawn := w.drawn + 1 }) (h : ∀ w', C w' → DF r P l.toArray (fun a w => Q .normal a w) C T (A n ρ ds) w') : WC r P (.region id l.toArray true) Q (A n ρ ds) w := by
  unfold drawFOK at hB
  simp only [Bool.and_eq_true] at hB
  obtain ⟨⟨⟨h1, h2⟩, h3⟩, h4⟩ := hB
  have hst' := hdrew _ hC
  have hsz : T.len = l.toArray.size := Nat.eq_of_beq_eq_true h3
  have := zDn h1 h2 T (Array.replicate l.toArray.size false) (A n ρ ds) _ (by simp) h4 (fun _ => hst') (h _ hst')
  have hany := zEv _ _ _ _ this
  rw [hsz] at hany
  refine wpIn_mono (wpIn_region_any hm hany) ?_
  intro e a w hq
  cases e <;> first | exact hq | exact hq.elim
theorem w_drawG {id : Nat} {l : List Oper} {Q : Exit → Act → World → Prop} {C : World → Prop} (late : List Nat) (T : OF) (hm : P.follows .mixedOrders = true) (hB : drawFOK l.toArray late T = true) (hC : C w)
    (hdrew : ∀ w, C w → C { w with drawn := w.drawn + 1 }) (h : ∀ X : OF → Act → World → Prop, X = DF r P l.toArray (fun a w => Q .normal a w) C → ∀ w', C w' → X T (A n ρ ds) w') : WC r P (.region id l.toArray true) Q (A n ρ ds) w := w_drawF late T hm hB hC hdrew (h _ rfl)
theorem md_elim {D S : List Nat} {M : List Value → World → Prop} {X : Act → World → Prop} (h : ∀ vs μ w, M vs w → X (A n (updL (mix D ρ μ) S vs) ds) w) : ∀ a w, Md n ds D S ρ M a w → X a w := by
  rintro a w ⟨ρ', rfl, hag, hM⟩
  have := h (S.map ρ') ρ' w hM
  rw [zHr S hag] at this
  exact this
theorem zB9 {X : OF → Act → World → Prop} {T : OF} (D S : List Nat) (M : List Value → World → Prop) (Ts : OF) (h : ∀ vs μ w, M vs w → X Ts (A n (updL (mix D ρ μ) S vs) ds) w) (k : (∀ a w, Md n ds D S ρ M a w → X Ts a w) → X T (A n ρ ds) w) : X T (A n ρ ds) w := k (md_elim h)
theorem zCn {X : Act → World → Prop} {C : World → Prop} {i : Nat} {a : Act} {o : Oper} (h : ops[i]? = some o) (hw : WL r P ops (Qn fun a' w' => C w' ∧ X a' w') [o] a w) : DO r P ops X C i a w := ⟨o, h, hw⟩
end Go.Rt
set_option maxRecDepth 20000
namespace Go.Proofs
open Go.Proofs.Tryz
open Go.Rt
attribute [local irreducible] WL WC Con Yd At Ats Sl Agree DW

theorem zCg : Tryz.prog.follows .mixedOrders = true := by kernel_rfl
theorem c15 {w0 w : World} {F : List (Nat × Obj)} (n lo hi : Int) (hs : St w0 w F) : Con Tryz.prog 15 [.int .i64 n, .int .i64 lo, .int .i64 hi] w fun v w' => v = .bool (decide (lo ≤ n ∧ n ≤ hi)) ∧ St w0 w' F := by
  refine zAu (n := 15) func15 rfl rfl (zNl rfl) ?_
  refine zAf (fun K2 g4 => (zAa (zBg rfl rfl (zAe (zAc (g4 _ _ (zAf (fun K4 g0 => (zAa (zBa rfl rfl (zBa rfl rfl (w_p (zF5 rfl rfl rfl rfl) rfl ?_))))))))))))
  refine w_p (zAi (v := .bool _) rfl rfl) rfl (zBk (fun h5 => ?_) (fun h5 => ?_))
  ·
   try simp only [zS] at h5
   refine w_y rfl rfl rfl (zA1 rfl rfl) rfl ?_
   refine w_y rfl rfl rfl (zA1 rfl rfl) rfl ?_
   refine w_y rfl rfl rfl (y_leq rfl rfl rfl rfl) rfl ?_
   refine w_p (zAx (v := .bool _) rfl rfl rfl rfl) rfl (w_p (zAm (v := .bool _) rfl rfl) rfl (zAe (zAc (g0 _ _ (zA2 (zA9 (l := [.tmp 6]) (vs := [_]) rfl ⟨⟨rfl, (rfl : _ = Value.bool _)⟩, trivial⟩ ?_))))))
   exact ⟨congrArg Value.bool (by rw [Bool.eq_iff_iff]; simp [*] <;> omega), hs⟩
  try simp only [zS] at h5
  refine zAg rfl rfl rfl ?_
  refine zAg rfl rfl rfl ?_
  refine zAg rfl rfl rfl ?_
  refine w_p (zBd (v := _) rfl rfl rfl rfl) rfl (w_p (zAm (v := .bool _) rfl rfl) rfl (zAe (zAc (g0 _ _ (zA2 (zA9 (l := [.tmp 6]) (vs := [_]) rfl ⟨⟨rfl, (rfl : _ = Value.bool _)⟩, trivial⟩ ?_))))))
  exact ⟨congrArg Value.bool (by rw [Bool.eq_iff_iff]; simp [*] <;> omega), hs⟩

theorem c14 {w0 w : World} {F : List (Nat × Obj)} (a b lo hi : Int) (hs : St w0 w F) : Con Tryz.prog 14 [.agg #[.int .i64 a, .int .i64 b], .int .i64 lo, .int .i64 hi] w fun v w' => v = .int .i64 (ends a b lo hi) ∧ St w0 w' F := by
  refine zAu (n := 26) func14 rfl rfl (zNl rfl) ?_
  refine zAf (fun K2 ga => (zAa (zCa (v := .agg #[.int _ _, .int _ _]) (cs := [_,_]) zAb rfl rfl rfl hs (fun b3 w4 g8 => ?_))))
  refine zBg rfl rfl (zAe (zAc (ga _ _ (zAf (fun K7 gb => (zAf (fun K9 g9 => (zAa (w_p (zAd (o := 0) (i := 0) underlying23 rfl sizeOf3 rfl rfl rfl) rfl ?_)))))))))
  refine w_p (zAj isAgg3 g8 rfl rfl (zAh (i := 0) (vs := [_]) rfl rfl)) rfl (zBa rfl rfl (zBa rfl rfl (zAs zAb call15 rfl rfl rfl rfl (c15 _ _ _ g8) ?_)))
  rintro _ gi ⟨rfl, g4⟩
  refine w_p (zDi rfl rfl) rfl (w_p (zAi (v := .bool _) rfl rfl) rfl (zBk (fun g5 => ?_) (fun g5 => ?_)))
  ·
   try simp only [zS] at g5
   refine zAg rfl rfl rfl ?_
   refine zAg rfl rfl rfl ?_
   refine zAg rfl rfl rfl ?_
   refine zAg rfl rfl rfl ?_
   refine zAg rfl rfl rfl ?_
   refine zAg rfl rfl rfl ?_
   refine w_p (zAx (v := _) rfl rfl rfl rfl) rfl (zAe (zAc (g9 _ _ (zCh rfl rfl ?_))))
   refine zAf (fun gj gc => (zAa (zBg rfl rfl (zAe (zAc (gc _ _ (zA2 (zAk (zA9 (l := [.tmp 6]) (vs := [_]) rfl ⟨⟨rfl, (rfl : _ = Value.int _ _)⟩, trivial⟩ ?_)))))))))
   exact ⟨congrArg (Value.int .i64) (by simp only [ends, out, Bool.or_eq_true, decide_eq_true_eq]; (repeat' split) <;> omega), g4.tail⟩
  try simp only [zS] at g5
  refine w_y rfl rfl rfl (zAd (o := 1) (i := 1) underlying23 rfl sizeOf3 rfl rfl rfl) rfl ?_
  refine w_y rfl rfl rfl (zAj isAgg3 g4 rfl rfl (zAh (i := 0) (vs := [_]) rfl rfl)) rfl ?_
  refine w_y rfl rfl rfl (zA1 rfl rfl) rfl ?_
  refine w_y rfl rfl rfl (zA1 rfl rfl) rfl ?_
  refine zAs (zAp rfl rfl rfl) call15 rfl rfl rfl rfl (c15 _ _ _ g4) ?_
  rintro _ gk ⟨rfl, g0⟩
  refine w_y rfl rfl rfl (zDi rfl rfl) rfl ?_
  refine w_p (zBd (v := .bool _) rfl rfl rfl rfl) rfl (zAe (zAc (g9 _ _ (zAy rfl rfl (fun g6 => ?_) (fun g6 => ?_)))))
  ·
   try simp only [zS] at g6
   refine zAf (fun gl gd => (zAa (zBg rfl rfl (zAe (zAc (gd _ _ (zA2 (zAk (zA9 (l := [.tmp 6]) (vs := [_]) rfl ⟨⟨rfl, (rfl : _ = Value.int _ _)⟩, trivial⟩ ?_)))))))))
   exact ⟨congrArg (Value.int .i64) (by simp only [ends, out, Bool.or_eq_true, decide_eq_true_eq]; (repeat' split) <;> omega), g0.tail⟩
  try simp only [zS] at g6
  refine zAv (zAc (gb _ _ (zAf (fun gm ge => (zAf (fun gn gf => (zAa (w_p (zAd (o := 1) (i := 1) underlying23 rfl sizeOf3 rfl rfl rfl) rfl (w_p (zAj isAgg3 g0 rfl rfl (zAh (i := 0) (vs := [_]) rfl rfl)) rfl ?_)))))))))
  refine w_p (zAd (o := 0) (i := 0) underlying23 rfl sizeOf3 rfl rfl rfl) rfl (w_p (zAj isAgg3 g0 rfl rfl (zAh (i := 0) (vs := [_]) rfl rfl)) rfl (w_p (zCl rfl rfl rfl rfl) rfl (zAe (zAc (gf _ _ (zAy rfl rfl (fun g7 => ?_) (fun g7 => ?_)))))))
  ·
   try simp only [zS] at g7
   refine zAf (fun go gg => (zAa (zBg rfl rfl (zAe (zAc (gg _ _ (zA2 (zAk (zA9 (l := [.tmp 6]) (vs := [_]) rfl ⟨⟨rfl, (rfl : _ = Value.int _ _)⟩, trivial⟩ ?_)))))))))
   exact ⟨congrArg (Value.int .i64) (by simp only [ends, out, Bool.or_eq_true, decide_eq_true_eq]; (repeat' split) <;> omega), g0.tail⟩
  try simp only [zS] at g7
  refine zAv (zAc (ge _ _ (zAf (fun gp gh => (zAa (zBg rfl rfl (zAe (zAc (gh _ _ (zA2 (zA9 (l := [.tmp 6]) (vs := [_]) rfl ⟨⟨rfl, (rfl : _ = Value.int _ _)⟩, trivial⟩ ?_)))))))))))
  exact ⟨congrArg (Value.int .i64) (by simp only [ends, out, Bool.or_eq_true, decide_eq_true_eq]; (repeat' split) <;> omega), g0.tail⟩

theorem less_at (a b : List Int) (i : Nat) (h : a.take i = b.take i) (ha : i ≤ a.length) (hb : i ≤ b.length) : less a b = less (a.drop i) (b.drop i) := by
  induction i generalizing a b with
  | zero => rfl
  | succ i ih =>
    cases a with
    | nil => simp at ha
    | cons x a =>
      cases b with
      | nil => simp at hb
      | cons y b =>
        simp only [List.take_succ_cons, List.cons.injEq] at h
        obtain ⟨rfl, h⟩ := h
        simp only [less, if_true, List.drop_succ_cons]
        exact ih a b h (by simpa using ha) (by simpa using hb)
theorem zF9 {a b : List Int} {i : Nat} (h : a.take i = b.take i) (ha : i < a.length) (hb : i < b.length) (e : a[i] = b[i]) : a.take (i + 1) = b.take (i + 1) := by
  rw [List.take_succ_eq_append_getElem ha, List.take_succ_eq_append_getElem hb, h, e]
theorem zC6 {a b : List Int} {i : Nat} (h : a.take i = b.take i) (ha : i ≤ a.length) (hb : i = b.length) : less a b = false := by
  rw [less_at a b i h ha (by omega), hb, List.drop_length]
  cases a.drop b.length <;> rfl
theorem zCq {a b : List Int} {i : Nat} (h : a.take i = b.take i) (ha : i = a.length) (hb : i < b.length) : less a b = true := by
  rw [less_at a b i h (by omega) (by omega), ha, List.drop_length]
  have : b.drop a.length = b[a.length] :: b.drop (a.length + 1) := List.drop_eq_getElem_cons (by omega)
  rw [this]; rfl
theorem zDo {a b : List Int} {i : Nat} (h : a.take i = b.take i) (ha : i < a.length) (hb : i < b.length) (hne : a[i] ≠ b[i]) : less a b = decide (a[i] < b[i]) := by
  rw [less_at a b i h (by omega) (by omega), List.drop_eq_getElem_cons ha, List.drop_eq_getElem_cons hb]
  simp only [less]
  rw [if_neg hne]
theorem zDk {w0 : World} {F : List (Nat × Obj)} {a : Option Addr} {l : List Int} {i : Nat} (h : Sl w0 F a 1 (l.map fun x => [Value.int .i64 x])) (hi : i < l.length) :
    ∃ b off, a = some ⟨b, off, none⟩ ∧ Ats w0 F b (off + i * 1) [.int .i64 l[i]] := by
  obtain ⟨b, off, ha, _, hat⟩ := h.at (i := i) (row := [.int .i64 l[i]]) (by simp [hi])
  exact ⟨b, off, ha, hat⟩
theorem c60 {w0 w : World} {F : List (Nat × Obj)} (aa ab : Option Addr) (a b : List Int) (ca cb : Nat) (hla : a.length ≤ 9223372036854775807) (ha : Sl w0 F aa 1 (a.map fun x => [Value.int .i64 x])) (hb : Sl w0 F ab 1 (b.map fun x => [Value.int .i64 x])) (hs : St w0 w F) :
  Con Tryz.prog 60 [.slice aa a.length ca, .slice ab b.length cb] w fun v w' => v = .bool (less a b) ∧ St w0 w' F := by
  refine zAu (n := 48) func60 rfl rfl (zNl rfl) ?_
  refine zAf (fun K2 gl => (zAa (zBg rfl rfl (zAe (zAc (gl _ _ (zAf (fun K4 gm => (zAa (zBg rfl rfl (zAe (zAc (gm _ _ (zAf (fun K6 g7 => (zAz ?_))))))))))))))))
  refine zB3 [5,6,7,8,9,10,11,12,13,14,15,16,17,18,19,20,21,22,23,24,25,26,27,28] [5] (fun k vs w => ∃ i : Nat, vs = [.int .i64 i] ∧ i ≤ a.length ∧ i ≤ b.length ∧ k = a.length - i ∧ a.take i = b.take i ∧ St w0 w F) (a.length) ?_ ?_
  ·
   exact ⟨0, rfl, by omega, by omega, by omega, rfl, hs⟩
  intro k vs μ w9 hI K8 gn
  obtain ⟨i, rfl, hia, hib, rfl, hpre, hs⟩ := hI
  refine zAf (fun gz go => (zAf (fun gA g8 => (zCs [] [(0,0),(1,0),(2,0),(3,0),(4,0),(5,0),(6,0),(7,0),(8,0),(9,0),(10,0),(11,0),(12,0),(13,0),(14,1),(15,0),(16,0),(17,0),(18,1),(19,0),(20,0)] zCg (by kernel_rfl) hs (fun gB g0 => ?_)))))
  refine d_w rfl (fun _ => zA1 rfl rfl) rfl ?_
  refine d_w rfl (fun _ => zAi (v := .slice _ _ _) rfl rfl) rfl ?_
  refine d_w rfl (fun _ => zBm underlying34 rfl rfl) rfl ?_
  refine d_w rfl (fun _ => zCl rfl rfl rfl rfl) rfl ?_
  refine d_w rfl (fun _ => zAi (v := .bool _) rfl rfl) rfl ?_
  refine zDu (fun g9 => ?_) (fun g9 => ?_)
  ·
   try simp only [zS] at g9
   refine zBx rfl (zAp rfl rfl rfl) rfl (fun _ => (zA1 rfl rfl)) ?_
   refine zBx rfl (zAp rfl rfl rfl) rfl (fun _ => (zAi (v := .slice _ _ _) rfl rfl)) ?_
   refine zBx rfl (zAp rfl rfl rfl) rfl (fun _ => (zBm underlying34 rfl rfl)) ?_
   refine zBx rfl (zAp rfl rfl rfl) rfl (fun _ => (zCl rfl rfl rfl rfl)) ?_
   refine d_w rfl (fun _ => zAx (v := .bool _) rfl rfl rfl rfl) rfl ?_
   refine d_w rfl (fun _ => zAi (v := .bool _) rfl rfl) rfl ?_
   refine zDu (fun ga => ?_) (fun ga => ?_)
   ·
    try simp only [zS] at ga
    refine zBx rfl (zAp rfl rfl rfl) rfl (fun _ => (zAi (v := .slice _ _ _) rfl rfl)) ?_
    refine zBx rfl (zAp rfl rfl rfl) rfl (fun _ => (zA1 rfl rfl)) ?_
    have hia2 : i < a.length := by omega
    have hib2 : i < b.length := by omega
    obtain ⟨ba, oa, rfl, hxa⟩ := zDk ha hia2
    obtain ⟨bb, ob, rfl, hxb⟩ := zDk hb hib2
    refine zBx rfl (zAp rfl rfl rfl) rfl (fun _ => (zBc underlying34 sizeOf3 rfl rfl rfl rfl (i := _) rfl (by omega))) ?_
    refine zBh rfl (zAp rfl rfl rfl) rfl g0 (fun _ hq => (zAj isAgg3 hq rfl rfl hxa)) ?_
    refine zBx rfl (zAp rfl rfl rfl) rfl (fun _ => (zAi (v := .slice _ _ _) rfl rfl)) ?_
    refine zBx rfl (zAp rfl rfl rfl) rfl (fun _ => (zA1 rfl rfl)) ?_
    refine zBx rfl (zAp rfl rfl rfl) rfl (fun _ => (zBc underlying34 sizeOf3 rfl rfl rfl rfl (i := _) rfl (by omega))) ?_
    refine zBh rfl (zAp rfl rfl rfl) rfl g0 (fun _ hq => (zAj isAgg3 hq rfl rfl hxb)) ?_
    refine zBx rfl (zAp rfl rfl rfl) rfl (fun _ => (zBw rfl rfl rfl rfl)) ?_
    refine d_w rfl (fun _ => zAx (v := .bool _) rfl rfl rfl rfl) rfl ?_
    refine zB0 ?_
    refine zAc (g8 _ _ (zAy rfl rfl (fun gb => ?_) (fun gb => ?_)))
    ·
     try simp only [zS] at gb
     refine zAv (zAc (go _ _ (zAz ?_)))
     refine zAa (zBa rfl rfl (w_p (zBj rfl rfl rfl rfl (by omega) (by omega)) rfl (zBl rfl rfl (zAe (zAl (zAc (gn _ _ (nxI (a.length - (i + 1)) (by omega) ?_))))))))
     exact ⟨i + 1, rfl, by omega, by omega, rfl, zF9 hpre (by omega) (by omega) (by assumption), g0⟩
    try simp only [zS] at gb
    refine zBq (zAo (zAo (zA8 (zAc (g7 _ _ (zAf (fun gC gp => (zAf (fun gD gq => (zAa (zBa rfl rfl (w_p (zAi (v := .slice _ _ _) rfl rfl) rfl ?_))))))))))))
    refine w_p (zBm underlying34 rfl rfl) rfl (w_p (zBw rfl rfl rfl rfl) rfl (zAe (zAc (gq _ _ (zAy rfl rfl (fun gc => ?_) (fun gc => ?_))))))
    ·
     try simp only [zS] at gc
     refine zAf (fun gE gr => (zAa (zBg rfl rfl (zAe (zAc (gr _ _ (zA2 (zAk (zA9 (l := [.tmp 4]) (vs := [_]) rfl ⟨⟨rfl, (rfl : _ = Value.bool _)⟩, trivial⟩ ?_)))))))))
     exact ⟨(by first | (rw [zC6 hpre hia (by omega)]; rfl) | (rw [zCq hpre (by omega) (by omega)]; rfl) | (rw [zDo hpre (by omega) (by omega) (by first | assumption | omega)]; rfl)), g0⟩
    try simp only [zS] at gc
    refine zAv (zAc (gp _ _ (zAf (fun gF gi => (zCs [] [(0,0),(1,0),(2,0),(3,0),(4,0),(5,0),(6,0),(7,0),(8,1),(9,0),(10,0),(11,0),(12,1),(13,0),(14,0),(15,0)] zCg (by kernel_rfl) g0 (fun gG g4 => ?_))))))
    refine d_w rfl (fun _ => zA1 rfl rfl) rfl ?_
    refine d_w rfl (fun _ => zAi (v := .slice _ _ _) rfl rfl) rfl ?_
    refine d_w rfl (fun _ => zBm underlying34 rfl rfl) rfl ?_
    refine d_w rfl (fun _ => zBw rfl rfl rfl rfl) rfl ?_
    refine d_w rfl (fun _ => zAi (v := .bool _) rfl rfl) rfl ?_
    refine zDu (fun gd => ?_) (fun gd => ?_)
    ·
     try simp only [zS] at gd
     refine zB8 rfl rfl rfl rfl ?_
     refine zB8 rfl rfl rfl rfl ?_
     refine zB8 rfl rfl rfl rfl ?_
     refine zDv rfl rfl rfl rfl g4 ?_
     refine zB8 rfl rfl rfl rfl ?_
     refine zB8 rfl rfl rfl rfl ?_
     refine zB8 rfl rfl rfl rfl ?_
     refine zDv rfl rfl rfl rfl g4 ?_
     refine zB8 rfl rfl rfl rfl ?_
     refine d_w rfl (fun _ => zAx (v := _) rfl rfl rfl rfl) rfl ?_
     refine d_w rfl (fun _ => zAm (v := .bool _) rfl rfl) rfl ?_
     refine zB0 ?_
     refine zAc (gi _ _ (zA2 (zA9 (l := [.tmp 4]) (vs := [_]) rfl ⟨⟨rfl, (rfl : _ = Value.bool _)⟩, trivial⟩ ?_)))
     exact ⟨(by first | (rw [zC6 hpre hia (by omega)]; rfl) | (rw [zCq hpre (by omega) (by omega)]; rfl) | (rw [zDo hpre (by omega) (by omega) (by first | assumption | omega)]; rfl)), g4⟩
    try simp only [zS] at gd
    refine zBx rfl (zAp rfl rfl rfl) rfl (fun _ => (zAi (v := .slice _ _ _) rfl rfl)) ?_
    refine zBx rfl (zAp rfl rfl rfl) rfl (fun _ => (zA1 rfl rfl)) ?_
    refine zBx rfl (zAp rfl rfl rfl) rfl (fun _ => (zBc underlying34 sizeOf3 rfl rfl rfl rfl (i := _) rfl (by omega))) ?_
    refine zBh rfl (zAp rfl rfl rfl) rfl g4 (fun _ hq => (zAj isAgg3 hq rfl rfl hxa)) ?_
    refine zBx rfl (zAp rfl rfl rfl) rfl (fun _ => (zAi (v := .slice _ _ _) rfl rfl)) ?_
    refine zBx rfl (zAp rfl rfl rfl) rfl (fun _ => (zA1 rfl rfl)) ?_
    refine zBx rfl (zAp rfl rfl rfl) rfl (fun _ => (zBc underlying34 sizeOf3 rfl rfl rfl rfl (i := _) rfl (by omega))) ?_
    refine zBh rfl (zAp rfl rfl rfl) rfl g4 (fun _ hq => (zAj isAgg3 hq rfl rfl hxb)) ?_
    refine zBx rfl (zAp rfl rfl rfl) rfl (fun _ => (zCl rfl rfl rfl rfl)) ?_
    refine d_w rfl (fun _ => zBd (v := .bool _) rfl rfl rfl rfl) rfl ?_
    refine d_w rfl (fun _ => zAm (v := .bool _) rfl rfl) rfl ?_
    refine zB0 ?_
    refine zAc (gi _ _ (zA2 (zA9 (l := [.tmp 4]) (vs := [_]) rfl ⟨⟨rfl, (rfl : _ = Value.bool _)⟩, trivial⟩ ?_)))
    exact ⟨(by first | (rw [zC6 hpre hia (by omega)]; rfl) | (rw [zCq hpre (by omega) (by omega)]; rfl) | (rw [zDo hpre (by omega) (by omega) (by first | assumption | omega)]; rfl)), g4⟩
   try simp only [zS] at ga
   refine zB8 rfl rfl rfl rfl ?_
   refine zB8 rfl rfl rfl rfl ?_
   refine zB8 rfl rfl rfl rfl ?_
   refine zDv rfl rfl rfl rfl g0 ?_
   refine zB8 rfl rfl rfl rfl ?_
   refine zB8 rfl rfl rfl rfl ?_
   refine zB8 rfl rfl rfl rfl ?_
   refine zDv rfl rfl rfl rfl g0 ?_
   refine zB8 rfl rfl rfl rfl ?_
   refine d_w rfl (fun _ => zBd (v := _) rfl rfl rfl rfl) rfl ?_
   refine zB0 ?_
   refine zAc (g8 _ _ (zCc rfl rfl ?_))
   refine zBq (zAo (zAo (zA8 (zAc (g7 _ _ (zAf (fun gH gt => (zAf (fun gI gu => (zAa (zBa rfl rfl (w_p (zAi (v := .slice _ _ _) rfl rfl) rfl ?_))))))))))))
   refine w_p (zBm underlying34 rfl rfl) rfl (w_p (zBw rfl rfl rfl rfl) rfl (zAe (zAc (gu _ _ (zAy rfl rfl (fun ge => ?_) (fun ge => ?_))))))
   ·
    try simp only [zS] at ge
    refine zAf (fun gJ gv => (zAa (zBg rfl rfl (zAe (zAc (gv _ _ (zA2 (zAk (zA9 (l := [.tmp 4]) (vs := [_]) rfl ⟨⟨rfl, (rfl : _ = Value.bool _)⟩, trivial⟩ ?_)))))))))
    exact ⟨(by first | (rw [zC6 hpre hia (by omega)]; rfl) | (rw [zCq hpre (by omega) (by omega)]; rfl) | (rw [zDo hpre (by omega) (by omega) (by first | assumption | omega)]; rfl)), g0⟩
   try simp only [zS] at ge
   refine zAv (zAc (gt _ _ (zAf (fun gK gj => (zCs [] [(0,0),(1,0),(2,0),(3,0),(4,0),(5,0),(6,0),(7,0),(8,1),(9,0),(10,0),(11,0),(12,1),(13,0),(14,0),(15,0)] zCg (by kernel_rfl) g0 (fun gL g5 => ?_))))))
   refine d_w rfl (fun _ => zA1 rfl rfl) rfl ?_
   refine d_w rfl (fun _ => zAi (v := .slice _ _ _) rfl rfl) rfl ?_
   refine d_w rfl (fun _ => zBm underlying34 rfl rfl) rfl ?_
   refine d_w rfl (fun _ => zBw rfl rfl rfl rfl) rfl ?_
   refine d_w rfl (fun _ => zAi (v := .bool _) rfl rfl) rfl ?_
   refine zDu (fun gf => ?_) (fun gf => ?_)
   ·
    try simp only [zS] at gf
    refine zB8 rfl rfl rfl rfl ?_
    refine zB8 rfl rfl rfl rfl ?_
    refine zB8 rfl rfl rfl rfl ?_
    refine zDv rfl rfl rfl rfl g5 ?_
    refine zB8 rfl rfl rfl rfl ?_
    refine zB8 rfl rfl rfl rfl ?_
    refine zB8 rfl rfl rfl rfl ?_
    refine zDv rfl rfl rfl rfl g5 ?_
    refine zB8 rfl rfl rfl rfl ?_
    refine d_w rfl (fun _ => zAx (v := _) rfl rfl rfl rfl) rfl ?_
    refine d_w rfl (fun _ => zAm (v := .bool _) rfl rfl) rfl ?_
    refine zB0 ?_
    refine zAc (gj _ _ (zA2 (zA9 (l := [.tmp 4]) (vs := [_]) rfl ⟨⟨rfl, (rfl : _ = Value.bool _)⟩, trivial⟩ ?_)))
    exact ⟨(by first | (rw [zC6 hpre hia (by omega)]; rfl) | (rw [zCq hpre (by omega) (by omega)]; rfl) | (rw [zDo hpre (by omega) (by omega) (by first | assumption | omega)]; rfl)), g5⟩
   try simp only [zS] at gf
   refine zBx rfl (zAp rfl rfl rfl) rfl (fun _ => (zAi (v := .slice _ _ _) rfl rfl)) ?_
   refine zBx rfl (zAp rfl rfl rfl) rfl (fun _ => (zA1 rfl rfl)) ?_
   have hia2 : i < a.length := by omega
   have hib2 : i < b.length := by omega
   obtain ⟨ba, oa, rfl, hxa⟩ := zDk ha hia2
   obtain ⟨bb, ob, rfl, hxb⟩ := zDk hb hib2
   refine zBx rfl (zAp rfl rfl rfl) rfl (fun _ => (zBc underlying34 sizeOf3 rfl rfl rfl rfl (i := _) rfl (by omega))) ?_
   refine zBh rfl (zAp rfl rfl rfl) rfl g5 (fun _ hq => (zAj isAgg3 hq rfl rfl hxa)) ?_
   refine zBx rfl (zAp rfl rfl rfl) rfl (fun _ => (zAi (v := .slice _ _ _) rfl rfl)) ?_
   refine zBx rfl (zAp rfl rfl rfl) rfl (fun _ => (zA1 rfl rfl)) ?_
   refine zBx rfl (zAp rfl rfl rfl) rfl (fun _ => (zBc underlying34 sizeOf3 rfl rfl rfl rfl (i := _) rfl (by omega))) ?_
   refine zBh rfl (zAp rfl rfl rfl) rfl g5 (fun _ hq => (zAj isAgg3 hq rfl rfl hxb)) ?_
   refine zBx rfl (zAp rfl rfl rfl) rfl (fun _ => (zCl rfl rfl rfl rfl)) ?_
   refine d_w rfl (fun _ => zBd (v := .bool _) rfl rfl rfl rfl) rfl ?_
   refine d_w rfl (fun _ => zAm (v := .bool _) rfl rfl) rfl ?_
   refine zB0 ?_
   refine zAc (gj _ _ (zA2 (zA9 (l := [.tmp 4]) (vs := [_]) rfl ⟨⟨rfl, (rfl : _ = Value.bool _)⟩, trivial⟩ ?_)))
   exact ⟨(by first | (rw [zC6 hpre hia (by omega)]; rfl) | (rw [zCq hpre (by omega) (by omega)]; rfl) | (rw [zDo hpre (by omega) (by omega) (by first | assumption | omega)]; rfl)), g5⟩
  try simp only [zS] at g9
  refine zB8 rfl rfl rfl rfl ?_
  refine zB8 rfl rfl rfl rfl ?_
  refine zB8 rfl rfl rfl rfl ?_
  refine zB8 rfl rfl rfl rfl ?_
  refine d_w rfl (fun _ => zBd (v := _) rfl rfl rfl rfl) rfl ?_
  refine d_w rfl (fun _ => zAi (v := .bool _) rfl rfl) rfl ?_
  refine zB8 rfl rfl rfl rfl ?_
  refine zB8 rfl rfl rfl rfl ?_
  refine zB8 rfl rfl rfl rfl ?_
  refine zDv rfl rfl rfl rfl g0 ?_
  refine zB8 rfl rfl rfl rfl ?_
  refine zB8 rfl rfl rfl rfl ?_
  refine zB8 rfl rfl rfl rfl ?_
  refine zDv rfl rfl rfl rfl g0 ?_
  refine zB8 rfl rfl rfl rfl ?_
  refine d_w rfl (fun _ => zBd (v := _) rfl rfl rfl rfl) rfl ?_
  refine zB0 ?_
  refine zAc (g8 _ _ (zCc rfl rfl ?_))
  refine zBq (zAo (zAo (zA8 (zAc (g7 _ _ (zAf (fun gM gw => (zAf (fun gN gx => (zAa (zBa rfl rfl (w_p (zAi (v := .slice _ _ _) rfl rfl) rfl ?_))))))))))))
  refine w_p (zBm underlying34 rfl rfl) rfl (w_p (zBw rfl rfl rfl rfl) rfl (zAe (zAc (gx _ _ (zAy rfl rfl (fun gg => ?_) (fun gg => ?_))))))
  ·
   try simp only [zS] at gg
   refine zAf (fun gO gy => (zAa (zBg rfl rfl (zAe (zAc (gy _ _ (zA2 (zAk (zA9 (l := [.tmp 4]) (vs := [_]) rfl ⟨⟨rfl, (rfl : _ = Value.bool _)⟩, trivial⟩ ?_)))))))))
   exact ⟨(by first | (rw [zC6 hpre hia (by omega)]; rfl) | (rw [zCq hpre (by omega) (by omega)]; rfl) | (rw [zDo hpre (by omega) (by omega) (by first | assumption | omega)]; rfl)), g0⟩
  try simp only [zS] at gg
  refine zAv (zAc (gw _ _ (zAf (fun gP gk => (zCs [] [(0,0),(1,0),(2,0),(3,0),(4,0),(5,0),(6,0),(7,0),(8,1),(9,0),(10,0),(11,0),(12,1),(13,0),(14,0),(15,0)] zCg (by kernel_rfl) g0 (fun gQ g6 => ?_))))))
  refine d_w rfl (fun _ => zA1 rfl rfl) rfl ?_
  refine d_w rfl (fun _ => zAi (v := .slice _ _ _) rfl rfl) rfl ?_
  refine d_w rfl (fun _ => zBm underlying34 rfl rfl) rfl ?_
  refine d_w rfl (fun _ => zBw rfl rfl rfl rfl) rfl ?_
  refine d_w rfl (fun _ => zAi (v := .bool _) rfl rfl) rfl ?_
  refine zDu (fun gh => ?_) (fun gh => ?_)
  ·
   try simp only [zS] at gh
   refine zB8 rfl rfl rfl rfl ?_
   refine zB8 rfl rfl rfl rfl ?_
   refine zB8 rfl rfl rfl rfl ?_
   refine zDv rfl rfl rfl rfl g6 ?_
   refine zB8 rfl rfl rfl rfl ?_
   refine zB8 rfl rfl rfl rfl ?_
   refine zB8 rfl rfl rfl rfl ?_
   refine zDv rfl rfl rfl rfl g6 ?_
   refine zB8 rfl rfl rfl rfl ?_
   refine d_w rfl (fun _ => zAx (v := _) rfl rfl rfl rfl) rfl ?_
   refine d_w rfl (fun _ => zAm (v := .bool _) rfl rfl) rfl ?_
   refine zB0 ?_
   refine zAc (gk _ _ (zA2 (zA9 (l := [.tmp 4]) (vs := [_]) rfl ⟨⟨rfl, (rfl : _ = Value.bool _)⟩, trivial⟩ ?_)))
   exact ⟨(by first | (rw [zC6 hpre hia (by omega)]; rfl) | (rw [zCq hpre (by omega) (by omega)]; rfl) | (rw [zDo hpre (by omega) (by omega) (by first | assumption | omega)]; rfl)), g6⟩
  try simp only [zS] at gh
  refine zBx rfl (zAp rfl rfl rfl) rfl (fun _ => (zAi (v := .slice _ _ _) rfl rfl)) ?_
  refine zBx rfl (zAp rfl rfl rfl) rfl (fun _ => (zA1 rfl rfl)) ?_
  have hia2 : i < a.length := by omega
  have hib2 : i < b.length := by omega
  obtain ⟨ba, oa, rfl, hxa⟩ := zDk ha hia2
  obtain ⟨bb, ob, rfl, hxb⟩ := zDk hb hib2
  refine zBx rfl (zAp rfl rfl rfl) rfl (fun _ => (zBc underlying34 sizeOf3 rfl rfl rfl rfl (i := _) rfl (by omega))) ?_
  refine zBh rfl (zAp rfl rfl rfl) rfl g6 (fun _ hq => (zAj isAgg3 hq rfl rfl hxa)) ?_
  refine zBx rfl (zAp rfl rfl rfl) rfl (fun _ => (zAi (v := .slice _ _ _) rfl rfl)) ?_
  refine zBx rfl (zAp rfl rfl rfl) rfl (fun _ => (zA1 rfl rfl)) ?_
  refine zBx rfl (zAp rfl rfl rfl) rfl (fun _ => (zBc underlying34 sizeOf3 rfl rfl rfl rfl (i := _) rfl (by omega))) ?_
  refine zBh rfl (zAp rfl rfl rfl) rfl g6 (fun _ hq => (zAj isAgg3 hq rfl rfl hxb)) ?_
  refine zBx rfl (zAp rfl rfl rfl) rfl (fun _ => (zCl rfl rfl rfl rfl)) ?_
  refine d_w rfl (fun _ => zBd (v := .bool _) rfl rfl rfl rfl) rfl ?_
  refine d_w rfl (fun _ => zAm (v := .bool _) rfl rfl) rfl ?_
  refine zB0 ?_
  refine zAc (gk _ _ (zA2 (zA9 (l := [.tmp 4]) (vs := [_]) rfl ⟨⟨rfl, (rfl : _ = Value.bool _)⟩, trivial⟩ ?_)))
  exact ⟨(by first | (rw [zC6 hpre hia (by omega)]; rfl) | (rw [zCq hpre (by omega) (by omega)]; rfl) | (rw [zDo hpre (by omega) (by omega) (by first | assumption | omega)]; rfl)), g6⟩

theorem c27 {w0 w : World} {F : List (Nat × Obj)} (aa ab : Option Addr) (a b : List Int) (ca cb : Nat) (hla : a.length ≤ 9223372036854775807) (ha : Sl w0 F aa 1 (a.map fun x => [Value.int .i64 x])) (hb : Sl w0 F ab 1 (b.map fun x => [Value.int .i64 x])) (hs : St w0 w F) :
  Con Tryz.prog 27 [.slice aa a.length ca, .slice ab b.length cb] w fun v w' => v = .bool (decide (a = b)) ∧ St w0 w' F := by
  refine zAu (n := 22) func27 rfl rfl (zNl rfl) ?_
  refine zAf (fun K2 g5 => (zAa (zBg rfl rfl (zAe (zAc (g5 _ _ (zAf (fun K4 g0 => (zAa (w_p (zAi (v := .slice _ _ _) rfl rfl) rfl ?_))))))))))
  refine w_p (zBm underlying34 rfl rfl) rfl (w_p (zAi (v := .slice _ _ _) rfl rfl) rfl (w_p (zBm underlying34 rfl rfl) rfl (w_p (zBw rfl rfl rfl rfl) rfl (w_p (zAi (v := .bool _) rfl rfl) rfl (zBk (fun h5 => ?_) (fun h5 => ?_))))))
  ·
   try simp only [zS] at h5
   refine w_y rfl rfl rfl (zAi (v := .slice _ _ _) rfl rfl) rfl ?_
   refine w_y rfl rfl rfl (zAi (v := .slice _ _ _) rfl rfl) rfl ?_
   refine zAs (zAp rfl rfl rfl) call60 rfl rfl rfl rfl (c60 _ _ _ _ _ _ (by omega) (by assumption) (by assumption) hs) ?_
   rintro _ w7 ⟨rfl, g4⟩
   refine w_y rfl rfl rfl (zDi rfl rfl) rfl ?_
   refine w_p (zAx (v := .bool _) rfl rfl rfl rfl) rfl (w_p (zAi (v := .bool _) rfl rfl) rfl (zBk (fun h9 => ?_) (fun h9 => ?_)))
   ·
    try simp only [zS] at h9
    refine w_y rfl rfl rfl (zAi (v := .slice _ _ _) rfl rfl) rfl ?_
    refine w_y rfl rfl rfl (zAi (v := .slice _ _ _) rfl rfl) rfl ?_
    refine zAs (zAp rfl rfl rfl) call60 rfl rfl rfl rfl (c60 _ _ _ _ _ _ (by omega) (by assumption) (by assumption) g4) ?_
    rintro _ g7 ⟨rfl, g6⟩
    refine w_y rfl rfl rfl (zDi rfl rfl) rfl ?_
    refine w_p (zAx (v := .bool _) rfl rfl rfl rfl) rfl (w_p (zAm (v := .bool _) rfl rfl) rfl (zAe (zAc (g0 _ _ (zA2 (zA9 (l := [.tmp 4]) (vs := [_]) rfl ⟨⟨rfl, (rfl : _ = Value.bool _)⟩, trivial⟩ ?_))))))
    exact ⟨congrArg Value.bool (by rw [← ints_eq, Bool.eq_iff_iff]; simp [*] <;> omega), g6⟩
   try simp only [zS] at h9
   refine zAg rfl rfl rfl ?_
   refine zAg rfl rfl rfl ?_
   refine zAg rfl rfl rfl ?_
   refine zAg rfl rfl rfl ?_
   refine w_p (zBd (v := _) rfl rfl rfl rfl) rfl (w_p (zAm (v := .bool _) rfl rfl) rfl (zAe (zAc (g0 _ _ (zA2 (zA9 (l := [.tmp 4]) (vs := [_]) rfl ⟨⟨rfl, (rfl : _ = Value.bool _)⟩, trivial⟩ ?_))))))
   exact ⟨congrArg Value.bool (by rw [← ints_eq, Bool.eq_iff_iff]; simp [*] <;> omega), g4⟩
  try simp only [zS] at h5
  refine zAg rfl rfl rfl ?_
  refine zAg rfl rfl rfl ?_
  refine zAg rfl rfl rfl ?_
  refine zAg rfl rfl rfl ?_
  refine w_p (zBd (v := _) rfl rfl rfl rfl) rfl (w_p (zAi (v := .bool _) rfl rfl) rfl (zAg rfl rfl rfl ?_))
  refine zAg rfl rfl rfl ?_
  refine zAg rfl rfl rfl ?_
  refine zAg rfl rfl rfl ?_
  refine w_p (zBd (v := _) rfl rfl rfl rfl) rfl (w_p (zAm (v := .bool _) rfl rfl) rfl (zAe (zAc (g0 _ _ (zA2 (zA9 (l := [.tmp 4]) (vs := [_]) rfl ⟨⟨rfl, (rfl : _ = Value.bool _)⟩, trivial⟩ ?_))))))
  exact ⟨congrArg Value.bool (by rw [← ints_eq, Bool.eq_iff_iff]; simp [*] <;> omega), hs⟩

theorem sl_strs {w0 : World} {F : List (Nat × Obj)} {a : Option Addr} {l : List ByteArray} {i : Nat} (h : Sl w0 F a 1 (l.map fun x => [Value.string x])) (hi : i < l.length) :
    ∃ b off, a = some ⟨b, off, none⟩ ∧ Ats w0 F b (off + i * 1) [.string l[i]] := by
  obtain ⟨b, off, ha, _, hat⟩ := h.at (i := i) (row := [.string l[i]]) (by simp [hi])
  exact ⟨b, off, ha, hat⟩
theorem notmem_take {l : List ByteArray} {s : ByteArray} {i : Nat} (h : has (l.take i) s = false) (hi : i < l.length) (hne : ¬ l[i] = s) : has (l.take (i + 1)) s = false := by
  unfold has at *
  rw [List.take_succ_eq_append_getElem hi, List.any_append, h]; simp [hne]
theorem c46 {w0 w : World} {F : List (Nat × Obj)} (aa : Option Addr) (l : List ByteArray) (s : ByteArray) (ca : Nat) (hla : l.length ≤ 9223372036854775807) (ha : Sl w0 F aa 1 (l.map fun x => [Value.string x])) (hs : St w0 w F) :
  Con Tryz.prog 46 [.slice aa l.length ca, .string s] w fun v w' => (∃ z, v = .int .i64 z ∧ (0 ≤ z ↔ has l s = true)) ∧ St w0 w' F := by
  refine zAu (n := 25) func46 rfl rfl (zNl rfl) ?_
  refine zAf (fun K2 g9 => (zAa (zBg rfl rfl (zAe (zAc (g9 _ _ (zAf (fun K4 ga => (zAa (zBg rfl rfl (zAe (zAc (ga _ _ (zAf (fun K6 g7 => (zAz ?_))))))))))))))))
  refine zB3 [5,6,7,8,9,10,11,12,13,14,15,16,17,18,19] [5] (fun k vs w => ∃ i : Nat, vs = [.int .i64 i] ∧ i ≤ l.length ∧ k = l.length - i ∧ has (l.take i) s = false ∧ St w0 w F) (l.length) ?_ ?_
  ·
   exact ⟨0, rfl, by omega, by omega, rfl, hs⟩
  intro k vs μ w9 hI K8 gb
  obtain ⟨i, rfl, hia, rfl, hpre, hs⟩ := hI
  refine zAf (fun gl gc => (zAf (fun gm g8 => (zAa (zBa rfl rfl (w_p (zAi (v := .slice _ _ _) rfl rfl) rfl (w_p (zBm underlying60 rfl rfl) rfl (w_p (zCl rfl rfl rfl rfl) rfl ?_))))))))
  refine w_p (zAi (v := .bool _) rfl rfl) rfl (zBk (fun g0 => ?_) (fun g0 => ?_))
  ·
   try simp only [zS] at g0
   refine w_y rfl rfl rfl (zAi (v := .slice _ _ _) rfl rfl) rfl ?_
   refine w_y rfl rfl rfl (zA1 rfl rfl) rfl ?_
   have hi2 : i < l.length := by omega
   obtain ⟨ba, oa, rfl, hxa⟩ := sl_strs ha hi2
   refine w_y rfl rfl rfl (zBc underlying60 sizeOf9 rfl rfl rfl rfl (i := _) rfl (by omega)) rfl ?_
   refine w_y rfl rfl rfl (zAj isAgg9 hs rfl rfl hxa) rfl ?_
   refine w_y rfl rfl rfl (zAi (v := .string _) rfl rfl) rfl ?_
   refine w_y rfl rfl rfl (y_strNe rfl rfl rfl rfl) rfl ?_
   refine w_p (zAx (v := .bool _) rfl rfl rfl rfl) rfl (zAe (zAc (g8 _ _ (zAy rfl rfl (fun g4 => ?_) (fun g4 => ?_)))))
   ·
    try simp only [zS] at g4
    refine zAv (zAc (gc _ _ (zAz ?_)))
    refine zAa (zBa rfl rfl (w_p (zBj rfl rfl rfl rfl (by omega) (by omega)) rfl (zBl rfl rfl (zAe (zAl (zAc (gb _ _ (nxI (l.length - (i + 1)) (by omega) ?_))))))))
    exact ⟨i + 1, rfl, by omega, rfl, notmem_take hpre (by omega) (by assumption), hs⟩
   try simp only [zS] at g4
   refine zBq (zAo (zAo (zA8 (zAc (g7 _ _ (zAf (fun gn gd => (zAf (fun go ge => (zAa (zBa rfl rfl (w_p (zAi (v := .slice _ _ _) rfl rfl) rfl ?_))))))))))))
   refine w_p (zBm underlying60 rfl rfl) rfl (w_p (zBw rfl rfl rfl rfl) rfl (zAe (zAc (ge _ _ (zAy rfl rfl (fun g5 => ?_) (fun g5 => ?_))))))
   ·
    try simp only [zS] at g5
    refine zAf (fun gp gf => (zAa (zBg rfl rfl (zAe (zAc (gf _ _ (zA2 (zAk (zA9 (l := [.tmp 4]) (vs := [_]) rfl ⟨⟨rfl, (rfl : _ = Value.int _ _)⟩, trivial⟩ ?_)))))))))
    first
      | exact ⟨⟨-1, rfl, by have hil : i = l.length := (by omega); subst hil; rw [List.take_length] at hpre; simp [hpre]⟩, hs⟩
      | exact ⟨⟨(i : Int), rfl, ⟨fun _ => (by have hi3 : i < l.length := (by omega); have he : l[i] = s := (by assumption); exact List.any_eq_true.2 ⟨_, List.getElem_mem hi3, by simp [he]⟩), fun _ => by omega⟩⟩, hs⟩
      | (exfalso; omega)
   try simp only [zS] at g5
   refine zAv (zAc (gd _ _ (zAf (fun gq gg => (zAa (zBa rfl rfl (zBl rfl rfl (zAe (zAc (gg _ _ (zA2 (zA9 (l := [.tmp 4]) (vs := [_]) rfl ⟨⟨rfl, (rfl : _ = Value.int _ _)⟩, trivial⟩ ?_))))))))))))
   first
     | exact ⟨⟨-1, rfl, by have hil : i = l.length := (by omega); subst hil; rw [List.take_length] at hpre; simp [hpre]⟩, hs⟩
     | exact ⟨⟨(i : Int), rfl, ⟨fun _ => (by have hi3 : i < l.length := (by omega); have he : l[i] = s := (by assumption); exact List.any_eq_true.2 ⟨_, List.getElem_mem hi3, by simp [he]⟩), fun _ => by omega⟩⟩, hs⟩
     | (exfalso; omega)
  try simp only [zS] at g0
  refine zAg rfl rfl rfl ?_
  refine zAg rfl rfl rfl ?_
  refine zAg rfl rfl rfl ?_
  refine zAg rfl rfl rfl ?_
  refine zAg rfl rfl rfl ?_
  refine zAg rfl rfl rfl ?_
  refine w_p (zBd (v := _) rfl rfl rfl rfl) rfl (zAe (zAc (g8 _ _ (zCc rfl rfl ?_))))
  refine zBq (zAo (zAo (zA8 (zAc (g7 _ _ (zAf (fun gr gh => (zAf (fun gt gi => (zAa (zBa rfl rfl (w_p (zAi (v := .slice _ _ _) rfl rfl) rfl ?_))))))))))))
  refine w_p (zBm underlying60 rfl rfl) rfl (w_p (zBw rfl rfl rfl rfl) rfl (zAe (zAc (gi _ _ (zAy rfl rfl (fun g6 => ?_) (fun g6 => ?_))))))
  ·
   try simp only [zS] at g6
   refine zAf (fun gu gj => (zAa (zBg rfl rfl (zAe (zAc (gj _ _ (zA2 (zAk (zA9 (l := [.tmp 4]) (vs := [_]) rfl ⟨⟨rfl, (rfl : _ = Value.int _ _)⟩, trivial⟩ ?_)))))))))
   first
     | exact ⟨⟨-1, rfl, by have hil : i = l.length := (by omega); subst hil; rw [List.take_length] at hpre; simp [hpre]⟩, hs⟩
     | exact ⟨⟨(i : Int), rfl, ⟨fun _ => (by have hi3 : i < l.length := (by omega); have he : l[i] = s := (by assumption); exact List.any_eq_true.2 ⟨_, List.getElem_mem hi3, by simp [he]⟩), fun _ => by omega⟩⟩, hs⟩
     | (exfalso; omega)
  try simp only [zS] at g6
  refine zAv (zAc (gh _ _ (zAf (fun gv gk => (zAa (zBa rfl rfl (zBl rfl rfl (zAe (zAc (gk _ _ (zA2 (zA9 (l := [.tmp 4]) (vs := [_]) rfl ⟨⟨rfl, (rfl : _ = Value.int _ _)⟩, trivial⟩ ?_))))))))))))
  first
    | exact ⟨⟨-1, rfl, by have hil : i = l.length := (by omega); subst hil; rw [List.take_length] at hpre; simp [hpre]⟩, hs⟩
    | exact ⟨⟨(i : Int), rfl, ⟨fun _ => (by have hi3 : i < l.length := (by omega); have he : l[i] = s := (by assumption); exact List.any_eq_true.2 ⟨_, List.getElem_mem hi3, by simp [he]⟩), fun _ => by omega⟩⟩, hs⟩
    | (exfalso; omega)

theorem nmBytes_snoc (l : List UInt8) (c : UInt8) : ∀ f, nmBytes f (l ++ [c]) = (nmBytes f l && nmByte (f && l.isEmpty) c) := by
  induction l with
  | nil => intro f; simp [nmBytes]
  | cons x l ih => intro f; simp only [List.cons_append, nmBytes, ih]; simp [Bool.and_assoc]
theorem zEx (s : ByteArray) (i : Nat) (h : i < s.size) : nmBytes true (s.data.toList.take (i + 1)) = (nmBytes true (s.data.toList.take i) && nmByte (decide (i = 0)) s[i]) := by
  rw [List.take_succ_eq_append_getElem (by simpa using h), nmBytes_snoc]
  have e : (true && (s.data.toList.take i).isEmpty) = decide (i = 0) := by
    rw [Bool.eq_iff_iff]
    cases i with
    | zero => simp
    | succ i =>
      have : s.data.toList ≠ [] := by intro e; simp at e; have h2 : s.size = 0 := by rw [ByteArray.size, e]; rfl
                                      omega
      simp [this]
  rw [e]; rfl
theorem bp (x y : Bool) (k : IntKind) (a b : Int) (h1 : x = y) (h2 : a = b) : [Value.bool x, Value.int k a] = [Value.bool y, Value.int k b] := by rw [h1, h2]
theorem zDq (s : ByteArray) (i : Nat) (h : i < s.size) (x : Bool)
    (hx : x = ((decide (1 ≤ s.size) && decide (s.size ≤ 16) && nmBytes true (s.data.toList.take i)) && nmByte (decide (i = 0)) s[i])) : x = (decide (1 ≤ s.size) && decide (s.size ≤ 16) && nmBytes true (s.data.toList.take (i + 1))) := by
  rw [hx, zEx s i h, Bool.and_assoc]
theorem c47 {w0 w : World} {F : List (Nat × Obj)} (s : ByteArray) (hls : s.size ≤ 9223372036854775807) (hs : St w0 w F) :
  Con Tryz.prog 47 [.string s] w fun v w' => v = .bool (nmOk s) ∧ St w0 w' F := by
  refine zAu (n := 42) func47 rfl rfl (zNl rfl) ?_
  refine zAf (fun K2 gj => (zAa (zBg rfl rfl (zAe (zAc (gj _ _ (zAf (fun K4 gk => (zAa (w_p (zAi (v := .string _) rfl rfl) rfl ?_))))))))))
  refine w_p (y_lenStr underlying9 rfl rfl) rfl (zAs zAb call15 rfl rfl rfl rfl (c15 _ _ _ hs) ?_)
  rintro _ w6 ⟨rfl, gl⟩
  refine w_p (zAm (v := .bool _) rfl rfl) rfl (zAe (zAc (gk _ _ (zAf (fun K9 gm => (zAf (fun gr gn => (zAa (zBg rfl rfl (zAe (zAc (gn _ _ (zAz ?_)))))))))))))
  refine zB3 [3,4,5,9,10,11,12,13,14,15,16,17,18,19,20,21,22,23,24,25,26,27,28,29,30,31,32,33,34,35,36,37,38,39,40] [3,4] (fun k vs w => ∃ i : Nat, vs = [.bool (decide (1 ≤ s.size) && decide (s.size ≤ 16) && nmBytes true (s.data.toList.take i)), .int .i64 i] ∧ i ≤ s.size ∧ k = s.size - i ∧ St w0 w F) (s.size) ?_ ?_
  ·
   exact ⟨0, bp _ _ _ _ _ (by rw [Bool.eq_iff_iff]; simp [out, nmBytes] <;> omega) rfl, by omega, by omega, gl⟩
  intro k vs μ gt hI gu g0
  obtain ⟨i, rfl, hia, rfl, hs⟩ := hI
  generalize hfine : (decide (1 ≤ s.size) && decide (s.size ≤ 16) && nmBytes true (s.data.toList.take i)) = fine
  refine zAf (fun gv go => (zAf (fun gw gp => (zAa (zBa rfl rfl (w_p (zAi (v := .string _) rfl rfl) rfl (w_p (y_lenStr underlying9 rfl rfl) rfl (w_p (zCl rfl rfl rfl rfl) rfl ?_))))))))
  refine zAe (zAc (gp _ _ (zAy rfl rfl (fun g5 => ?_) (fun g5 => ?_))))
  ·
   try simp only [zS] at g5
   refine zAv (zAc (go _ _ (zAf (fun gx g4 => (zAz ?_)))))
   refine zAf (fun gy g6 => ?_)
   have hi2 : i < s.size := by omega
   have hc0 : (0:Int) ≤ (s[i].toNat : Int) := by omega
   have hc1 : (s[i].toNat : Int) ≤ 255 := by have := s[i].toNat_lt; omega
   refine zAa (zBa rfl rfl (w_p (zFa rfl rfl rfl rfl) rfl (w_p (zAi (v := .bool _) rfl rfl) rfl (zBk (fun g7 => ?_) (fun g7 => ?_)))))
   ·
    try simp only [zS] at g7
    refine w_y rfl rfl rfl (zAi (v := .string _) rfl rfl) rfl ?_
    refine w_y rfl rfl rfl (zA1 rfl rfl) rfl ?_
    refine w_y rfl rfl rfl (zHh underlying9 rfl rfl rfl rfl (i := _) rfl (by omega)) rfl ?_
    refine w_y rfl rfl rfl (zBw rfl rfl rfl rfl) rfl ?_
    refine w_y rfl rfl rfl (zAi (v := .bool _) rfl rfl) rfl ?_
    refine zBk (fun g8 => ?_) (fun g8 => ?_)
    ·
     try simp only [zS] at g8
     refine zAg rfl rfl rfl ?_
     refine zAg rfl rfl rfl ?_
     refine zAg rfl rfl rfl ?_
     refine zAg rfl rfl rfl ?_
     refine zAg rfl rfl rfl ?_
     refine w_y rfl rfl rfl (zAx (v := _) rfl rfl rfl rfl) rfl ?_
     refine w_p (zAx (v := .bool _) rfl rfl rfl rfl) rfl (w_p (zAm (v := .bool _) rfl rfl) rfl (zAe (zAc (g6 _ _ (zAa (w_p (zAi (v := .bool _) rfl rfl) rfl ?_))))))
     refine w_p (zAi (v := .bool _) rfl rfl) rfl (zBk (fun g9 => ?_) (fun g9 => ?_))
     ·
      try simp only [zS] at g9
      refine w_y rfl rfl rfl (zAi (v := .string _) rfl rfl) rfl ?_
      refine w_y rfl rfl rfl (zA1 rfl rfl) rfl ?_
      refine w_y rfl rfl rfl (zHh underlying9 rfl rfl rfl rfl (i := _) rfl (by omega)) rfl ?_
      refine w_y rfl rfl rfl (zIa (by rw [underlying5]; rfl) underlying3 rfl rfl (by omega) (by omega)) rfl ?_
      refine zAs (zAp rfl rfl rfl) call15 rfl rfl rfl rfl (c15 _ _ _ hs) ?_
      rintro _ gz ⟨rfl, gf⟩
      refine w_y rfl rfl rfl (zAi (v := .bool _) rfl rfl) rfl ?_
      refine zBk (fun ga => ?_) (fun ga => ?_)
      ·
       try simp only [zS] at ga
       refine zAg rfl rfl rfl ?_
       refine w_y rfl rfl rfl (zAx (v := _) rfl rfl rfl rfl) rfl ?_
       refine w_p (zAx (v := .bool _) rfl rfl rfl rfl) rfl (w_p (zAm (v := .bool _) rfl rfl) rfl (zAe (zAl (zAc (g4 _ _ (zAa (zBa rfl rfl (w_p (zBj rfl rfl rfl rfl (by omega) (by omega)) rfl ?_))))))))
       refine zBl rfl rfl (zAe (zAc (g0 _ _ (nxI (s.size - (i + 1)) (by omega) ?_))))
       exact ⟨i + 1, bp _ _ _ _ _ (zDq s i (by omega) _ (by rw [hfine, Bool.eq_iff_iff]; simp only [*]; simp [nmByte, out] <;> omega)) rfl, by omega, rfl, gf⟩
      try simp only [zS] at ga
      refine w_y rfl rfl rfl (zAi (v := .bool _) rfl rfl) rfl ?_
      refine w_y rfl rfl rfl (zBd (v := .bool _) rfl rfl rfl rfl) rfl ?_
      refine w_p (zAx (v := .bool _) rfl rfl rfl rfl) rfl (w_p (zAm (v := .bool _) rfl rfl) rfl (zAe (zAl (zAc (g4 _ _ (zAa (zBa rfl rfl (w_p (zBj rfl rfl rfl rfl (by omega) (by omega)) rfl ?_))))))))
      refine zBl rfl rfl (zAe (zAc (g0 _ _ (nxI (s.size - (i + 1)) (by omega) ?_))))
      exact ⟨i + 1, bp _ _ _ _ _ (zDq s i (by omega) _ (by rw [hfine, Bool.eq_iff_iff]; simp only [*]; simp [nmByte, out] <;> omega)) rfl, by omega, rfl, gf⟩
     try simp only [zS] at g9
     refine zAg rfl rfl rfl ?_
     refine zAg rfl rfl rfl ?_
     refine zAg rfl rfl rfl ?_
     refine zAg rfl rfl rfl ?_
     refine zAg rfl rfl rfl ?_
     refine zAg rfl rfl rfl ?_
     refine zBe rfl rfl rfl ?_
     refine zAg rfl rfl rfl ?_
     refine w_p (zBd (v := _) rfl rfl rfl rfl) rfl (w_p (zAm (v := .bool _) rfl rfl) rfl (zAe (zAl (zAc (g4 _ _ (zAa (zBa rfl rfl (w_p (zBj rfl rfl rfl rfl (by omega) (by omega)) rfl ?_))))))))
     refine zBl rfl rfl (zAe (zAc (g0 _ _ (nxI (s.size - (i + 1)) (by omega) ?_))))
     exact ⟨i + 1, bp _ _ _ _ _ (zDq s i (by omega) _ (by rw [hfine, Bool.eq_iff_iff]; simp only [*]; simp [nmByte, out] <;> omega)) rfl, by omega, rfl, hs⟩
    try simp only [zS] at g8
    refine w_y rfl rfl rfl (zAi (v := .string _) rfl rfl) rfl ?_
    refine w_y rfl rfl rfl (zA1 rfl rfl) rfl ?_
    refine w_y rfl rfl rfl (zHh underlying9 rfl rfl rfl rfl (i := _) rfl (by omega)) rfl ?_
    refine w_y rfl rfl rfl (zIa (by rw [underlying5]; rfl) underlying3 rfl rfl (by omega) (by omega)) rfl ?_
    refine zAs (zAp rfl rfl rfl) call15 rfl rfl rfl rfl (c15 _ _ _ hs) ?_
    rintro _ gA ⟨rfl, gg⟩
    refine w_y rfl rfl rfl (zBd (v := .bool _) rfl rfl rfl rfl) rfl ?_
    refine w_p (zAx (v := .bool _) rfl rfl rfl rfl) rfl (w_p (zAm (v := .bool _) rfl rfl) rfl (zAe (zAc (g6 _ _ (zAa (w_p (zAi (v := .bool _) rfl rfl) rfl ?_))))))
    refine w_p (zAi (v := .bool _) rfl rfl) rfl (zBk (fun gb => ?_) (fun gb => ?_))
    ·
     try simp only [zS] at gb
     refine w_y rfl rfl rfl (zAi (v := .string _) rfl rfl) rfl ?_
     refine w_y rfl rfl rfl (zA1 rfl rfl) rfl ?_
     refine w_y rfl rfl rfl (zHh underlying9 rfl rfl rfl rfl (i := _) rfl (by omega)) rfl ?_
     refine w_y rfl rfl rfl (zIa (by rw [underlying5]; rfl) underlying3 rfl rfl (by omega) (by omega)) rfl ?_
     refine zAs (zAp rfl rfl rfl) call15 rfl rfl rfl rfl (c15 _ _ _ gg) ?_
     rintro _ gB ⟨rfl, gh⟩
     refine w_y rfl rfl rfl (zAi (v := .bool _) rfl rfl) rfl ?_
     refine zBk (fun gc => ?_) (fun gc => ?_)
     ·
      try simp only [zS] at gc
      refine zAg rfl rfl rfl ?_
      refine w_y rfl rfl rfl (zAx (v := _) rfl rfl rfl rfl) rfl ?_
      refine w_p (zAx (v := .bool _) rfl rfl rfl rfl) rfl (w_p (zAm (v := .bool _) rfl rfl) rfl (zAe (zAl (zAc (g4 _ _ (zAa (zBa rfl rfl (w_p (zBj rfl rfl rfl rfl (by omega) (by omega)) rfl ?_))))))))
      refine zBl rfl rfl (zAe (zAc (g0 _ _ (nxI (s.size - (i + 1)) (by omega) ?_))))
      exact ⟨i + 1, bp _ _ _ _ _ (zDq s i (by omega) _ (by rw [hfine, Bool.eq_iff_iff]; simp only [*]; simp [nmByte, out] <;> omega)) rfl, by omega, rfl, gh⟩
     try simp only [zS] at gc
     refine w_y rfl rfl rfl (zAi (v := .bool _) rfl rfl) rfl ?_
     refine w_y rfl rfl rfl (zBd (v := .bool _) rfl rfl rfl rfl) rfl ?_
     refine w_p (zAx (v := .bool _) rfl rfl rfl rfl) rfl (w_p (zAm (v := .bool _) rfl rfl) rfl (zAe (zAl (zAc (g4 _ _ (zAa (zBa rfl rfl (w_p (zBj rfl rfl rfl rfl (by omega) (by omega)) rfl ?_))))))))
     refine zBl rfl rfl (zAe (zAc (g0 _ _ (nxI (s.size - (i + 1)) (by omega) ?_))))
     exact ⟨i + 1, bp _ _ _ _ _ (zDq s i (by omega) _ (by rw [hfine, Bool.eq_iff_iff]; simp only [*]; simp [nmByte, out] <;> omega)) rfl, by omega, rfl, gh⟩
    try simp only [zS] at gb
    refine zAg rfl rfl rfl ?_
    refine zAg rfl rfl rfl ?_
    refine zAg rfl rfl rfl ?_
    refine zAg rfl rfl rfl ?_
    refine zAg rfl rfl rfl ?_
    refine zAg rfl rfl rfl ?_
    refine zBe rfl rfl rfl ?_
    refine zAg rfl rfl rfl ?_
    refine w_p (zBd (v := _) rfl rfl rfl rfl) rfl (w_p (zAm (v := .bool _) rfl rfl) rfl (zAe (zAl (zAc (g4 _ _ (zAa (zBa rfl rfl (w_p (zBj rfl rfl rfl rfl (by omega) (by omega)) rfl ?_))))))))
    refine zBl rfl rfl (zAe (zAc (g0 _ _ (nxI (s.size - (i + 1)) (by omega) ?_))))
    exact ⟨i + 1, bp _ _ _ _ _ (zDq s i (by omega) _ (by rw [hfine, Bool.eq_iff_iff]; simp only [*]; simp [nmByte, out] <;> omega)) rfl, by omega, rfl, gg⟩
   try simp only [zS] at g7
   refine zAg rfl rfl rfl ?_
   refine zAg rfl rfl rfl ?_
   refine zAg rfl rfl rfl ?_
   refine zAg rfl rfl rfl ?_
   refine zAg rfl rfl rfl ?_
   refine zBe rfl rfl rfl ?_
   refine zBe rfl rfl rfl ?_
   refine zBe rfl rfl rfl ?_
   refine zBe rfl rfl rfl ?_
   refine zBe rfl rfl rfl ?_
   refine zAg rfl rfl rfl ?_
   refine w_p (zBd (v := _) rfl rfl rfl rfl) rfl (w_p (zAm (v := .bool _) rfl rfl) rfl (zAe (zAc (g6 _ _ (zAa (w_p (zAi (v := .bool _) rfl rfl) rfl ?_))))))
   refine w_p (zAi (v := .bool _) rfl rfl) rfl (zBk (fun gd => ?_) (fun gd => ?_))
   ·
    try simp only [zS] at gd
    refine w_y rfl rfl rfl (zAi (v := .string _) rfl rfl) rfl ?_
    refine w_y rfl rfl rfl (zA1 rfl rfl) rfl ?_
    refine w_y rfl rfl rfl (zHh underlying9 rfl rfl rfl rfl (i := _) rfl (by omega)) rfl ?_
    refine w_y rfl rfl rfl (zIa (by rw [underlying5]; rfl) underlying3 rfl rfl (by omega) (by omega)) rfl ?_
    refine zAs (zAp rfl rfl rfl) call15 rfl rfl rfl rfl (c15 _ _ _ hs) ?_
    rintro _ gC ⟨rfl, gi⟩
    refine w_y rfl rfl rfl (zAi (v := .bool _) rfl rfl) rfl ?_
    refine zBk (fun ge => ?_) (fun ge => ?_)
    ·
     try simp only [zS] at ge
     refine zAg rfl rfl rfl ?_
     refine w_y rfl rfl rfl (zAx (v := _) rfl rfl rfl rfl) rfl ?_
     refine w_p (zAx (v := .bool _) rfl rfl rfl rfl) rfl (w_p (zAm (v := .bool _) rfl rfl) rfl (zAe (zAl (zAc (g4 _ _ (zAa (zBa rfl rfl (w_p (zBj rfl rfl rfl rfl (by omega) (by omega)) rfl ?_))))))))
     refine zBl rfl rfl (zAe (zAc (g0 _ _ (nxI (s.size - (i + 1)) (by omega) ?_))))
     exact ⟨i + 1, bp _ _ _ _ _ (zDq s i (by omega) _ (by rw [hfine, Bool.eq_iff_iff]; simp only [*]; simp [nmByte, out] <;> omega)) rfl, by omega, rfl, gi⟩
    try simp only [zS] at ge
    refine w_y rfl rfl rfl (zAi (v := .bool _) rfl rfl) rfl ?_
    refine w_y rfl rfl rfl (zBd (v := .bool _) rfl rfl rfl rfl) rfl ?_
    refine w_p (zAx (v := .bool _) rfl rfl rfl rfl) rfl (w_p (zAm (v := .bool _) rfl rfl) rfl (zAe (zAl (zAc (g4 _ _ (zAa (zBa rfl rfl (w_p (zBj rfl rfl rfl rfl (by omega) (by omega)) rfl ?_))))))))
    refine zBl rfl rfl (zAe (zAc (g0 _ _ (nxI (s.size - (i + 1)) (by omega) ?_))))
    exact ⟨i + 1, bp _ _ _ _ _ (zDq s i (by omega) _ (by rw [hfine, Bool.eq_iff_iff]; simp only [*]; simp [nmByte, out] <;> omega)) rfl, by omega, rfl, gi⟩
   try simp only [zS] at gd
   refine zAg rfl rfl rfl ?_
   refine zAg rfl rfl rfl ?_
   refine zAg rfl rfl rfl ?_
   refine zAg rfl rfl rfl ?_
   refine zAg rfl rfl rfl ?_
   refine zAg rfl rfl rfl ?_
   refine zBe rfl rfl rfl ?_
   refine zAg rfl rfl rfl ?_
   refine w_p (zBd (v := _) rfl rfl rfl rfl) rfl (w_p (zAm (v := .bool _) rfl rfl) rfl (zAe (zAl (zAc (g4 _ _ (zAa (zBa rfl rfl (w_p (zBj rfl rfl rfl rfl (by omega) (by omega)) rfl ?_))))))))
   refine zBl rfl rfl (zAe (zAc (g0 _ _ (nxI (s.size - (i + 1)) (by omega) ?_))))
   exact ⟨i + 1, bp _ _ _ _ _ (zDq s i (by omega) _ (by rw [hfine, Bool.eq_iff_iff]; simp only [*]; simp [nmByte, out] <;> omega)) rfl, by omega, rfl, hs⟩
  try simp only [zS] at g5
  refine zBq (zAo (zAo (zA8 (zAc (gm _ _ (zAf (fun gD gq => (zAa (w_p (zAi (v := .bool _) rfl rfl) rfl (w_p (zAm (v := .bool _) rfl rfl) rfl ?_))))))))))
  refine zAe (zAc (gq _ _ (zA2 (zA9 (l := [.tmp 2]) (vs := [_]) rfl ⟨⟨rfl, (rfl : _ = Value.bool _)⟩, trivial⟩ ?_))))
  exact ⟨congrArg Value.bool (by have hil : i = s.size := (by omega); subst hil; rw [← hfine]; unfold nmOk; rw [List.take_of_length_le (by simp)]), hs⟩

theorem c16 {w0 w : World} {F : List (Nat × Obj)} (s : ByteArray) (aa : Option Addr) (l : List ByteArray) (ca : Nat) (hls : s.size ≤ 9223372036854775807) (hla : l.length ≤ 9223372036854775807) (ha : Sl w0 F aa 1 (l.map fun x => [Value.string x])) (hs : St w0 w F) :
  Con Tryz.prog 16 [.string s, .slice aa l.length ca] w fun v w' => v = .int .i64 (if nmOk s = false then 6 else if has l s then 5 else 0) ∧ St w0 w' F := by
  refine zAu (n := 14) func16 rfl rfl (zNl rfl) ?_
  refine zAf (fun K2 gc => (zAa (zBg rfl rfl (zAe (zAc (gc _ _ (zAf (fun K4 gd => (zAa (zBg rfl rfl (zAe (zAc (gd _ _ (zAf (fun K6 g6 => (zAf (fun K8 ge => (zAa (w_p (zAi (v := .slice _ _ _) rfl rfl) rfl ?_)))))))))))))))))))
  refine w_p (zAi (v := .string _) rfl rfl) rfl (zAs zAb call46 rfl rfl rfl rfl (c46 _ _ _ _ (by omega) (by assumption) hs) ?_)
  rintro _ gl ⟨⟨z, rfl, hz⟩, g7⟩
  refine w_p (zF5 rfl rfl rfl rfl) rfl (zAe (zAc (ge _ _ (zAy rfl rfl (fun g0 => ?_) (fun g0 => ?_)))))
  ·
   try simp only [zS] at g0
   refine zAa (zBg rfl rfl (zAe (zAc (g6 _ _ (zAf (fun gm g8 => (zAf (fun gn gf => (zAa (w_p (zAi (v := .string _) rfl rfl) rfl ?_))))))))))
   refine zAs zAb call47 rfl rfl rfl rfl (c47 _ (by omega) g7) ?_
   rintro _ go ⟨rfl, g9⟩
   refine w_p (zDi rfl rfl) rfl (zAe (zAc (gf _ _ (zAy rfl rfl (fun g4 => ?_) (fun g4 => ?_)))))
   ·
    try simp only [zS] at g4
    refine zAa (zBg rfl rfl (zAe (zAc (g8 _ _ (zAf (fun gp gg => (zAa (zBa rfl rfl (zBl rfl rfl (zAe (zAc (gg _ _ (zA2 (zA9 (l := [.tmp 4]) (vs := [_]) rfl ⟨⟨rfl, (rfl : _ = Value.int _ _)⟩, trivial⟩ ?_))))))))))))))
    exact ⟨congrArg (Value.int .i64) (by have hz2 : has l s = decide (0 ≤ z) := (by rw [Bool.eq_iff_iff]; simp [hz]); rw [hz2]; clear hz hz2; simp [*] <;> (repeat' split) <;> omega), g9⟩
   try simp only [zS] at g4
   refine zAv (zAc (g8 _ _ (zAf (fun gq gh => (zAa (zBa rfl rfl (zBl rfl rfl (zAe (zAc (gh _ _ (zA2 (zA9 (l := [.tmp 4]) (vs := [_]) rfl ⟨⟨rfl, (rfl : _ = Value.int _ _)⟩, trivial⟩ ?_))))))))))))
   exact ⟨congrArg (Value.int .i64) (by have hz2 : has l s = decide (0 ≤ z) := (by rw [Bool.eq_iff_iff]; simp [hz]); rw [hz2]; clear hz hz2; simp [*] <;> (repeat' split) <;> omega), g9⟩
  try simp only [zS] at g0
  refine zAv (zAc (g6 _ _ (zAf (fun gr ga => (zAf (fun gt gi => (zAa (w_p (zAi (v := .string _) rfl rfl) rfl (zAs zAb call47 rfl rfl rfl rfl (c47 _ (by omega) g7) ?_)))))))))
  rintro _ gu ⟨rfl, gb⟩
  refine w_p (zDi rfl rfl) rfl (zAe (zAc (gi _ _ (zAy rfl rfl (fun g5 => ?_) (fun g5 => ?_)))))
  ·
   try simp only [zS] at g5
   refine zAa (zBg rfl rfl (zAe (zAc (ga _ _ (zAf (fun gv gj => (zAa (zBa rfl rfl (zBl rfl rfl (zAe (zAc (gj _ _ (zA2 (zA9 (l := [.tmp 4]) (vs := [_]) rfl ⟨⟨rfl, (rfl : _ = Value.int _ _)⟩, trivial⟩ ?_))))))))))))))
   exact ⟨congrArg (Value.int .i64) (by have hz2 : has l s = decide (0 ≤ z) := (by rw [Bool.eq_iff_iff]; simp [hz]); rw [hz2]; clear hz hz2; simp [*] <;> (repeat' split) <;> omega), gb⟩
  try simp only [zS] at g5
  refine zAv (zAc (ga _ _ (zAf (fun gw gk => (zAa (zBa rfl rfl (zBl rfl rfl (zAe (zAc (gk _ _ (zA2 (zA9 (l := [.tmp 4]) (vs := [_]) rfl ⟨⟨rfl, (rfl : _ = Value.int _ _)⟩, trivial⟩ ?_))))))))))))
  exact ⟨congrArg (Value.int .i64) (by have hz2 : has l s = decide (0 ≤ z) := (by rw [Bool.eq_iff_iff]; simp [hz]); rw [hz2]; clear hz hz2; simp [*] <;> (repeat' split) <;> omega), gb⟩

theorem any_take {l : List Int} {p : Int → Bool} {i : Nat} (h : (l.take i).any p = false) (hi : i < l.length) (hp : p l[i] = false) : (l.take (i + 1)).any p = false := by
  rw [List.take_succ_eq_append_getElem hi, List.any_append, h]; simp [hp]
theorem c104 {w0 w : World} {F : List (Nat × Obj)} (aa : Option Addr) (l : List Int) (ca : Nat) (hla : l.length ≤ 9223372036854775807) (ha : Sl w0 F aa 1 (l.map fun x => [Value.int .i64 x])) {fk : FuncId} (hC : CF Tryz.prog fk) (first captured : Array Value) (p : Int → Bool)
    (hp : ∀ x ∈ l, ∀ w, St w0 w F → Con Tryz.prog fk (first.toList ++ ([.int .i64 x] ++ captured.toList)) w fun v w' => v = .bool (p x) ∧ St w0 w' F) (hs : St w0 w F) :
  Con Tryz.prog 104 [.slice aa l.length ca, .func (.func fk) first captured] w fun v w' => (∃ z, v = .int .i64 z ∧ decide (0 ≤ z) = l.any p) ∧ St w0 w' F := by
  refine zAu (n := 19) func104 rfl rfl (zNl rfl) ?_
  refine zAf (fun K2 g6 => (zAa (zBg rfl rfl (zAe (zAc (g6 _ _ (zAf (fun K4 g7 => (zAf (fun K6 g8 => (zAa (w_p (zAi (v := .slice _ _ _) rfl rfl) rfl ?_))))))))))))
  refine w_p (zBm underlying34 rfl rfl) rfl (w_p (zAi (v := _) rfl rfl) rfl (zAe (zAc (g8 _ _ (zAz ?_)))))
  refine zB3 [4,5,8,9,10,11,12,13,14,15,16,17,18] [8] (fun k vs w => ∃ i : Nat, vs = [.int .i64 i] ∧ i ≤ l.length ∧ k = l.length - i ∧ (l.take i).any p = false ∧ St w0 w F) (l.length) ?_ ?_
  ·
   exact ⟨0, rfl, by omega, by omega, by simp, hs⟩
  intro k vs μ w9 hI K8 g9
  obtain ⟨i, rfl, hia, rfl, hpre, hs⟩ := hI
  refine zAf (fun gh ga => (zAa (w_p (zCl rfl rfl rfl rfl) rfl (zAe (zAc (ga _ _ (zAf (fun gi gb => (zAy rfl rfl (fun g0 => ?_) (fun g0 => ?_))))))))))
  ·
   try simp only [zS] at g0
   refine zAv (zAc (gb _ _ (zAf (fun gj gc => (zAz ?_)))))
   refine zAf (fun gk gd => (zAa (zBa rfl rfl (zBl rfl rfl (zAe (zAc (gd _ _ (zAf (fun gl ge => ?_)))))))))
   have hi2 : i < l.length := by omega
   obtain ⟨ba, oa, rfl, hxa⟩ := zDk ha hi2
   refine zAa (w_p (zAi (v := .func _ _ _) rfl rfl) rfl (w_p (zAi (v := .slice _ _ _) rfl rfl) rfl (zBa rfl rfl (w_p (zBc underlying34 sizeOf3 rfl rfl rfl rfl (i := _) rfl (by omega)) rfl (w_p (zAj isAgg3 hs rfl rfl hxa) rfl ?_)))))
   refine zAs zAb hC rfl rfl rfl rfl (hp _ (List.getElem_mem hi2) _ hs) ?_
   rintro _ gm ⟨rfl, g4⟩
   refine zAe (zAc (ge _ _ (zAy rfl rfl (fun g5 => ?_) (fun g5 => ?_))))
   ·
    try simp only [zS] at g5
    refine zAf (fun gn gf => (zAa (zBa rfl rfl (zBl rfl rfl (zAe (zAc (gf _ _ (zA2 (zAt (zAk (zAk (zAt (zAk (zA9 (l := [.tmp 4]) (vs := [_]) rfl ⟨⟨rfl, (rfl : _ = Value.int _ _)⟩, trivial⟩ ?_))))))))))))))
    first
      | exact ⟨⟨-1, rfl, by have hil : i = l.length := (by omega); subst hil; rw [List.take_length] at hpre; rw [hpre]; rfl⟩, g4⟩
      | exact ⟨⟨(i : Int), rfl, by rw [Bool.eq_iff_iff]; simp only [decide_eq_true_eq, List.any_eq_true]; exact ⟨fun _ => ⟨_, List.getElem_mem hi2, by assumption⟩, fun _ => by omega⟩⟩, g4⟩
   try simp only [zS] at g5
   refine zAv (zAl (zAc (gc _ _ (zAa (w_p (zBj rfl rfl rfl rfl (by omega) (by omega)) rfl (zBa rfl rfl (zAe (zAc (g9 _ _ (nxI (l.length - (i + 1)) (by omega) ?_))))))))))
   exact ⟨i + 1, rfl, by omega, rfl, any_take hpre (by omega) (by assumption), g4⟩
  try simp only [zS] at g0
  refine zBq (zAo (zAo (zA8 (zAc (g7 _ _ (zAf (fun go gg => (zAa (zBg rfl rfl (zAe (zAc (gg _ _ (zA2 (zA9 (l := [.tmp 4]) (vs := [_]) rfl ⟨⟨rfl, (rfl : _ = Value.int _ _)⟩, trivial⟩ ?_))))))))))))))
  first
    | exact ⟨⟨-1, rfl, by have hil : i = l.length := (by omega); subst hil; rw [List.take_length] at hpre; rw [hpre]; rfl⟩, hs⟩
    | exact ⟨⟨(i : Int), rfl, by rw [Bool.eq_iff_iff]; simp only [decide_eq_true_eq, List.any_eq_true]; exact ⟨fun _ => ⟨_, List.getElem_mem hi2, by assumption⟩, fun _ => by omega⟩⟩, hs⟩

theorem c79 {w0 w : World} {F : List (Nat × Obj)} (aa : Option Addr) (l : List Int) (ca : Nat) (hla : l.length ≤ 9223372036854775807) (ha : Sl w0 F aa 1 (l.map fun x => [Value.int .i64 x])) {fk : FuncId} (hC : CF Tryz.prog fk) (first captured : Array Value) (p : Int → Bool)
    (hp : ∀ x ∈ l, ∀ w, St w0 w F → Con Tryz.prog fk (first.toList ++ ([.int .i64 x] ++ captured.toList)) w fun v w' => v = .bool (p x) ∧ St w0 w' F) (hs : St w0 w F) :
  Con Tryz.prog 79 [.slice aa l.length ca, .func (.func fk) first captured] w fun v w' => v = .bool (l.any p) ∧ St w0 w' F := by
  refine zAu (n := 9) func79 rfl rfl (zNl rfl) ?_
  refine zAf (fun K2 g0 => (zAa (zBg rfl rfl (zAe (zAc (g0 _ _ (zAf (fun K4 g4 => (zAa (w_p (zAi (v := .slice _ _ _) rfl rfl) rfl ?_))))))))))
  refine w_p (zAi (v := .func _ _ _) rfl rfl) rfl (zAs zAb call104 rfl rfl rfl rfl (c104 _ _ _ hla ha hC _ _ p hp hs) ?_)
  rintro _ w6 ⟨⟨z, rfl, hz⟩, g5⟩
  refine w_p (zF5 rfl rfl rfl rfl) rfl (w_p (zAm (v := .bool _) rfl rfl) rfl (zAe (zAc (g4 _ _ (zA2 (zA9 (l := [.tmp 4]) (vs := [_]) rfl ⟨⟨rfl, (rfl : _ = Value.bool _)⟩, trivial⟩ ?_))))))
  exact ⟨congrArg Value.bool hz, g5⟩

theorem c109 {w0 w : World} {F : List (Nat × Obj)} (n lo hi : Int) (b1 b2 : Nat) (h1 : Ats w0 F b1 0 [.int .i64 lo]) (h2 : Ats w0 F b2 0 [.int .i64 hi]) (hs : St w0 w F) :
  Con Tryz.prog 109 [.int .i64 n, .pointer (some ⟨b1,0, none⟩), .pointer (some ⟨b2,0, none⟩)] w fun v w' => v = .bool (out lo hi n) ∧ St w0 w' F := by
  refine zAu (n := 13) func109 rfl rfl (zNl rfl) ?_
  refine zAf (fun K2 g4 => (zAa (zBg rfl rfl (zAe (zAc (g4 _ _ (zAf (fun K4 g0 => (zAa (zBa rfl rfl (w_p (zAj isAgg3 hs rfl rfl h1) rfl ?_)))))))))))
  refine w_p (zCl rfl rfl rfl rfl) rfl (w_p (zAi (v := .bool _) rfl rfl) rfl (zBk (fun h5 => ?_) (fun h5 => ?_)))
  ·
   try simp only [zS] at h5
   refine zAg rfl rfl rfl ?_
   refine zAg rfl rfl rfl ?_
   refine zAg rfl rfl rfl ?_
   refine w_p (zAx (v := _) rfl rfl rfl rfl) rfl (w_p (zAm (v := .bool _) rfl rfl) rfl (zAe (zAc (g0 _ _ (zA2 (zA9 (l := [.tmp 4]) (vs := [_]) rfl ⟨⟨rfl, (rfl : _ = Value.bool _)⟩, trivial⟩ ?_))))))
   exact ⟨congrArg Value.bool (by rw [Bool.eq_iff_iff]; simp [out, *] <;> omega), hs⟩
  try simp only [zS] at h5
  refine w_y rfl rfl rfl (zA1 rfl rfl) rfl ?_
  refine w_y rfl rfl rfl (zAj isAgg3 hs rfl rfl h2) rfl ?_
  refine w_y rfl rfl rfl (zFa rfl rfl rfl rfl) rfl ?_
  refine w_p (zBd (v := .bool _) rfl rfl rfl rfl) rfl (w_p (zAm (v := .bool _) rfl rfl) rfl (zAe (zAc (g0 _ _ (zA2 (zA9 (l := [.tmp 4]) (vs := [_]) rfl ⟨⟨rfl, (rfl : _ = Value.bool _)⟩, trivial⟩ ?_))))))
  exact ⟨congrArg Value.bool (by rw [Bool.eq_iff_iff]; simp [out, *] <;> omega), hs⟩

theorem c105 {w0 w : World} {F : List (Nat × Obj)} (lo hi : Int) (aa : Option Addr) (l : List Int) (ca : Nat) (hla : l.length ≤ 9223372036854775807) (ha : Sl w0 F aa 1 (l.map fun x => [Value.int .i64 x])) (hs : St w0 w F) :
  Con Tryz.prog 105 [.int .i64 lo, .int .i64 hi, .slice aa l.length ca] w fun v w' => v = .bool (l.any (out lo hi)) ∧ St w0 w' F := by
  refine zAu (n := 10) func105 rfl rfl (zNl rfl) ?_
  refine zAf (fun K2 g0 => (zAa (zCa (v := .int _ _) (cs := [_]) zAb rfl rfl rfl hs (fun b3 w4 g4 => ?_))))
  refine zCa (v := .int _ _) (cs := [_]) zAb rfl rfl rfl g4 (fun b6 w7 g5 => ?_)
  refine zBg rfl rfl (zAe (zAc (g0 _ _ (zAf (fun g8 g6 => (zAa (w_p (zAi (v := .slice _ _ _) rfl rfl) rfl (w_p (zCd (fv := []) (cv := [_,_]) rfl rfl rfl rfl) rfl ?_))))))))
  refine zAs zAb call79 rfl rfl rfl rfl (c79 _ _ _ hla ha.cons.cons call109 _ _ (out lo hi) (fun x _ w hs => c109 _ _ _ _ _ (zAh (i := 1) (vs := [_]) rfl rfl) (zAh (i := 0) (vs := [_]) rfl rfl) hs) g5) ?_
  rintro _ g9 ⟨rfl, g7⟩
  refine w_p (zAm (v := .bool _) rfl rfl) rfl (zAe (zAc (g6 _ _ (zA2 (zA9 (l := [.tmp 6]) (vs := [_]) rfl ⟨⟨rfl, (rfl : _ = Value.bool _)⟩, trivial⟩ ?_)))))
  exact ⟨rfl, g7.tail.tail⟩

theorem c80 {w0 w : World} {F : List (Nat × Obj)} (n lo hi : Int) (b1 b2 : Nat) (h1 : Ats w0 F b1 0 [.int .i64 lo]) (h2 : Ats w0 F b2 0 [.int .i64 hi]) (hs : St w0 w F) :
  Con Tryz.prog 80 [.int .i64 n, .pointer (some ⟨b1,0, none⟩), .pointer (some ⟨b2,0, none⟩)] w fun v w' => v = .bool (out lo hi n) ∧ St w0 w' F := by
  refine zAu (n := 13) func80 rfl rfl (zNl rfl) ?_
  refine zAf (fun K2 g4 => (zAa (zBg rfl rfl (zAe (zAc (g4 _ _ (zAf (fun K4 g0 => (zAa (zBa rfl rfl (w_p (zAj isAgg3 hs rfl rfl h1) rfl ?_)))))))))))
  refine w_p (zCl rfl rfl rfl rfl) rfl (w_p (zAi (v := .bool _) rfl rfl) rfl (zBk (fun h5 => ?_) (fun h5 => ?_)))
  ·
   try simp only [zS] at h5
   refine zAg rfl rfl rfl ?_
   refine zAg rfl rfl rfl ?_
   refine zAg rfl rfl rfl ?_
   refine w_p (zAx (v := _) rfl rfl rfl rfl) rfl (w_p (zAm (v := .bool _) rfl rfl) rfl (zAe (zAc (g0 _ _ (zA2 (zA9 (l := [.tmp 4]) (vs := [_]) rfl ⟨⟨rfl, (rfl : _ = Value.bool _)⟩, trivial⟩ ?_))))))
   exact ⟨congrArg Value.bool (by rw [Bool.eq_iff_iff]; simp [out, *] <;> omega), hs⟩
  try simp only [zS] at h5
  refine w_y rfl rfl rfl (zA1 rfl rfl) rfl ?_
  refine w_y rfl rfl rfl (zAj isAgg3 hs rfl rfl h2) rfl ?_
  refine w_y rfl rfl rfl (zFa rfl rfl rfl rfl) rfl ?_
  refine w_p (zBd (v := .bool _) rfl rfl rfl rfl) rfl (w_p (zAm (v := .bool _) rfl rfl) rfl (zAe (zAc (g0 _ _ (zA2 (zA9 (l := [.tmp 4]) (vs := [_]) rfl ⟨⟨rfl, (rfl : _ = Value.bool _)⟩, trivial⟩ ?_))))))
  exact ⟨congrArg Value.bool (by rw [Bool.eq_iff_iff]; simp [out, *] <;> omega), hs⟩

theorem c55 {w0 w : World} {F : List (Nat × Obj)} (lo hi : Int) (aa : Option Addr) (l : List Int) (ca : Nat) (hla : l.length ≤ 9223372036854775807) (ha : Sl w0 F aa 1 (l.map fun x => [Value.int .i64 x])) (hs : St w0 w F) :
  Con Tryz.prog 55 [.int .i64 lo, .int .i64 hi, .slice aa l.length ca] w fun v w' => v = .bool (l.any (out lo hi)) ∧ St w0 w' F := by
  refine zAu (n := 10) func55 rfl rfl (zNl rfl) ?_
  refine zAf (fun K2 g0 => (zAa (zCa (v := .int _ _) (cs := [_]) zAb rfl rfl rfl hs (fun b3 w4 g4 => ?_))))
  refine zCa (v := .int _ _) (cs := [_]) zAb rfl rfl rfl g4 (fun b6 w7 g5 => ?_)
  refine zBg rfl rfl (zAe (zAc (g0 _ _ (zAf (fun g8 g6 => (zAa (w_p (zAi (v := .slice _ _ _) rfl rfl) rfl (w_p (zCd (fv := []) (cv := [_,_]) rfl rfl rfl rfl) rfl ?_))))))))
  refine zAs zAb call79 rfl rfl rfl rfl (c79 _ _ _ hla ha.cons.cons call80 _ _ (out lo hi) (fun x _ w hs => c80 _ _ _ _ _ (zAh (i := 1) (vs := [_]) rfl rfl) (zAh (i := 0) (vs := [_]) rfl rfl) hs) g5) ?_
  rintro _ g9 ⟨rfl, g7⟩
  refine w_p (zAm (v := .bool _) rfl rfl) rfl (zAe (zAc (g6 _ _ (zA2 (zA9 (l := [.tmp 6]) (vs := [_]) rfl ⟨⟨rfl, (rfl : _ = Value.bool _)⟩, trivial⟩ ?_)))))
  exact ⟨rfl, g7.tail.tail⟩

end Go.Proofs
set_option maxRecDepth 20000
namespace Go.Proofs
open Go.Proofs.Tryz
open Go.Rt
attribute [local irreducible] WL WC Con Yd At Ats Sl Agree DW
theorem Try_B_fb0 (x0 : Int) (w : World) : (Instr.buildSlice 34 1 [(0, .int .i64 x0)].toArray).run Tryz.prog w = .ok (.slice (some ⟨w.heap.size, 0, none⟩) 1 1) (w.alloc (Go.Rt.blk 3 [.int .i64 x0])) := by kernel_rfl
theorem nmBytes_take (l : List UInt8) : ∀ (f : Bool) (i : Nat), nmBytes f l = true → nmBytes f (l.take i) = true := by
  induction l with
  | nil => intro f i h; simpa using h
  | cons x l ih =>
    intro f i h
    cases i with
    | zero => rfl
    | succ i =>
      simp only [nmBytes, Bool.and_eq_true] at h
      simp only [List.take_succ_cons, nmBytes, Bool.and_eq_true]
      exact ⟨h.1, ih _ i h.2⟩
theorem zFu (s : ByteArray) (i : Nat) (h : i < s.size) (hb : nmByte (decide (i = 0)) s[i] = false) : false = nmOk s := by
  symm
  unfold nmOk
  cases hn : nmBytes true s.data.toList with
  | false => simp
  | true =>
    have := nmBytes_take _ true (i + 1) hn
    rw [zEx s i h, hb] at this
    simp at this
theorem dec (s : ByteArray) (i : Nat) (h : i < s.size) : (s[i].toNat < 128 ∧ (Utf8.decode s i).1 = s[i].toNat ∧ (Utf8.decode s i).2 = 1) ∨ (128 ≤ s[i].toNat ∧ 128 ≤ (Utf8.decode s i).1 ∧ 1 ≤ (Utf8.decode s i).2) := by
  rcases Nat.lt_or_ge s[i].toNat 128 with hlt | hge
  · left; rw [decode_ascii s i h hlt]; exact ⟨hlt, rfl, rfl⟩
  · right; exact ⟨hge, decode_high s i h hge⟩
theorem c92 {w0 w : World} {F : List (Nat × Obj)} (s : ByteArray) (hls : s.size ≤ 9223372036854775807) (hs : St w0 w F) :
  Con Tryz.prog 92 [.string s] w fun v w' => v = .bool (nmOk s) ∧ St w0 w' F := by
  refine zAu (n := 41) func92 rfl rfl (zNl rfl) ?_
  refine zAf (fun K2 gk => (zAa (zBg rfl rfl (zAe (zAc (gk _ _ (zAf (fun K4 gl => (zAf (fun K6 gm => (zAa (w_p (zAi (v := .string _) rfl rfl) rfl ?_))))))))))))
  refine w_rangeStr zAb underlying9 rfl rfl hs (fun b7 w8 gn => ?_)
  refine zAe (zAc (gm _ _ (zAz ?_)))
  refine zB3 [2,3,4,5,8,9,10,11,12,13,14,15,16,17,18,19,20,21,22,23,24,25,26,27,28,29,30,31,32,33,34,35] [] (fun k vs w => ∃ i : Nat, vs = [] ∧ i ≤ s.size ∧ k = s.size - i ∧ nmBytes true (s.data.toList.take i) = true ∧ St w0 w ((b7, .stringIter s i) :: F)) (s.size) ?_ ?_
  ·
   exact ⟨0, rfl, by omega, by omega, rfl, gn⟩
  intro k vs μ gz hI gA g4
  obtain ⟨i, rfl, hia, rfl, hpre, hs⟩ := hI
  refine zAf (fun gB gh => (zAa (w_nextStr (i := 0) zAb rfl rfl hs rfl (fun hp15 gC g0 => ?_) (fun hp15 => ?_))))
  ·
   refine w_p (zAn (v := .bool _) rfl rfl rfl) rfl (zAe (zAc (gh _ _ (zAf (fun gD go => (zCh rfl rfl ?_))))))
   refine zAv (zAc (go _ _ (zAz ?_)))
   refine zAf (fun gE gp => (zAa ?_))
   have hi2 : i < s.size := by omega
   have hd := dec s i hi2
   have hb2 := s[i].toNat_lt
   refine w_p (zAn (v := .int _ _) rfl rfl rfl) rfl (w_p (zAn (v := .int _ _) rfl rfl rfl) rfl (zBl rfl rfl (zBl rfl rfl (zAe (zAc (gp _ _ (zAf (fun gF gi => (zAa (zBa rfl rfl ?_))))))))))
   refine w_p (zF5 rfl rfl rfl rfl) rfl (w_p (zAi (v := .bool _) rfl rfl) rfl (zBk (fun g7 => ?_) (fun g7 => ?_)))
   ·
    try simp only [zS] at g7
    refine w_y rfl rfl rfl (zA1 rfl rfl) rfl ?_
    refine w_y rfl rfl rfl (y_leq rfl rfl rfl rfl) rfl ?_
    refine w_p (zAx (v := .bool _) rfl rfl rfl rfl) rfl (w_p (zAm (v := .bool _) rfl rfl) rfl (zAe (zAc (gi _ _ (zAf (fun gG g5 => (zAa (w_p (zAi (v := .bool _) rfl rfl) rfl ?_))))))))
    refine w_p (zDi rfl rfl) rfl (w_p (zAi (v := .bool _) rfl rfl) rfl (zBk (fun g8 => ?_) (fun g8 => ?_)))
    ·
     try simp only [zS] at g8
     refine w_y rfl rfl rfl (zA1 rfl rfl) rfl ?_
     refine w_y rfl rfl rfl (zBw rfl rfl rfl rfl) rfl ?_
     refine w_y rfl rfl rfl (zAi (v := .bool _) rfl rfl) rfl ?_
     refine zBk (fun g9 => ?_) (fun g9 => ?_)
     ·
      try simp only [zS] at g9
      refine zAg rfl rfl rfl ?_
      refine zAg rfl rfl rfl ?_
      refine zAg rfl rfl rfl ?_
      refine zBe rfl rfl rfl ?_
      refine zBe rfl rfl rfl ?_
      refine zBe rfl rfl rfl ?_
      refine zBe rfl rfl rfl ?_
      refine zBe rfl rfl rfl ?_
      refine zBe rfl rfl rfl ?_
      refine zAg rfl rfl rfl ?_
      refine w_y rfl rfl rfl (zAx (v := _) rfl rfl rfl rfl) rfl ?_
      refine w_p (zAx (v := .bool _) rfl rfl rfl rfl) rfl (zAe (zAc (g5 _ _ (zCh rfl rfl ?_))))
      refine zAf (fun gH gq => (zAa (zBg rfl rfl (zAe (zAc (gq _ _ (zA2 (zAt (zAk (zAt (zAk (zA9 (l := [.tmp 2]) (vs := [_]) rfl ⟨⟨rfl, (rfl : _ = Value.bool _)⟩, trivial⟩ ?_))))))))))))
      first
        | exact ⟨congrArg Value.bool (zFu s i hi2 (by simp [nmByte]; omega)), g0.tail⟩
        | exact ⟨congrArg Value.bool (by have hil : i = s.size := (by omega); subst hil; rw [List.take_of_length_le (by simp)] at hpre; unfold nmOk; rw [hpre, Bool.eq_iff_iff]; simp [out] <;> omega), g0.tail.tail⟩
     try simp only [zS] at g9
     refine w_y rfl rfl rfl (zA1 rfl rfl) rfl ?_
     refine w_y rfl rfl rfl (zCt rfl rfl rfl rfl) rfl ?_
     refine w_y rfl rfl rfl (zAi (v := .bool _) rfl rfl) rfl ?_
     refine zBk (fun ga => ?_) (fun ga => ?_)
     ·
      try simp only [zS] at ga
      refine w_y rfl rfl rfl (zA1 rfl rfl) rfl ?_
      refine w_y rfl rfl rfl (zCl rfl rfl rfl rfl) rfl ?_
      refine w_y rfl rfl rfl (zAi (v := .bool _) rfl rfl) rfl ?_
      refine zBk (fun gb => ?_) (fun gb => ?_)
      ·
       try simp only [zS] at gb
       refine zAg rfl rfl rfl ?_
       refine zAg rfl rfl rfl ?_
       refine w_y rfl rfl rfl (zAx (v := _) rfl rfl rfl rfl) rfl ?_
       refine w_y rfl rfl rfl (zAx (v := .bool _) rfl rfl rfl rfl) rfl ?_
       refine w_y rfl rfl rfl (zBd (v := .bool _) rfl rfl rfl rfl) rfl ?_
       refine w_p (zAx (v := .bool _) rfl rfl rfl rfl) rfl (zAe (zAc (g5 _ _ (zCh rfl rfl ?_))))
       refine zAf (fun gI gr => (zAa (zBg rfl rfl (zAe (zAc (gr _ _ (zA2 (zAt (zAk (zAt (zAk (zA9 (l := [.tmp 2]) (vs := [_]) rfl ⟨⟨rfl, (rfl : _ = Value.bool _)⟩, trivial⟩ ?_))))))))))))
       first
         | exact ⟨congrArg Value.bool (zFu s i hi2 (by simp [nmByte]; omega)), g0.tail⟩
         | exact ⟨congrArg Value.bool (by have hil : i = s.size := (by omega); subst hil; rw [List.take_of_length_le (by simp)] at hpre; unfold nmOk; rw [hpre, Bool.eq_iff_iff]; simp [out] <;> omega), g0.tail.tail⟩
      try simp only [zS] at gb
      refine w_y rfl rfl rfl (zA1 rfl rfl) rfl ?_
      refine w_y rfl rfl rfl (zFa rfl rfl rfl rfl) rfl ?_
      refine w_y rfl rfl rfl (zBd (v := .bool _) rfl rfl rfl rfl) rfl ?_
      refine w_y rfl rfl rfl (zAx (v := .bool _) rfl rfl rfl rfl) rfl ?_
      refine w_y rfl rfl rfl (zBd (v := .bool _) rfl rfl rfl rfl) rfl ?_
      refine w_p (zAx (v := .bool _) rfl rfl rfl rfl) rfl (zAe (zAc (g5 _ _ (zAy rfl rfl (fun gc => ?_) (fun gc => ?_)))))
      ·
       try simp only [zS] at gc
       refine zAf (fun gJ gt => (zAa (zBg rfl rfl (zAe (zAc (gt _ _ (zA2 (zAt (zAk (zAt (zAk (zA9 (l := [.tmp 2]) (vs := [_]) rfl ⟨⟨rfl, (rfl : _ = Value.bool _)⟩, trivial⟩ ?_))))))))))))
       first
         | exact ⟨congrArg Value.bool (zFu s i hi2 (by simp [nmByte]; omega)), g0.tail⟩
         | exact ⟨congrArg Value.bool (by have hil : i = s.size := (by omega); subst hil; rw [List.take_of_length_le (by simp)] at hpre; unfold nmOk; rw [hpre, Bool.eq_iff_iff]; simp [out] <;> omega), g0.tail.tail⟩
      try simp only [zS] at gc
      refine zAv (zAl (zAc (g4 _ _ (Nx.intro (s.size - (i + (Utf8.decode s i).2)) ((by omega)) (by repeat (first | exact zA6 | refine zA5 rfl ?_ | refine zAw rfl ?_ _ | refine zAr rfl ?_)) ?_))))
      have hd1 : s[i].toNat < 128 ∧ (Utf8.decode s i).1 = s[i].toNat ∧ (Utf8.decode s i).2 = 1 := (by rcases hd with h | h; exact h; (exfalso; first | omega | (simp only [Bool.or_eq_true, Bool.and_eq_true, decide_eq_true_eq, Bool.not_eq_true', decide_eq_false_iff_not] at *; omega)))
      have hn1 : nmByte (decide (i = 0)) s[i] = true := (by simp [nmByte]; omega)
      refine ⟨i + 1, rfl, by omega, by rw [hd1.2.2], ?_, by rw [← hd1.2.2]; exact g0⟩
      rw [zEx s i hi2, hpre, hn1]; rfl
     try simp only [zS] at ga
     refine zAg rfl rfl rfl ?_
     refine zAg rfl rfl rfl ?_
     refine zAg rfl rfl rfl ?_
     refine zBe rfl rfl rfl ?_
     refine zBe rfl rfl rfl ?_
     refine zAg rfl rfl rfl ?_
     refine w_y rfl rfl rfl (zBd (v := _) rfl rfl rfl rfl) rfl ?_
     refine w_y rfl rfl rfl (zBd (v := .bool _) rfl rfl rfl rfl) rfl ?_
     refine w_p (zAx (v := .bool _) rfl rfl rfl rfl) rfl (zAe (zAc (g5 _ _ (zCc rfl rfl ?_))))
     refine zAv (zAl (zAc (g4 _ _ (Nx.intro (s.size - (i + (Utf8.decode s i).2)) ((by omega)) (by repeat (first | exact zA6 | refine zA5 rfl ?_ | refine zAw rfl ?_ _ | refine zAr rfl ?_)) ?_))))
     have hd1 : s[i].toNat < 128 ∧ (Utf8.decode s i).1 = s[i].toNat ∧ (Utf8.decode s i).2 = 1 := (by rcases hd with h | h; exact h; (exfalso; first | omega | (simp only [Bool.or_eq_true, Bool.and_eq_true, decide_eq_true_eq, Bool.not_eq_true', decide_eq_false_iff_not] at *; omega)))
     have hn1 : nmByte (decide (i = 0)) s[i] = true := (by simp [nmByte]; omega)
     refine ⟨i + 1, rfl, by omega, by rw [hd1.2.2], ?_, by rw [← hd1.2.2]; exact g0⟩
     rw [zEx s i hi2, hpre, hn1]; rfl
    try simp only [zS] at g8
    refine zAg rfl rfl rfl ?_
    refine zAg rfl rfl rfl ?_
    refine zAg rfl rfl rfl ?_
    refine zBe rfl rfl rfl ?_
    refine zBe rfl rfl rfl ?_
    refine zBe rfl rfl rfl ?_
    refine zBe rfl rfl rfl ?_
    refine zBe rfl rfl rfl ?_
    refine zBe rfl rfl rfl ?_
    refine zBe rfl rfl rfl ?_
    refine zBe rfl rfl rfl ?_
    refine zBe rfl rfl rfl ?_
    refine zBe rfl rfl rfl ?_
    refine zAg rfl rfl rfl ?_
    refine w_p (zBd (v := _) rfl rfl rfl rfl) rfl (zAe (zAc (g5 _ _ (zCc rfl rfl ?_))))
    refine zAv (zAl (zAc (g4 _ _ (Nx.intro (s.size - (i + (Utf8.decode s i).2)) ((by omega)) (by repeat (first | exact zA6 | refine zA5 rfl ?_ | refine zAw rfl ?_ _ | refine zAr rfl ?_)) ?_))))
    have hd1 : s[i].toNat < 128 ∧ (Utf8.decode s i).1 = s[i].toNat ∧ (Utf8.decode s i).2 = 1 := (by rcases hd with h | h; exact h; (exfalso; first | omega | (simp only [Bool.or_eq_true, Bool.and_eq_true, decide_eq_true_eq, Bool.not_eq_true', decide_eq_false_iff_not] at *; omega)))
    have hn1 : nmByte (decide (i = 0)) s[i] = true := (by simp [nmByte]; omega)
    refine ⟨i + 1, rfl, by omega, by rw [hd1.2.2], ?_, by rw [← hd1.2.2]; exact g0⟩
    rw [zEx s i hi2, hpre, hn1]; rfl
   try simp only [zS] at g7
   refine zAg rfl rfl rfl ?_
   refine zAg rfl rfl rfl ?_
   refine w_p (zBd (v := _) rfl rfl rfl rfl) rfl (w_p (zAm (v := .bool _) rfl rfl) rfl (zAe (zAc (gi _ _ (zAf (fun gK g6 => (zAa (w_p (zAi (v := .bool _) rfl rfl) rfl ?_))))))))
   refine w_p (zDi rfl rfl) rfl (w_p (zAi (v := .bool _) rfl rfl) rfl (w_y rfl rfl rfl (zA1 rfl rfl) rfl (w_y rfl rfl rfl (zBw rfl rfl rfl rfl) rfl (w_y rfl rfl rfl (zAi (v := .bool _) rfl rfl) rfl (zBk (fun gd => ?_) (fun gd => ?_))))))
   ·
    try simp only [zS] at gd
    refine zAg rfl rfl rfl ?_
    refine zAg rfl rfl rfl ?_
    refine zAg rfl rfl rfl ?_
    refine zBe rfl rfl rfl ?_
    refine zBe rfl rfl rfl ?_
    refine zBe rfl rfl rfl ?_
    refine zBe rfl rfl rfl ?_
    refine zBe rfl rfl rfl ?_
    refine zBe rfl rfl rfl ?_
    refine zAg rfl rfl rfl ?_
    refine w_y rfl rfl rfl (zAx (v := _) rfl rfl rfl rfl) rfl ?_
    refine w_p (zAx (v := .bool _) rfl rfl rfl rfl) rfl (zAe (zAc (g6 _ _ (zCh rfl rfl ?_))))
    refine zAf (fun gL gu => (zAa (zBg rfl rfl (zAe (zAc (gu _ _ (zA2 (zAt (zAk (zAt (zAk (zA9 (l := [.tmp 2]) (vs := [_]) rfl ⟨⟨rfl, (rfl : _ = Value.bool _)⟩, trivial⟩ ?_))))))))))))
    first
      | exact ⟨congrArg Value.bool (zFu s i hi2 (by simp [nmByte]; omega)), g0.tail⟩
      | exact ⟨congrArg Value.bool (by have hil : i = s.size := (by omega); subst hil; rw [List.take_of_length_le (by simp)] at hpre; unfold nmOk; rw [hpre, Bool.eq_iff_iff]; simp [out] <;> omega), g0.tail.tail⟩
   try simp only [zS] at gd
   refine w_y rfl rfl rfl (zA1 rfl rfl) rfl ?_
   refine w_y rfl rfl rfl (zCt rfl rfl rfl rfl) rfl ?_
   refine w_y rfl rfl rfl (zAi (v := .bool _) rfl rfl) rfl ?_
   refine zBk (fun ge => ?_) (fun ge => ?_)
   ·
    try simp only [zS] at ge
    refine w_y rfl rfl rfl (zA1 rfl rfl) rfl ?_
    refine w_y rfl rfl rfl (zCl rfl rfl rfl rfl) rfl ?_
    refine w_y rfl rfl rfl (zAi (v := .bool _) rfl rfl) rfl ?_
    refine zBk (fun gf => ?_) (fun gf => ?_)
    ·
     try simp only [zS] at gf
     refine zAg rfl rfl rfl ?_
     refine zAg rfl rfl rfl ?_
     refine w_y rfl rfl rfl (zAx (v := _) rfl rfl rfl rfl) rfl ?_
     refine w_y rfl rfl rfl (zAx (v := .bool _) rfl rfl rfl rfl) rfl ?_
     refine w_y rfl rfl rfl (zBd (v := .bool _) rfl rfl rfl rfl) rfl ?_
     refine w_p (zAx (v := .bool _) rfl rfl rfl rfl) rfl (zAe (zAc (g6 _ _ (zCh rfl rfl ?_))))
     refine zAf (fun gM gv => (zAa (zBg rfl rfl (zAe (zAc (gv _ _ (zA2 (zAt (zAk (zAt (zAk (zA9 (l := [.tmp 2]) (vs := [_]) rfl ⟨⟨rfl, (rfl : _ = Value.bool _)⟩, trivial⟩ ?_))))))))))))
     first
       | exact ⟨congrArg Value.bool (zFu s i hi2 (by simp [nmByte]; omega)), g0.tail⟩
       | exact ⟨congrArg Value.bool (by have hil : i = s.size := (by omega); subst hil; rw [List.take_of_length_le (by simp)] at hpre; unfold nmOk; rw [hpre, Bool.eq_iff_iff]; simp [out] <;> omega), g0.tail.tail⟩
    try simp only [zS] at gf
    refine w_y rfl rfl rfl (zA1 rfl rfl) rfl ?_
    refine w_y rfl rfl rfl (zFa rfl rfl rfl rfl) rfl ?_
    refine w_y rfl rfl rfl (zBd (v := .bool _) rfl rfl rfl rfl) rfl ?_
    refine w_y rfl rfl rfl (zAx (v := .bool _) rfl rfl rfl rfl) rfl ?_
    refine w_y rfl rfl rfl (zBd (v := .bool _) rfl rfl rfl rfl) rfl ?_
    refine w_p (zAx (v := .bool _) rfl rfl rfl rfl) rfl (zAe (zAc (g6 _ _ (zAy rfl rfl (fun gg => ?_) (fun gg => ?_)))))
    ·
     try simp only [zS] at gg
     refine zAf (fun gN gw => (zAa (zBg rfl rfl (zAe (zAc (gw _ _ (zA2 (zAt (zAk (zAt (zAk (zA9 (l := [.tmp 2]) (vs := [_]) rfl ⟨⟨rfl, (rfl : _ = Value.bool _)⟩, trivial⟩ ?_))))))))))))
     first
       | exact ⟨congrArg Value.bool (zFu s i hi2 (by simp [nmByte]; omega)), g0.tail⟩
       | exact ⟨congrArg Value.bool (by have hil : i = s.size := (by omega); subst hil; rw [List.take_of_length_le (by simp)] at hpre; unfold nmOk; rw [hpre, Bool.eq_iff_iff]; simp [out] <;> omega), g0.tail.tail⟩
    try simp only [zS] at gg
    refine zAv (zAl (zAc (g4 _ _ (Nx.intro (s.size - (i + (Utf8.decode s i).2)) ((by omega)) (by repeat (first | exact zA6 | refine zA5 rfl ?_ | refine zAw rfl ?_ _ | refine zAr rfl ?_)) ?_))))
    have hd1 : s[i].toNat < 128 ∧ (Utf8.decode s i).1 = s[i].toNat ∧ (Utf8.decode s i).2 = 1 := (by rcases hd with h | h; exact h; (exfalso; first | omega | (simp only [Bool.or_eq_true, Bool.and_eq_true, decide_eq_true_eq, Bool.not_eq_true', decide_eq_false_iff_not] at *; omega)))
    have hn1 : nmByte (decide (i = 0)) s[i] = true := (by simp [nmByte]; omega)
    refine ⟨i + 1, rfl, by omega, by rw [hd1.2.2], ?_, by rw [← hd1.2.2]; exact g0⟩
    rw [zEx s i hi2, hpre, hn1]; rfl
   try simp only [zS] at ge
   refine zAg rfl rfl rfl ?_
   refine zAg rfl rfl rfl ?_
   refine zAg rfl rfl rfl ?_
   refine zBe rfl rfl rfl ?_
   refine zBe rfl rfl rfl ?_
   refine zAg rfl rfl rfl ?_
   refine w_y rfl rfl rfl (zBd (v := _) rfl rfl rfl rfl) rfl ?_
   refine w_y rfl rfl rfl (zBd (v := .bool _) rfl rfl rfl rfl) rfl ?_
   refine w_p (zAx (v := .bool _) rfl rfl rfl rfl) rfl (zAe (zAc (g6 _ _ (zCc rfl rfl ?_))))
   refine zAv (zAl (zAc (g4 _ _ (Nx.intro (s.size - (i + (Utf8.decode s i).2)) ((by omega)) (by repeat (first | exact zA6 | refine zA5 rfl ?_ | refine zAw rfl ?_ _ | refine zAr rfl ?_)) ?_))))
   have hd1 : s[i].toNat < 128 ∧ (Utf8.decode s i).1 = s[i].toNat ∧ (Utf8.decode s i).2 = 1 := (by rcases hd with h | h; exact h; (exfalso; first | omega | (simp only [Bool.or_eq_true, Bool.and_eq_true, decide_eq_true_eq, Bool.not_eq_true', decide_eq_false_iff_not] at *; omega)))
   have hn1 : nmByte (decide (i = 0)) s[i] = true := (by simp [nmByte]; omega)
   refine ⟨i + 1, rfl, by omega, by rw [hd1.2.2], ?_, by rw [← hd1.2.2]; exact g0⟩
   rw [zEx s i hi2, hpre, hn1]; rfl
  refine w_p (zAn (v := .bool _) rfl rfl rfl) rfl (zAe (zAc (gh _ _ (zAf (fun gO gP => (zCc rfl rfl ?_))))))
  refine zBq (zAo (zAo (zA8 (zAc (gl _ _ (zAf (fun gQ gx => (zAa (w_p (zAi (v := .string _) rfl rfl) rfl (w_p (y_lenStr underlying9 rfl rfl) rfl ?_))))))))))
  refine zA0 (ps := [(0, _)]) (pv := [(0, .int _ _)]) (cs := [_]) zAb rfl rfl (fun w => Try_B_fb0 _ w) hs (fun gR gT gy => ?_)
  refine zAs zAb call105 rfl rfl rfl rfl (c105 _ _ _ [_] _ (by simp) (zBp (i := 0) (rows := [[_]]) rfl (by simp) rfl) gy) ?_
  rintro _ gU ⟨rfl, gj⟩
  refine w_p (zDi rfl rfl) rfl (w_p (zAm (v := .bool _) rfl rfl) rfl (zAe (zAc (gx _ _ (zA2 (zA9 (l := [.tmp 2]) (vs := [_]) rfl ⟨⟨rfl, (rfl : _ = Value.bool _)⟩, trivial⟩ ?_))))))
  first
    | exact ⟨congrArg Value.bool (zFu s i hi2 (by simp [nmByte]; omega)), gj.tail⟩
    | exact ⟨congrArg Value.bool (by have hil : i = s.size := (by omega); subst hil; rw [List.take_of_length_le (by simp)] at hpre; unfold nmOk; rw [hpre, Bool.eq_iff_iff]; simp [out] <;> omega), gj.tail.tail⟩

theorem c95 {w0 w : World} {F : List (Nat × Obj)} (n lo hi : Int) (b1 b2 : Nat) (h1 : Ats w0 F b1 0 [.int .i64 lo]) (h2 : Ats w0 F b2 0 [.int .i64 hi]) (hs : St w0 w F) :
  Con Tryz.prog 95 [.int .i64 n, .pointer (some ⟨b1,0, none⟩), .pointer (some ⟨b2,0, none⟩)] w fun v w' => v = .bool (out lo hi n) ∧ St w0 w' F := by
  refine zAu (n := 13) func95 rfl rfl (zNl rfl) ?_
  refine zAf (fun K2 g4 => (zAa (zBg rfl rfl (zAe (zAc (g4 _ _ (zAf (fun K4 g0 => (zAa (zBa rfl rfl (w_p (zAj isAgg3 hs rfl rfl h1) rfl ?_)))))))))))
  refine w_p (zCl rfl rfl rfl rfl) rfl (w_p (zAi (v := .bool _) rfl rfl) rfl (zBk (fun h5 => ?_) (fun h5 => ?_)))
  ·
   try simp only [zS] at h5
   refine zAg rfl rfl rfl ?_
   refine zAg rfl rfl rfl ?_
   refine zAg rfl rfl rfl ?_
   refine w_p (zAx (v := _) rfl rfl rfl rfl) rfl (w_p (zAm (v := .bool _) rfl rfl) rfl (zAe (zAc (g0 _ _ (zA2 (zA9 (l := [.tmp 4]) (vs := [_]) rfl ⟨⟨rfl, (rfl : _ = Value.bool _)⟩, trivial⟩ ?_))))))
   exact ⟨congrArg Value.bool (by rw [Bool.eq_iff_iff]; simp [out, *] <;> omega), hs⟩
  try simp only [zS] at h5
  refine w_y rfl rfl rfl (zA1 rfl rfl) rfl ?_
  refine w_y rfl rfl rfl (zAj isAgg3 hs rfl rfl h2) rfl ?_
  refine w_y rfl rfl rfl (zFa rfl rfl rfl rfl) rfl ?_
  refine w_p (zBd (v := .bool _) rfl rfl rfl rfl) rfl (w_p (zAm (v := .bool _) rfl rfl) rfl (zAe (zAc (g0 _ _ (zA2 (zA9 (l := [.tmp 4]) (vs := [_]) rfl ⟨⟨rfl, (rfl : _ = Value.bool _)⟩, trivial⟩ ?_))))))
  exact ⟨congrArg Value.bool (by rw [Bool.eq_iff_iff]; simp [out, *] <;> omega), hs⟩

theorem c73 {w0 w : World} {F : List (Nat × Obj)} (lo hi : Int) (aa : Option Addr) (l : List Int) (ca : Nat) (hla : l.length ≤ 9223372036854775807) (ha : Sl w0 F aa 1 (l.map fun x => [Value.int .i64 x])) (hs : St w0 w F) :
  Con Tryz.prog 73 [.int .i64 lo, .int .i64 hi, .slice aa l.length ca] w fun v w' => v = .bool (l.any (out lo hi)) ∧ St w0 w' F := by
  refine zAu (n := 10) func73 rfl rfl (zNl rfl) ?_
  refine zAf (fun K2 g0 => (zAa (zCa (v := .int _ _) (cs := [_]) zAb rfl rfl rfl hs (fun b3 w4 g4 => ?_))))
  refine zCa (v := .int _ _) (cs := [_]) zAb rfl rfl rfl g4 (fun b6 w7 g5 => ?_)
  refine zBg rfl rfl (zAe (zAc (g0 _ _ (zAf (fun g8 g6 => (zAa (w_p (zAi (v := .slice _ _ _) rfl rfl) rfl (w_p (zCd (fv := []) (cv := [_,_]) rfl rfl rfl rfl) rfl ?_))))))))
  refine zAs zAb call79 rfl rfl rfl rfl (c79 _ _ _ hla ha.cons.cons call95 _ _ (out lo hi) (fun x _ w hs => c95 _ _ _ _ _ (zAh (i := 1) (vs := [_]) rfl rfl) (zAh (i := 0) (vs := [_]) rfl rfl) hs) g5) ?_
  rintro _ g9 ⟨rfl, g7⟩
  refine w_p (zAm (v := .bool _) rfl rfl) rfl (zAe (zAc (g6 _ _ (zA2 (zA9 (l := [.tmp 6]) (vs := [_]) rfl ⟨⟨rfl, (rfl : _ = Value.bool _)⟩, trivial⟩ ?_)))))
  exact ⟨rfl, g7.tail.tail⟩

end Go.Proofs
