/- Plain words of the cable layer: who must cut too early. No conditions. -/
import Derived.Test.YtofoabifbkhkfaaCSpec9
set_option linter.unusedSimpArgs false
namespace Go.Rt
def setKeep (l : List Farm) (i : Nat) (k : Int) : List Farm := l.modify i fun f => { f with keep := k }
/-- A port of which a farm has another Keep. -/
def kept (p : Port) (i : Nat) (k : Int) : Port := { p with farms := setKeep p.farms i k }
def canAt (p : Port) (i : Nat) (k : Int) : Bool := !(doC (kept p i k)).isEmpty
def earlyK (p : Port) (i : Nat) : Int → Nat → Option Int
  | _, 0 => none
  | k, n + 1 => if canAt p i k then some k else earlyK p i (k + 1) n
def earlyFrom (p : Port) : Nat → List Farm → Int × Int × Int
  | _, [] => (0, 0, 9)
  | i, f :: l => match earlyK p i (f.keep + 1) (9 - f.keep).toNat with
    | some k => ((i : Int), k - f.keep, 0)
    | none => earlyFrom p (i + 1) l
def earlyD (p : Port) : Int × Int × Int := if (check p).2.2 = 0 then (if (doC p).isEmpty then earlyFrom p 0 p.farms else (0, 0, 2)) else (0, 0, (check p).2.2)
theorem early_here {p : Port} {i : Nat} (hi : i < p.farms.length) : earlyFrom p i (p.farms.drop i) = match earlyK p i (p.farms[i].keep + 1) (9 - p.farms[i].keep).toNat with
    | some k => ((i : Int), k - p.farms[i].keep, 0)
    | none => earlyFrom p (i + 1) (p.farms.drop (i + 1)) := by
  rw [List.drop_eq_getElem_cons hi]; rfl
theorem setKeep_len (l : List Farm) (i : Nat) (k : Int) : (setKeep l i k).length = l.length := by simp [setKeep]
theorem setKeep_same {l : List Farm} {i : Nat} (hi : i < l.length) : setKeep l i l[i].keep = l := by
  unfold setKeep
  apply List.ext_getElem?
  intro j
  rw [List.getElem?_modify]
  by_cases h : i = j
  · subst h; simp [hi]
  · simp [h]
theorem setKeep_set {l : List Farm} {i : Nat} {k k' : Int} : setKeep (setKeep l i k) i k' = setKeep l i k' := by
  unfold setKeep
  apply List.ext_getElem?
  intro j
  simp only [List.getElem?_modify]
  by_cases h : i = j
  · subst h; cases l[i]? <;> simp
  · simp [h]
theorem setKeep_get {l : List Farm} {i : Nat} (k : Int) (hi : i < l.length) : (setKeep l i k)[i]'(by rw [setKeep_len]; exact hi) = { l[i] with keep := k } := by simp [setKeep]
theorem setKeep_cells {l : List Farm} {i : Nat} (k : Int) (hi : i < l.length) : ((setKeep l i k)[i]'(by rw [setKeep_len]; exact hi)).cells = [.string l[i].name, .int .i64 l[i].way, .int .i64 l[i].notice, .int .i64 k, .int .i64 l[i].lo, .int .i64 l[i].hi] := by
  rw [setKeep_get k hi]; rfl
theorem kept_ok {p : Port} (hok : p.Ok) {i : Nat} {k : Int} (hi : i < p.farms.length) (h1 : p.farms[i].keep ≤ k) (h2 : k ≤ 9) : (kept p i k).Ok := by
  refine ⟨hok.hold, hok.come, by show (setKeep p.farms i k).length ≤ 3; rw [setKeep_len]; exact hok.len, ?_⟩
  intro f hf
  obtain ⟨j, hj, rfl⟩ := List.getElem_of_mem hf
  have hj' : j < p.farms.length := by simpa [kept, setKeep] using hj
  have := hok.farm _ (List.getElem_mem hj')
  by_cases h : i = j
  · subst h
    have e : (kept p i k).farms[i] = { p.farms[i] with keep := k } := setKeep_get k hi
    rw [e]
    unfold Farm.Ok at this ⊢
    dsimp only
    omega
  · have e : (kept p i k).farms[j] = p.farms[j] := by simp [kept, setKeep, List.getElem_modify, h]
    rw [e]; exact this
theorem rows_set : ∀ (l : List Farm) (i : Nat) (k : Int), i < l.length → (rows l).flatten.set (i * 6 + 3) (.int .i64 k) = (rows (setKeep l i k)).flatten
  | [], i, _, h => by simp at h
  | f :: l, 0, k, _ => by simp [rows, setKeep, Farm.cells]
  | f :: l, i + 1, k, h => by
    have ih := rows_set l i k (by simpa using h)
    have e : rows (setKeep (f :: l) (i + 1) k) = f.cells :: rows (setKeep l i k) := by simp [rows, setKeep]
    rw [e, List.flatten_cons, ← ih]
    simp only [rows, List.map_cons, List.flatten_cons]
    rw [List.set_append_right _ _ (by simp [Farm.cells]; omega)]
    congr 2
    simp [Farm.cells]; omega
theorem rows_len (l : List Farm) : (rows l).flatten.length = l.length * 6 := by
  induction l with
  | nil => rfl
  | cons f l ih => simp only [rows, List.map_cons, List.flatten_cons, List.length_append, List.length_cons] at ih ⊢; rw [ih]; simp [Farm.cells]; omega
theorem cells_set {cs : List Value} {l : List Farm} {n i : Nat} {k : Int} (hn : l.length = n) (h : cs.take (n * 6) = (rows l).flatten) (hi : i < n) : (cs.set (i * 6 + 3) (.int .i64 k)).take (n * 6) = (rows (setKeep l i k)).flatten := by
  rw [List.take_set, h, rows_set l i k (by omega)]
end Go.Rt
