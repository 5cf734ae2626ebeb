/- Plain words of the cable layer: loads, all cables, which do. No conditions. -/
import Derived.Test.YtofoabifbkhkfaaCSpec2
import Derived.Test.YtofoabifbkhkfaaEng7
set_option linter.unusedSimpArgs false
namespace Go.Rt
def Farm.Ok (f : Farm) : Prop := 1 ≤ f.way ∧ f.way ≤ 4 ∧ 0 ≤ f.notice ∧ f.notice ≤ 3 ∧ f.way ≤ f.keep ∧ f.keep ≤ 9 ∧ 0 ≤ f.lo ∧ f.lo ≤ f.hi ∧ f.hi ≤ 60
structure Port.Ok (p : Port) : Prop where
  hold : 1 ≤ p.hold ∧ p.hold ≤ 200
  come : 0 ≤ p.clo ∧ p.clo ≤ p.chi ∧ p.chi ≤ 10
  len : p.farms.length ≤ 3
  farm : ∀ f ∈ p.farms, f.Ok
structure Load where
  least : Int
  most : Int
  vain : Int
  deriving DecidableEq
def Load.ints (x : Load) : List Int := [x.least, x.most, x.vain]
def fresh (f : Farm) (c day : Int) : Bool := decide (0 ≤ c) && !out f.way f.keep (day - c - f.notice)
def step (day : Int) (x : Load) (q : Farm × Int) : Load :=
  if q.2 = -1 then x else if fresh q.1 q.2 day then ⟨x.least + q.1.lo, x.most + q.1.hi, x.vain⟩ else ⟨x.least, x.most, x.vain + q.1.hi⟩
def onUpto (fs : List Farm) (l : List Int) (day : Int) (i : Nat) : Load := ((fs.zip l).take i).foldl (step day) ⟨0, 0, 0⟩
def on (fs : List Farm) (l : List Int) (day : Int) : Load := (fs.zip l).foldl (step day) ⟨0, 0, 0⟩
theorem take_zip_succ {α β : Type} {fs : List α} {l : List β} {i : Nat} (h : i < fs.length) (h2 : i < l.length) : (fs.zip l).take (i + 1) = (fs.zip l).take i ++ [(fs[i], l[i])] := by
  rw [List.take_succ_eq_append_getElem (by simp; omega)]
  simp
theorem onUpto_succ {fs : List Farm} {l : List Int} {i : Nat} (day : Int) (h : i < fs.length) (h2 : i < l.length) : onUpto fs l day (i + 1) = step day (onUpto fs l day i) (fs[i], l.getD i 0) := by
  unfold onUpto
  rw [take_zip_succ h h2, List.foldl_append]
  simp [List.getD, h2]
theorem onUpto_all {fs : List Farm} {l : List Int} {i : Nat} (day : Int) (h : fs.length ≤ i) : onUpto fs l day i = on fs l day := by
  unfold onUpto on
  rw [List.take_of_length_le (by simp; omega)]
theorem fold_bound {fs : List (Farm × Int)} (day : Int) (hok : ∀ q ∈ fs, q.1.Ok) : ∀ x : Load, x.least ≤ (fs.foldl (step day) x).least ∧ (fs.foldl (step day) x).least ≤ x.least + 60 * fs.length ∧ x.most ≤ (fs.foldl (step day) x).most ∧ (fs.foldl (step day) x).most ≤ x.most + 60 * fs.length ∧
    x.vain ≤ (fs.foldl (step day) x).vain ∧ (fs.foldl (step day) x).vain ≤ x.vain + 60 * fs.length := by
  induction fs with
  | nil => intro x; simp
  | cons q fs ih =>
    intro x
    have hq := hok q (.head _)
    unfold Farm.Ok at hq
    have := ih (fun q hq => hok q (.tail _ hq)) (step day x q)
    simp only [List.foldl_cons, List.length_cons, Int.natCast_add]
    unfold step at this ⊢
    split at this <;> rename_i h1
    · simp only [h1, if_true] at this ⊢; omega
    · split at this <;> rename_i h2
      · simp only [h1, h2, if_true, if_false] at this ⊢; omega
      · simp only [h1, h2, Bool.false_eq_true, if_true, if_false] at this ⊢; omega
theorem onUpto_bound {fs : List Farm} {l : List Int} (day : Int) (i : Nat) (hi : i ≤ 3) (hok : ∀ f ∈ fs, f.Ok) : 0 ≤ (onUpto fs l day i).least ∧ (onUpto fs l day i).least ≤ 180 ∧ 0 ≤ (onUpto fs l day i).most ∧ (onUpto fs l day i).most ≤ 180 ∧ 0 ≤ (onUpto fs l day i).vain ∧ (onUpto fs l day i).vain ≤ 180 := by
  have := fold_bound (fs := (fs.zip l).take i) day (fun q hq => hok _ (List.of_mem_zip (List.mem_of_mem_take hq)).1) ⟨0, 0, 0⟩
  have hle : ((fs.zip l).take i).length ≤ i := by rw [List.length_take]; omega
  unfold onUpto
  dsimp only at this
  omega
theorem on_bound {fs : List Farm} {l : List Int} (day : Int) (h3 : fs.length ≤ 3) (hok : ∀ f ∈ fs, f.Ok) : 0 ≤ (on fs l day).least ∧ (on fs l day).least ≤ 180 ∧ 0 ≤ (on fs l day).most ∧ (on fs l day).most ≤ 180 ∧ 0 ≤ (on fs l day).vain ∧ (on fs l day).vain ≤ 180 := by
  rw [← onUpto_all (i := 3) day h3]; exact onUpto_bound day 3 (by omega) hok
theorem step_never {day : Int} {x : Load} {f : Farm} {c : Int} (h : c = -1) : step day x (f, c) = x := by simp [step, h]
theorem step_fresh {day : Int} {x : Load} {f : Farm} {c : Int} (h : ¬ c = -1) (h2 : fresh f c day = true) : step day x (f, c) = ⟨x.least + f.lo, x.most + f.hi, x.vain⟩ := by simp [step, h, h2]
theorem step_vain {day : Int} {x : Load} {f : Farm} {c : Int} (h : ¬ c = -1) (h2 : fresh f c day = false) : step day x (f, c) = ⟨x.least, x.most, x.vain + f.hi⟩ := by simp [step, h, h2]
def Port.days (p : Port) : List Int := (List.range (p.chi - p.clo + 1).toNat).map fun k : Nat => p.clo + (k : Int)
def loads (p : Port) (l : List Int) : List Load := p.days.map fun d => on p.farms l d
def vain (p : Port) (l : List Int) : Int := (loads p l).foldl (fun n x => max n x.vain) 0
def full (p : Port) (l : List Int) : Bool := p.days.all fun d => decide (p.hold ≤ (on p.farms l d).least)
def never (p : Port) (l : List Int) : Bool := p.days.all fun d => decide ((on p.farms l d).most < p.hold)
def does (p : Port) (l : List Int) : Int := if full p l then 1 else if never p l then 2 else 0
def cutStep (n : Int) (q : Farm × Int) : Int := if q.2 = -1 then n else n + q.1.hi
def cutUpto (fs : List Farm) (l : List Int) (i : Nat) : Int := ((fs.zip l).take i).foldl cutStep 0
def cut (fs : List Farm) (l : List Int) : Int := (fs.zip l).foldl cutStep 0
theorem cutUpto_succ {fs : List Farm} {l : List Int} {i : Nat} (h : i < fs.length) (h2 : i < l.length) : cutUpto fs l (i + 1) = cutStep (cutUpto fs l i) (fs[i], l.getD i 0) := by
  unfold cutUpto
  rw [take_zip_succ h h2, List.foldl_append]
  simp [List.getD, h2]
theorem cutUpto_all {fs : List Farm} {l : List Int} {i : Nat} (h : fs.length ≤ i) : cutUpto fs l i = cut fs l := by
  unfold cutUpto cut
  rw [List.take_of_length_le (by simp; omega)]
theorem cutFold_bound {fs : List (Farm × Int)} (hok : ∀ q ∈ fs, q.1.Ok) : ∀ x : Int, x ≤ fs.foldl cutStep x ∧ fs.foldl cutStep x ≤ x + 60 * fs.length := by
  induction fs with
  | nil => intro x; simp
  | cons q fs ih =>
    intro x
    have hq := hok q (.head _)
    unfold Farm.Ok at hq
    have := ih (fun q hq => hok q (.tail _ hq)) (cutStep x q)
    simp only [List.foldl_cons, List.length_cons, Int.natCast_add]
    unfold cutStep at this ⊢
    split at this <;> rename_i h1 <;> simp only [h1, if_true, if_false] at this ⊢ <;> omega
theorem cutUpto_bound {fs : List Farm} {l : List Int} (i : Nat) (hi : i ≤ 3) (hok : ∀ f ∈ fs, f.Ok) : 0 ≤ cutUpto fs l i ∧ cutUpto fs l i ≤ 180 := by
  have := cutFold_bound (fs := (fs.zip l).take i) (fun q hq => hok _ (List.of_mem_zip (List.mem_of_mem_take hq)).1) 0
  have hle : ((fs.zip l).take i).length ≤ i := by rw [List.length_take]; omega
  unfold cutUpto
  omega
/-- The days of Come, as loops come to them. -/
theorem days_len (p : Port) : p.days.length = (p.chi - p.clo + 1).toNat := by simp [Port.days]
theorem loads_len (p : Port) (l : List Int) : (loads p l).length = (p.chi - p.clo + 1).toNat := by simp [loads, days_len]
theorem loads_take_succ {p : Port} (l : List Int) {i : Nat} (hi : (i : Int) < p.chi - p.clo + 1) : (loads p l).take (i + 1) = (loads p l).take i ++ [on p.farms l (p.clo + i)] := by
  have h : i < (loads p l).length := by rw [loads_len]; omega
  rw [List.take_succ_eq_append_getElem h]
  simp [loads, Port.days]
def fullUpto (p : Port) (l : List Int) (i : Nat) : Bool := (p.days.take i).all fun d => decide (p.hold ≤ (on p.farms l d).least)
def neverUpto (p : Port) (l : List Int) (i : Nat) : Bool := (p.days.take i).all fun d => decide ((on p.farms l d).most < p.hold)
theorem days_take_succ {p : Port} {i : Nat} (hi : (i : Int) < p.chi - p.clo + 1) : p.days.take (i + 1) = p.days.take i ++ [p.clo + (i : Int)] := by
  have h : i < p.days.length := by rw [days_len]; omega
  rw [List.take_succ_eq_append_getElem h]
  simp [Port.days]
theorem fullUpto_succ {p : Port} (l : List Int) {i : Nat} (hi : (i : Int) < p.chi - p.clo + 1) : fullUpto p l (i + 1) = (fullUpto p l i && decide (p.hold ≤ (on p.farms l (p.clo + i)).least)) := by
  unfold fullUpto; rw [days_take_succ hi, List.all_append]; simp
theorem neverUpto_succ {p : Port} (l : List Int) {i : Nat} (hi : (i : Int) < p.chi - p.clo + 1) : neverUpto p l (i + 1) = (neverUpto p l i && decide ((on p.farms l (p.clo + i)).most < p.hold)) := by
  unfold neverUpto; rw [days_take_succ hi, List.all_append]; simp
theorem fullUpto_all {p : Port} (l : List Int) {i : Nat} (hi : p.chi - p.clo + 1 ≤ i) : fullUpto p l i = full p l := by
  unfold fullUpto full; rw [List.take_of_length_le (by rw [days_len]; omega)]
theorem neverUpto_all {p : Port} (l : List Int) {i : Nat} (hi : p.chi - p.clo + 1 ≤ i) : neverUpto p l i = never p l := by
  unfold neverUpto never; rw [List.take_of_length_le (by rw [days_len]; omega)]
theorem full_false {p : Port} (l : List Int) {i : Nat} (h : fullUpto p l i = false) : full p l = false := by
  unfold fullUpto at h; unfold full
  rw [List.all_eq_false] at h ⊢
  obtain ⟨x, hx, h⟩ := h
  exact ⟨x, List.mem_of_mem_take hx, h⟩
def vainUpto (p : Port) (l : List Int) (i : Nat) : Int := ((loads p l).take i).foldl (fun n x => max n x.vain) 0
theorem vainUpto_succ {p : Port} (l : List Int) {i : Nat} (hi : (i : Int) < p.chi - p.clo + 1) : vainUpto p l (i + 1) = max (vainUpto p l i) (on p.farms l (p.clo + i)).vain := by
  unfold vainUpto; rw [loads_take_succ l hi, List.foldl_append]; rfl
theorem vainUpto_all {p : Port} (l : List Int) {i : Nat} (hi : p.chi - p.clo + 1 ≤ i) : vainUpto p l i = vain p l := by
  unfold vainUpto vain; rw [List.take_of_length_le (by rw [loads_len]; omega)]
end Go.Rt
