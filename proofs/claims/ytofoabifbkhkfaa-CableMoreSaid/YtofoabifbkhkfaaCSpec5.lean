/- Plain words of the cable layer: what is told late. No conditions. -/
import Derived.Test.YtofoabifbkhkfaaCSpec4
set_option linter.unusedSimpArgs false
namespace Go.Rt
theorem vainUpto_get {p : Port} {l : List Int} {i : Nat} (hi : i < (loads p l).length) : max (vainUpto p l i) (loads p l)[i].vain = vainUpto p l (i + 1) := by
  unfold vainUpto; rw [List.take_succ_eq_append_getElem hi, List.foldl_append]; rfl
theorem iv1 {a b : Int} (h : a = b) : [Value.int .i64 a] = [Value.int .i64 b] := by rw [h]
theorem iv2 {a b c d : Int} (h : a = b) (k : c = d) : [Value.int .i64 a, Value.int .i64 c] = [Value.int .i64 b, Value.int .i64 d] := by rw [h, k]
def canLate (f : Farm) (start day : Int) : Bool := decide (start ≤ min 10 (day - f.way - f.notice)) && fresh f (min 10 (day - f.way - f.notice)) day
def moreStep (start day : Int) (n : Int) (q : Farm × Int) : Int := if q.2 = -1 ∧ canLate q.1 start day = true then n + q.1.lo else n
def leastUpto (fs : List Farm) (g : List Int) (start day : Int) (i : Nat) : Int := ((fs.zip g).take i).foldl (moreStep start day) (on fs g day).least
def leastT (fs : List Farm) (g : List Int) (start day : Int) : Int := (fs.zip g).foldl (moreStep start day) (on fs g day).least
theorem leastUpto_succ {fs : List Farm} {l : List Int} {i : Nat} (start day : Int) (h : i < fs.length) (h2 : i < l.length) : leastUpto fs l start day (i + 1) = moreStep start day (leastUpto fs l start day i) (fs[i], l.getD i 0) := by
  unfold leastUpto
  rw [take_zip_succ h h2, List.foldl_append]
  simp [List.getD, h2]
theorem leastUpto_all {fs : List Farm} {l : List Int} {i : Nat} (start day : Int) (h : fs.length ≤ i) : leastUpto fs l start day i = leastT fs l start day := by
  unfold leastUpto leastT
  rw [List.take_of_length_le (by simp; omega)]
theorem more_bound {fs : List (Farm × Int)} (start day : Int) (hok : ∀ q ∈ fs, q.1.Ok) : ∀ x : Int, x ≤ fs.foldl (moreStep start day) x ∧ fs.foldl (moreStep start day) x ≤ x + 60 * fs.length := by
  induction fs with
  | nil => intro x; simp
  | cons q fs ih =>
    intro x
    have hq := hok q (.head _)
    unfold Farm.Ok at hq
    have := ih (fun q hq => hok q (.tail _ hq)) (moreStep start day x q)
    simp only [List.foldl_cons, List.length_cons, Int.natCast_add]
    unfold moreStep at this ⊢
    split at this <;> rename_i h1 <;> simp only [h1, and_self, if_true, if_false] at this ⊢ <;> omega
theorem leastUpto_bound {fs : List Farm} {l : List Int} (start day : Int) (i : Nat) (hi : i ≤ 3) (h3 : fs.length ≤ 3) (hok : ∀ f ∈ fs, f.Ok) : 0 ≤ leastUpto fs l start day i ∧ leastUpto fs l start day i ≤ 360 := by
  have := more_bound (fs := (fs.zip l).take i) start day (fun q hq => hok _ (List.of_mem_zip (List.mem_of_mem_take hq)).1) (on fs l day).least
  have hle : ((fs.zip l).take i).length ≤ i := by rw [List.length_take]; omega
  have hb := on_bound (l := l) day h3 hok
  unfold leastUpto
  omega
theorem more_yes {f : Farm} {c start day n : Int} (h : c = -1) (h2 : start ≤ min 10 (day - f.way - f.notice)) (h3 : fresh f (min 10 (day - f.way - f.notice)) day = true) : n + f.lo = moreStep start day n (f, c) := by
  unfold moreStep canLate; rw [if_pos ⟨h, by simp [h2, h3]⟩]
theorem more_no {f : Farm} {c start day n : Int} (h : ¬ (c = -1 ∧ start ≤ min 10 (day - f.way - f.notice) ∧ fresh f (min 10 (day - f.way - f.notice)) day = true)) : n = moreStep start day n (f, c) := by
  unfold moreStep canLate; rw [if_neg]; intro h2; apply h; simpa using h2
def fullTUpto (p : Port) (g : List Int) (start : Int) (i : Nat) : Bool := (p.days.take i).all fun d => decide (p.hold ≤ leastT p.farms g start d)
def fullT (p : Port) (g : List Int) (start : Int) : Bool := p.days.all fun d => decide (p.hold ≤ leastT p.farms g start d)
theorem fullTUpto_succ {p : Port} (l : List Int) (start : Int) {i : Nat} (hi : (i : Int) < p.chi - p.clo + 1) : fullTUpto p l start (i + 1) = (fullTUpto p l start i && decide (p.hold ≤ leastT p.farms l start (p.clo + i))) := by
  unfold fullTUpto; rw [days_take_succ hi, List.all_append]; simp
theorem fullTUpto_all {p : Port} (l : List Int) (start : Int) {i : Nat} (hi : p.chi - p.clo + 1 ≤ i) : fullTUpto p l start i = fullT p l start := by
  unfold fullTUpto fullT; rw [List.take_of_length_le (by rw [days_len]; omega)]
theorem fullT_false {p : Port} (l : List Int) (start : Int) {i : Nat} (h : fullTUpto p l start i = false) : fullT p l start = false := by
  unfold fullTUpto at h; unfold fullT
  rw [List.all_eq_false] at h ⊢
  obtain ⟨x, hx, h⟩ := h
  exact ⟨x, List.mem_of_mem_take hx, h⟩
def worst (p : Port) (g : List Int) (start : Int) : Int := if fullT p g start then vain p g else -1
end Go.Rt
