/- Plain words of the cable layer's reference: all cables made from the left, which come before others. No conditions. -/
import Derived.Test.YtofoabifbkhkfaaCSpec10
set_option linter.unusedSimpArgs false
namespace Go.Rt
theorem seg_snoc {ds : List Int} : ∀ (n : Nat) (pre : List Int), seg ds (n + 1) pre = (seg ds n pre).flatMap fun x => ds.map fun d => x ++ [d]
  | 0, pre => by
    simp only [seg, List.flatMap_cons, List.flatMap_nil, List.append_nil]
    induction ds with
    | nil => rfl
    | cons d ds ih => simp [List.flatMap_cons] at ih ⊢; exact ih
  | n + 1, pre => by
    have h1 : seg ds (n + 1 + 1) pre = ds.flatMap fun d => seg ds (n + 1) (pre ++ [d]) := rfl
    have h2 : seg ds (n + 1) pre = ds.flatMap fun d => seg ds n (pre ++ [d]) := rfl
    rw [h1, h2, List.flatMap_assoc]
    congr 1
    funext d
    exact seg_snoc n (pre ++ [d])
/-- What the reference has of the next lists behind k of the last ones, and q days of the next one. -/
def grow (ds : List Int) (l : List (List Int)) (k : Nat) : List (List Int) := (l.take k).flatMap fun x => ds.map fun d => x ++ [d]
theorem grow_zero (ds : List Int) (l : List (List Int)) : grow ds l 0 = [] := rfl
theorem grow_all (ds : List Int) (l : List (List Int)) {k : Nat} (h : l.length ≤ k) : grow ds l k = l.flatMap fun x => ds.map fun d => x ++ [d] := by unfold grow; rw [List.take_of_length_le h]
theorem grow_succ (ds : List Int) {l : List (List Int)} {k : Nat} (h : k < l.length) : grow ds l (k + 1) = grow ds l k ++ ds.map fun d => l[k] ++ [d] := by
  unfold grow; rw [List.take_succ_eq_append_getElem h, List.flatMap_append]; simp
def growDay (ds : List Int) (l : List (List Int)) (k q : Nat) (x : List Int) : List (List Int) := grow ds l k ++ (List.range q).map fun (d : Nat) => x ++ [(d : Int)]
theorem growDay_zero (ds : List Int) (l : List (List Int)) (k : Nat) (x : List Int) : growDay ds l k 0 x = grow ds l k := by simp [growDay]
theorem growDay_succ (ds : List Int) (l : List (List Int)) (k q : Nat) (x : List Int) : growDay ds l k (q + 1) x = growDay ds l k q x ++ [x ++ [(q : Int)]] := by simp [growDay, List.range_succ]
theorem growDay_all {below : Nat} {l : List (List Int)} {k : Nat} (h : k < l.length) : grow (dys below) l (k + 1) = growDay (dys below) l k below l[k] ++ [l[k] ++ [-1]] := by
  rw [grow_succ (dys below) h]; simp [growDay, dys]
theorem flat_len {α β : Type} {f : α → List β} {m : Nat} : ∀ (l : List α), (∀ x ∈ l, (f x).length = m) → (l.flatMap f).length = l.length * m
  | [], _ => by simp
  | a :: l, h => by
    rw [List.flatMap_cons, List.length_append, h a (.head _), flat_len l fun x hx => h x (.tail _ hx), List.length_cons, Nat.succ_mul, Nat.add_comm]
theorem seg_count {ds : List Int} : ∀ (n : Nat) (pre : List Int), (seg ds n pre).length = ds.length ^ n
  | 0, pre => by simp [seg]
  | n + 1, pre => by
    simp only [seg]
    rw [flat_len (m := ds.length ^ n) ds fun d _ => seg_count n _, Nat.pow_succ, Nat.mul_comm]
theorem seg_small {below n : Nat} (hb : below ≤ 11) (hn : n ≤ 2) (pre : List Int) : (seg (dys below) n pre).length ≤ 144 := by
  rw [seg_count, dys_len]
  have h1 : (below + 1) ^ n ≤ 12 ^ n := Nat.pow_le_pow_left (by omega) n
  have h2 : 12 ^ n ≤ 12 ^ 2 := Nat.pow_le_pow_right (by omega) hn
  omega
theorem grow_len (below : Nat) (l : List (List Int)) (k : Nat) (hb : below ≤ 11) (hl : l.length ≤ 144) : (grow (dys below) l k).length ≤ 1728 := by
  unfold grow
  rw [flat_len (m := (dys below).length) _ fun x _ => by simp, dys_len, List.length_take]
  have : min k l.length * (below + 1) ≤ 144 * 12 := Nat.mul_le_mul (by omega) (by omega)
  omega
theorem growDay_len (below : Nat) (l : List (List Int)) (k q : Nat) (x : List Int) (hb : below ≤ 11) (hl : l.length ≤ 144) (hq : q ≤ 12) : (growDay (dys below) l k q x).length ≤ 1740 := by
  unfold growDay
  have := grow_len below l k hb hl
  simp; omega
/-- Whether days come before other ones, as a list; no day is behind all days. -/
def beforeL : List Int → List Int → Bool
  | x :: a, y :: b => if x = y then beforeL a b else (decide (y = -1) || (!decide (x = -1) && decide (x < y)))
  | _, _ => false
def before (p : Port) (a b : List Int) : Bool :=
  if vain p a = vain p b then (if cut p.farms a = cut p.farms b then beforeL a b else decide (cut p.farms a < cut p.farms b)) else decide (vain p a < vain p b)
theorem beforeL_at : ∀ (a b : List Int) (i : Nat), a.take i = b.take i → i ≤ a.length → i ≤ b.length → beforeL a b = beforeL (a.drop i) (b.drop i)
  | _, _, 0, _, _, _ => rfl
  | [], _, i + 1, _, h, _ => by simp at h
  | _ :: _, [], i + 1, _, _, h => by simp at h
  | x :: a, y :: b, i + 1, h, h1, h2 => by
    simp only [List.take_succ_cons, List.cons.injEq] at h
    simp only [beforeL, h.1, if_true, List.drop_succ_cons]
    exact beforeL_at a b i h.2 (by simpa using h1) (by simpa using h2)
theorem beforeL_here {a b : List Int} {i : Nat} (h : a.take i = b.take i) (ha : i < a.length) (hb : i < b.length) (hne : ¬ a[i] = b[i]) : beforeL a b = (decide (b[i] = -1) || (!decide (a[i] = -1) && decide (a[i] < b[i]))) := by
  rw [beforeL_at a b i h (by omega) (by omega), List.drop_eq_getElem_cons ha, List.drop_eq_getElem_cons hb]
  simp only [beforeL, if_neg hne]
theorem beforeL_end {a b : List Int} {i : Nat} (h : a.take i = b.take i) (ha : i = a.length) (hb : i ≤ b.length) : beforeL a b = false := by
  rw [beforeL_at a b i h (by omega) hb, ha, List.drop_length]; rfl
end Go.Rt
