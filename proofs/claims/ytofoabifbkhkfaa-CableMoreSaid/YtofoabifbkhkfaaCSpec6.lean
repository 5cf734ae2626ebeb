/- Plain words of the cable layer: all cables, in order. No conditions. -/
import Derived.Test.YtofoabifbkhkfaaCSpec5
set_option linter.unusedSimpArgs false
namespace Go.Rt
/-- The days below one, and none. -/
def dys (below : Nat) : List Int := (List.range below).map (fun k : Nat => (k : Int)) ++ [-1]
def seg (ds : List Int) : Nat → List Int → List (List Int)
  | 0, pre => [pre]
  | n + 1, pre => ds.flatMap fun d => seg ds n (pre ++ [d])
theorem dys_len (below : Nat) : (dys below).length = below + 1 := by simp [dys]
theorem dys_get {below q : Nat} (h : q < below + 1) : (dys below)[q]? = some (if q = below then -1 else (q : Int)) := by
  unfold dys
  by_cases hq : q = below
  · subst hq; simp
  · have hlt : q < below := by omega
    rw [List.getElem?_append_left (by simpa using hlt)]; simp [hq, hlt]
theorem dys_drop {below q : Nat} (h : q < below + 1) : (dys below).drop q = (if q = below then -1 else (q : Int)) :: (dys below).drop (q + 1) := by
  have hl : q < (dys below).length := by rw [dys_len]; exact h
  rw [List.drop_eq_getElem_cons hl]
  have := dys_get h
  rw [List.getElem?_eq_getElem hl] at this
  rw [Option.some.inj this]
theorem dys_end (below : Nat) : (dys below).drop (below + 1) = [] := List.drop_of_length_le (by rw [dys_len]; omega)
theorem dys_in {below : Nat} {x : Int} (h : x ∈ dys below) : -1 ≤ x ∧ x < below := by
  unfold dys at h
  rcases List.mem_append.1 h with h | h
  · obtain ⟨k, hk, rfl⟩ := List.mem_map.1 h
    rw [List.mem_range] at hk; omega
  · rw [List.mem_singleton] at h; omega
theorem dys_nodup (below : Nat) : (dys below).Nodup := by
  unfold dys
  rw [List.nodup_append]
  refine ⟨?_, by simp, ?_⟩
  · rw [List.Nodup, List.pairwise_map]
    exact (List.nodup_range (n := below)).imp fun h e => h (by omega)
  · intro a ha b hb
    obtain ⟨k, _, rfl⟩ := List.mem_map.1 ha
    rw [List.mem_singleton] at hb
    omega
theorem seg_len {ds : List Int} : ∀ (n : Nat) (pre x : List Int), x ∈ seg ds n pre → x.length = pre.length + n
  | 0, pre, x, h => by simp only [seg, List.mem_singleton] at h; subst h; simp
  | n + 1, pre, x, h => by
    simp only [seg, List.mem_flatMap] at h
    obtain ⟨d, _, h⟩ := h
    have := seg_len n _ _ h
    simp at this; omega
theorem seg_take {ds : List Int} : ∀ (n : Nat) (pre x : List Int), x ∈ seg ds n pre → x.take pre.length = pre
  | 0, pre, x, h => by simp only [seg, List.mem_singleton] at h; subst h; simp
  | n + 1, pre, x, h => by
    simp only [seg, List.mem_flatMap] at h
    obtain ⟨d, _, h⟩ := h
    have := congrArg (List.take pre.length) (seg_take n _ _ h)
    simpa [List.take_take] using this
theorem nodup_flat {α β : Type} {f : α → List β} : ∀ (l : List α), l.Nodup → (∀ a ∈ l, (f a).Nodup) → (∀ a ∈ l, ∀ b ∈ l, a ≠ b → ∀ x ∈ f a, x ∉ f b) → (l.flatMap f).Nodup
  | [], _, _, _ => by simp
  | a :: l, hn, h1, h2 => by
    rw [List.flatMap_cons, List.nodup_append]
    rw [List.nodup_cons] at hn
    refine ⟨h1 a (.head _), nodup_flat l hn.2 (fun b hb => h1 b (.tail _ hb)) (fun b hb c hc => h2 b (.tail _ hb) c (.tail _ hc)), ?_⟩
    intro x hx y hy e
    subst e
    obtain ⟨b, hb, hxb⟩ := List.mem_flatMap.1 hy
    exact h2 a (.head _) b (.tail _ hb) (fun e => hn.1 (e ▸ hb)) x hx hxb
theorem seg_nodup {ds : List Int} (hd : ds.Nodup) : ∀ (n : Nat) (pre : List Int), (seg ds n pre).Nodup
  | 0, pre => by simp [seg]
  | n + 1, pre => by
    simp only [seg]
    refine nodup_flat ds hd (fun d _ => seg_nodup hd n _) ?_
    intro a _ b _ hab x hx hy
    have h1 := seg_take n _ _ hx
    have h2 := seg_take n _ _ hy
    simp only [List.length_append, List.length_singleton] at h1 h2
    rw [h1] at h2
    have := List.append_cancel_left h2
    simp at this
    exact hab this
theorem seg_mem {ds : List Int} : ∀ (n : Nat) (pre x : List Int), x ∈ seg ds n pre → ∀ y ∈ x, y ∈ pre ∨ y ∈ ds
  | 0, pre, x, h, y, hy => by simp only [seg, List.mem_singleton] at h; subst h; exact .inl hy
  | n + 1, pre, x, h, y, hy => by
    simp only [seg, List.mem_flatMap] at h
    obtain ⟨d, hd, h⟩ := h
    rcases seg_mem n _ _ h y hy with h1 | h1
    · rcases List.mem_append.1 h1 with h2 | h2
      · exact .inl h2
      · rw [List.mem_singleton] at h2; subst h2; exact .inr hd
    · exact .inr h1
theorem seg_all {ds : List Int} : ∀ (n : Nat) (pre x : List Int), (∀ y ∈ x, y ∈ ds) → x.length = n → pre ++ x ∈ seg ds n pre
  | 0, pre, x, _, h => by simp only [List.length_eq_zero_iff] at h; subst h; simp [seg]
  | n + 1, pre, [], _, h => by simp at h
  | n + 1, pre, y :: x, hm, h => by
    simp only [seg, List.mem_flatMap]
    refine ⟨y, hm y (.head _), ?_⟩
    have := seg_all n (pre ++ [y]) x (fun z hz => hm z (.tail _ hz)) (by simpa using h)
    simpa using this
/-- All cables. -/
def allC (below n : Nat) : List (List Int) := seg (dys below) n []
theorem all_len {below n : Nat} {x : List Int} (h : x ∈ allC below n) : x.length = n := by have := seg_len _ _ _ h; simpa using this
theorem all_in {below n : Nat} {x : List Int} (h : x ∈ allC below n) : ∀ y ∈ x, -1 ≤ y ∧ y < below := by
  intro y hy
  rcases seg_mem _ _ _ h y hy with h1 | h1
  · simp at h1
  · exact dys_in h1
theorem pad_take {x : List Int} (h : x.length ≤ 3) : (pad x).take x.length = x := by
  unfold pad
  rw [List.take_of_length_le h, List.take_left' rfl]
theorem pad_inj {x y : List Int} (hx : x.length ≤ 3) (h : x.length = y.length) (e : pad x = pad y) : x = y := by
  rw [← pad_take hx, ← pad_take (x := y) (by omega), e, h]
theorem allpad_nodup {below n : Nat} (h : n ≤ 3) : ((allC below n).map pad).Nodup := by
  rw [List.Nodup, List.pairwise_map]
  refine (seg_nodup (dys_nodup below) n []).imp_of_mem ?_
  intro a b ha hb hab e
  exact hab (pad_inj (by rw [all_len (below := below) ha]; exact h) (by rw [all_len (below := below) ha, all_len (below := below) hb]) e)
theorem pad_nz {x : List Int} (hx : ∀ y ∈ x, -1 ≤ y) : pad x ≠ [-2, 0, 0] := by
  intro e
  have : (-2 : Int) ∈ pad x := by rw [e]; simp
  unfold pad at this
  rcases List.mem_append.1 this with h | h
  · have := hx _ (List.mem_of_mem_take h); omega
  · have := List.mem_of_mem_drop h; simp at this
theorem start_notin {below n : Nat} : ([-2, 0, 0] : List Int) ∉ (allC below n).map pad := by
  intro h
  obtain ⟨x, hx, e⟩ := List.mem_map.1 h
  exact pad_nz (fun y hy => (all_in hx y hy).1) e
/-- What is kept of cables that are filled in from the left. -/
theorem cur_pad {cur pre : List Int} {n : Nat} (hc : cur.length = 3) (hn : pre.length = n) (h3 : n ≤ 3) (hk : cur.take n = pre) (hz : ∀ j, n ≤ j → cur.getD j 0 = 0) : cur = pad pre := by
  apply List.ext_getElem?
  intro j
  unfold pad
  rw [List.take_of_length_le (by omega)]
  by_cases hj : j < n
  · rw [List.getElem?_append_left (by omega), ← hk, List.getElem?_take, if_pos hj]
  · rw [List.getElem?_append_right (by omega), List.getElem?_drop]
    by_cases h3j : j < 3
    · have h1 := hz j (by omega)
      have h2 : cur[j]? = some 0 := by
        rw [List.getElem?_eq_getElem (by omega)]
        simpa [List.getD, show j < cur.length by omega] using h1
      rw [h2, show pre.length + (j - pre.length) = j by omega]
      match j, h3j with
      | 0, _ => rfl
      | 1, _ => rfl
      | 2, _ => rfl
    · rw [List.getElem?_eq_none (by omega), List.getElem?_eq_none (by simp; omega)]
theorem set_take {cur pre : List Int} {d : Nat} (z : Int) (hk : cur.take d = pre) (hd : d < cur.length) : (cur.set d z).take (d + 1) = pre ++ [z] := by
  rw [List.take_succ_eq_append_getElem (by simpa using hd), List.take_set_of_le (by omega), hk]; simp
theorem set_keep {cur pre : List Int} {d : Nat} (z : Int) (hk : cur.take d = pre) : (cur.set d z).take d = pre := by rw [List.take_set_of_le (by omega), hk]
theorem set_zero {cur : List Int} {d n : Nat} (z : Int) (hd : d < n) (hz : ∀ j, n ≤ j → cur.getD j 0 = 0) : ∀ j, n ≤ j → (cur.set d z).getD j 0 = 0 := by
  intro j hj
  have := hz j hj
  simp only [List.getD_eq_getElem?_getD, List.getElem?_set] at this ⊢
  rw [if_neg (by omega)]; exact this
theorem take_less {cur pre : List Int} {d : Nat} {z : Int} (h : cur.take (d + 1) = pre ++ [z]) (hp : pre.length = d) : cur.take d = pre := by
  have := congrArg (List.take d) h
  rw [List.take_take, Nat.min_eq_left (by omega)] at this
  rw [this, ← hp, List.take_left' rfl]
theorem drop_next {α : Type} {l : List α} {i : Nat} {x : α} {r : List α} (h : l.drop i = x :: r) : l.drop (i + 1) = r := by
  rw [← List.tail_drop, h]; rfl
theorem drop_lt {α : Type} {l : List α} {i : Nat} {x : α} {r : List α} (h : l.drop i = x :: r) : i < l.length := by
  rcases Nat.lt_or_ge i l.length with h1 | h1
  · exact h1
  · rw [List.drop_of_length_le h1] at h; cases h
theorem drop_get {α : Type} {l : List α} {i : Nat} {x : α} {r : List α} (h : l.drop i = x :: r) : l[i]'(drop_lt h) = x := by
  have := List.drop_eq_getElem_cons (drop_lt h)
  rw [h] at this
  exact (List.cons.inj this).1.symm
theorem drop_notin {α : Type} {l : List α} {i : Nat} {x : α} {r : List α} (hn : l.Nodup) (h : l.drop i = x :: r) : x ∉ r := by
  have : (l.drop i).Nodup := hn.sublist (List.drop_sublist _ _)
  rw [h, List.nodup_cons] at this
  exact this.1
theorem drop_done {α : Type} {l : List α} {i : Nat} (hi : i ≤ l.length) (h : l.drop i = []) : i = l.length := by
  have := congrArg List.length h
  rw [List.length_drop] at this
  simp at this; omega
/-- The cables that do. -/
def doC (p : Port) : List (List Int) := (allC 11 p.farms.length).filter fun l => full p l
end Go.Rt
