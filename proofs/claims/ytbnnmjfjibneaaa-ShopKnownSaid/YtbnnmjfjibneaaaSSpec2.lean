/- Plain words of the shop layer: valid markets, which trains go, what sets of shops lack. No conditions. -/
import Derived.Test.YtbnnmjfjibneaaaSSpec1
set_option linter.unusedSimpArgs false
set_option linter.unusedVariables false
namespace Go.Rt.Sh
structure Market.Ok (m : Market) : Prop where
  lr : m.rooms.length ≤ 3
  ls : m.shops.length ≤ 4
  lt : m.trains.length ≤ 6
  room : ∀ r ∈ m.rooms, 0 ≤ r.lo ∧ r.lo ≤ r.hi ∧ r.hi ≤ 200 ∧ 0 ≤ r.fro ∧ r.fro ≤ r.las ∧ r.las ≤ 9
  shop : ∀ s ∈ m.shops, 0 ≤ s.day ∧ s.day ≤ 9 ∧ 1 ≤ s.want ∧ s.want ≤ 60
  train : ∀ t ∈ m.trains, 0 ≤ t.room ∧ t.room < m.rooms.length ∧ 0 ≤ t.shop ∧ t.shop < m.shops.length ∧ 0 ≤ t.days ∧ t.days ≤ 6 ∧ 1 ≤ t.cap ∧ t.cap ≤ 60
theorem firstE_zero {α : Type} (err : List α → α → Int) : ∀ (l b : List α) (i : Int), (firstE err b i l).2 = 0 → ∀ k (h : k < l.length), err (b ++ l.take k) l[k] = 0
  | [], _, _, _, k, h => by simp at h
  | x :: l, b, i, h, k, hk => by
    unfold firstE at h
    by_cases he : err b x = 0
    · rw [if_pos he] at h
      match k with
      | 0 => simpa using he
      | k + 1 =>
        have := firstE_zero err l (b ++ [x]) (i + 1) h k (by simpa using hk)
        simpa using this
    · rw [if_neg he] at h; exact absurd h he
theorem failE_zero {α : Type} {err : List α → α → Int} {most : Int} {l : List α} (h : (failE err most l).2 = 0) : (l.length : Int) ≤ most ∧ ∀ k (h : k < l.length), err (l.take k) l[k] = 0 := by
  unfold failE at h
  split at h
  · simp at h
  · exact ⟨by omega, fun k hk => by have := firstE_zero err l [] 0 h k hk; simpa using this⟩
theorem check_parts {m : Market} (h : (check m).2.2 = 0) : (failE roomE 3 m.rooms).2 = 0 ∧ (failE shopE 4 m.shops).2 = 0 ∧ (failE (trainE m) 6 m.trains).2 = 0 := by
  unfold check at h
  split at h
  · rename_i h1; exact absurd h h1
  · rename_i h1
    split at h
    · rename_i h2; exact absurd h h2
    · rename_i h2
      split at h
      · rename_i h3; exact absurd h h3
      · rename_i h3; exact ⟨by simpa using h1, by simpa using h2, by simpa using h3⟩
theorem check_zero {m : Market} (h : (check m).2.2 = 0) : check m = (0, 0, 0) := by
  obtain ⟨h1, h2, h3⟩ := check_parts h
  unfold check
  rw [if_neg (by simp [h1]), if_neg (by simp [h2]), if_neg (by simp [h3])]
theorem roomE_zero {b : List Room} {r : Room} (h : roomE b r = 0) : 0 ≤ r.lo ∧ r.lo ≤ r.hi ∧ r.hi ≤ 60 ∧ 0 ≤ r.fro ∧ r.fro ≤ r.las ∧ r.las ≤ 9 := by
  unfold roomE at h
  split at h
  · rename_i h1; exact absurd h h1
  · unfold roomOwn out at h
    simp only [Bool.or_eq_true, decide_eq_true_eq] at h
    split at h
    · omega
    · split at h <;> omega
theorem shopE_zero {b : List Shop} {s : Shop} (h : shopE b s = 0) : 0 ≤ s.day ∧ s.day ≤ 9 ∧ 1 ≤ s.want ∧ s.want ≤ 60 := by
  unfold shopE at h
  split at h
  · rename_i h1; exact absurd h h1
  · unfold shopOwn out at h
    simp only [Bool.or_eq_true, decide_eq_true_eq] at h
    split at h <;> omega
theorem trainE_zero {m : Market} {b : List Train} {t : Train} (h : trainE m b t = 0) : 0 ≤ t.room ∧ t.room < m.rooms.length ∧ 0 ≤ t.shop ∧ t.shop < m.shops.length ∧ 0 ≤ t.days ∧ t.days ≤ 5 ∧ 1 ≤ t.cap ∧ t.cap ≤ 60 := by
  unfold trainE out at h
  simp only [Bool.or_eq_true, decide_eq_true_eq] at h
  split at h
  · omega
  · split at h <;> omega
theorem check_ok {m : Market} (h : (check m).2.2 = 0) : m.Ok := by
  obtain ⟨h1, h2, h3⟩ := check_parts h
  have f1 := failE_zero h1
  have f2 := failE_zero h2
  have f3 := failE_zero h3
  refine ⟨by omega, by omega, by omega, fun r hr => ?_, fun s hs => ?_, fun t ht => ?_⟩
  · obtain ⟨k, hk, rfl⟩ := List.getElem_of_mem hr
    have := roomE_zero (f1.2 k hk); omega
  · obtain ⟨k, hk, rfl⟩ := List.getElem_of_mem hs
    have := shopE_zero (f2.2 k hk); omega
  · obtain ⟨k, hk, rfl⟩ := List.getElem_of_mem ht
    have := trainE_zero (f3.2 k hk); omega
/-- Whether a train goes. -/
def leaves (m : Market) (t : Train) : Bool := match m.rooms[t.room.toNat]?, m.shops[t.shop.toNat]? with
  | some r, some s => !out r.fro r.las (s.day - t.days)
  | _, _ => false
theorem leaves_at {m : Market} {t : Train} (h1 : t.room.toNat < m.rooms.length) (h2 : t.shop.toNat < m.shops.length) : leaves m t = !out m.rooms[t.room.toNat].fro m.rooms[t.room.toNat].las (m.shops[t.shop.toNat].day - t.days) := by
  unfold leaves; rw [List.getElem?_eq_getElem h1, List.getElem?_eq_getElem h2]
/-- A bit of a set. -/
def bit (b j : Nat) : Nat := (b >>> j) &&& 1
theorem bit_le (b j : Nat) : bit b j ≤ 1 := by unfold bit; exact Nat.and_le_right
/-- What sets lack, as the program sums it: hands of three rooms, wants of four shops, the first train. -/
def capsU (m : Market) (fro : Int) (b : Nat) : Nat → List Int
  | 0 => [0, 0, 0]
  | i + 1 => match m.trains[i]? with
    | some t => if (i : Int) < fro ∨ bit b t.shop.toNat = 0 ∨ leaves m t = false then capsU m fro b i else (capsU m fro b i).set t.room.toNat ((capsU m fro b i).getD t.room.toNat 0 + t.cap)
    | none => capsU m fro b i
def wantU (x : List Int) (b : Nat) : Nat → Int
  | 0 => 0
  | i + 1 => wantU x b i + x.getD (3 + i) 0 * (bit b i : Int)
def handU (c x : List Int) : Nat → Int
  | 0 => 0
  | i + 1 => handU c x i + min (c.getD i 0) (x.getD i 0)
def lackB (m : Market) (x : List Int) (b : Nat) : Int := wantU x b 4 - handU (capsU m (x.getD 7 0) b m.trains.length) x 3
def lacksV (m : Market) (x : List Int) : List Int := (List.range 16).map (lackB m x)
def lacksTo (m : Market) (x : List Int) (b : Nat) : List Int := (List.range 16).map fun k => if k < b then lackB m x k else 0
theorem lacksTo_len (m : Market) (x : List Int) (b : Nat) : (lacksTo m x b).length = 16 := by simp [lacksTo]
theorem lacksV_len (m : Market) (x : List Int) : (lacksV m x).length = 16 := by simp [lacksV]
theorem lacksTo_zero (m : Market) (x : List Int) : lacksTo m x 0 = List.replicate 16 0 := by
  rfl
theorem lacksTo_all (m : Market) (x : List Int) : lacksTo m x 16 = lacksV m x := by
  unfold lacksTo lacksV
  refine List.map_congr_left fun k hk => ?_
  rw [List.mem_range] at hk
  rw [if_pos hk]
theorem lacksTo_succ {m : Market} {x : List Int} {b : Nat} (hb : b < 16) : (lacksTo m x b).set b (lackB m x b) = lacksTo m x (b + 1) := by
  unfold lacksTo
  apply List.ext_getElem (by simp)
  intro i h1 h2
  rw [List.getElem_set]
  simp only [List.getElem_map, List.getElem_range]
  by_cases h : b = i
  · subst h; simp
  · rw [if_neg h]
    by_cases h2 : i < b
    · rw [if_pos h2, if_pos (by omega)]
    · rw [if_neg h2, if_neg (by omega)]
theorem lacksTo_here {m : Market} {x : List Int} {b : Nat} : (lacksTo m x b).getD b 0 = 0 := by
  unfold lacksTo
  by_cases h : b < 16
  · simp [List.getD, h]
  · simp [List.getD, h]
theorem capsU_len (m : Market) (fro : Int) (b : Nat) : ∀ i, (capsU m fro b i).length = 3
  | 0 => rfl
  | i + 1 => by
    unfold capsU
    cases m.trains[i]? with
    | none => exact capsU_len m fro b i
    | some t => dsimp only; split
                · exact capsU_len m fro b i
                · rw [List.length_set]; exact capsU_len m fro b i
theorem capsU_skip {m : Market} {fro : Int} {b i : Nat} (hi : i < m.trains.length) (h : (i : Int) < fro ∨ bit b m.trains[i].shop.toNat = 0 ∨ leaves m m.trains[i] = false) : capsU m fro b (i + 1) = capsU m fro b i := by
  simp only [capsU, List.getElem?_eq_getElem hi, if_pos h]
theorem capsU_add {m : Market} {fro : Int} {b i : Nat} (hi : i < m.trains.length) (h : ¬ ((i : Int) < fro ∨ bit b m.trains[i].shop.toNat = 0 ∨ leaves m m.trains[i] = false)) : capsU m fro b (i + 1) = (capsU m fro b i).set m.trains[i].room.toNat ((capsU m fro b i).getD m.trains[i].room.toNat 0 + m.trains[i].cap) := by
  simp only [capsU, List.getElem?_eq_getElem hi, if_neg h]
theorem capsU_bound {m : Market} (hok : m.Ok) (fro : Int) (b : Nat) : ∀ i, i ≤ m.trains.length → ∀ z ∈ capsU m fro b i, 0 ≤ z ∧ z ≤ 60 * (i : Int)
  | 0, _, z, hz => by simp [capsU] at hz; omega
  | i + 1, hi, z, hz => by
    have ih := capsU_bound hok fro b i (by omega)
    have ht := hok.train _ (List.getElem_mem (show i < m.trains.length by omega))
    by_cases h : (i : Int) < fro ∨ bit b (m.trains[i]'(by omega)).shop.toNat = 0 ∨ leaves m (m.trains[i]'(by omega)) = false
    · rw [capsU_skip (by omega) h] at hz
      have := ih z hz; omega
    · rw [capsU_add (by omega) h] at hz
      rcases List.mem_or_eq_of_mem_set hz with h1 | h1
      · have := ih z h1; omega
      · have hg : 0 ≤ (capsU m fro b i).getD (m.trains[i]'(by omega)).room.toNat 0 ∧ (capsU m fro b i).getD (m.trains[i]'(by omega)).room.toNat 0 ≤ 60 * (i : Int) := by
          by_cases hl : (m.trains[i]'(by omega)).room.toNat < (capsU m fro b i).length
          · have := ih _ (List.getElem_mem hl); simpa [List.getD, hl] using this
          · simp [List.getD, hl]; omega
        omega
theorem getD_in {l : List Int} {a b : Int} (ha : a ≤ 0) (hb : 0 ≤ b) (h : ∀ z ∈ l, a ≤ z ∧ z ≤ b) (i : Nat) : a ≤ l.getD i 0 ∧ l.getD i 0 ≤ b := by
  by_cases hl : i < l.length
  · have := h _ (List.getElem_mem hl); simpa [List.getD, hl] using this
  · simp [List.getD, hl]; omega
theorem mul_bit {a n : Int} {b j : Nat} (ha : 0 ≤ a) (h : -a ≤ n ∧ n ≤ a) : -a ≤ n * (bit b j : Int) ∧ n * (bit b j : Int) ≤ a := by
  have h1 := bit_le b j
  have h2 : bit b j = 0 ∨ bit b j = 1 := by omega
  rcases h2 with h2 | h2
  · rw [h2]; simp; omega
  · rw [h2]; simp; omega
theorem wantU_bound {x : List Int} (hx : ∀ z ∈ x, -10000 ≤ z ∧ z ≤ 10000) (b : Nat) : ∀ i : Nat, -(10000 * (i : Int)) ≤ wantU x b i ∧ wantU x b i ≤ 10000 * (i : Int)
  | 0 => by simp [wantU]
  | i + 1 => by
    have ih := wantU_bound hx b i
    have h1 := getD_in (by omega) (by omega) hx (3 + i)
    have h2 := mul_bit (b := b) (j := i) (a := 10000) (by omega) h1
    unfold wantU
    omega
theorem handU_bound {c x : List Int} (hc : ∀ z ∈ c, -10000 ≤ z ∧ z ≤ 10000) (hx : ∀ z ∈ x, -10000 ≤ z ∧ z ≤ 10000) : ∀ i : Nat, -(10000 * (i : Int)) ≤ handU c x i ∧ handU c x i ≤ 10000 * (i : Int)
  | 0 => by simp [handU]
  | i + 1 => by
    have ih := handU_bound hc hx i
    have h1 := getD_in (by omega) (by omega) hx i
    have h2 := getD_in (by omega) (by omega) hc i
    unfold handU
    omega
end Go.Rt.Sh
