/- Plain words of the shop layer: what the program's help functions return, as they go. No conditions. -/
import Derived.Test.YtbnnmjfjibneaaaSSpec2
import Derived.Test.YtbnnmjfjibneaaaEng11
set_option linter.unusedSimpArgs false
set_option linter.unusedVariables false
namespace Go.Rt.Sh
/-- The error with which a market and numbers of things below n are taken. -/
def enterE (m : Market) (n : Int) (l : List Int) : Int := if (check m).2.2 ≠ 0 then (check m).2.2 else if l.any (out 0 (n - 1)) then 4 else 0
theorem enterE_1 {m : Market} {n : Int} {l : List Int} (h : ¬ (check m).2.2 = 0) : enterE m n l = (check m).2.2 := by unfold enterE; rw [if_pos h]
theorem enterE_2 {m : Market} {n : Int} {l : List Int} (h : (check m).2.2 = 0) (h2 : l.any (out 0 (n - 1)) = true) : enterE m n l = 4 := by unfold enterE; rw [if_neg (by simpa using h), if_pos h2]
theorem enterE_0 {m : Market} {n : Int} {l : List Int} (h : (check m).2.2 = 0) (h2 : l.any (out 0 (n - 1)) = false) : enterE m n l = 0 := by unfold enterE; rw [if_neg (by simpa using h), if_neg (by simp [h2])]
theorem enterE_ok {m : Market} {n : Int} {l : List Int} (h : enterE m n l = 0) : (check m).2.2 = 0 ∧ ∀ x ∈ l, 0 ≤ x ∧ x < n := by
  unfold enterE at h
  split at h
  · rename_i h1; exact absurd h h1
  · rename_i h1
    split at h
    · cases h
    · rename_i h2
      refine ⟨by simpa using h1, fun x hx => ?_⟩
      have : out 0 (n - 1) x = false := by
        cases hh : out 0 (n - 1) x with
        | false => rfl
        | true => exact absurd (List.any_eq_true.2 ⟨x, hx, hh⟩) h2
      simp [out] at this
      omega
theorem enterE_nil {m : Market} {n : Int} : enterE m n [] = (check m).2.2 := by
  unfold enterE
  split
  · rfl
  · rename_i h; simp at h ⊢; exact h.symm
/-- Those below n that are in a set, as a list. -/
def listL (b : Nat) : Nat → List Int
  | 0 => []
  | n + 1 => listL b n ++ if bit b n = 1 then [(n : Int)] else []
theorem listL_le (b : Nat) : ∀ n, (listL b n).length ≤ n
  | 0 => by simp [listL]
  | n + 1 => by have := listL_le b n; simp only [listL, List.length_append]; split <;> simp <;> omega
def listTo (b n k : Nat) : List Int := listL b k ++ List.replicate (n - (listL b k).length) 0
theorem listTo_len (b n k : Nat) (h : k ≤ n) : (listTo b n k).length = n := by have := listL_le b k; simp [listTo]; omega
theorem listTo_zero (b n : Nat) : listTo b n 0 = List.replicate n 0 := by simp [listTo, listL]
theorem listL_yes {b k : Nat} (h : bit b k = 1) : listL b (k + 1) = listL b k ++ [(k : Int)] := by simp [listL, h]
theorem listL_no {b k : Nat} (h : ¬ bit b k = 1) : listL b (k + 1) = listL b k := by simp [listL, h]
theorem listTo_yes {b n k : Nat} (hk : k < n) (h : bit b k = 1) : (listTo b n k).set (listL b k).length k = listTo b n (k + 1) := by
  have := listL_le b k
  unfold listTo
  rw [listL_yes h, List.set_append_right _ _ (Nat.le_refl _), Nat.sub_self, List.length_append, List.length_singleton]
  obtain ⟨q, hq⟩ : ∃ q, n - (listL b k).length = q + 1 := ⟨n - (listL b k).length - 1, by omega⟩
  rw [hq, List.replicate_succ, List.set_cons_zero, show n - ((listL b k).length + 1) = q by omega]
  simp
theorem listTo_no {b n k : Nat} (h : ¬ bit b k = 1) : listTo b n k = listTo b n (k + 1) := by unfold listTo; rw [listL_no h]
theorem listTo_take (b n : Nat) : (listTo b n n).take (listL b n).length = listL b n := by simp [listTo]
/-- Fewer, or as many that come before. -/
def before (a b : List Int) : Bool := decide (a.length < b.length) || (decide (a.length = b.length) && less a b)
/-- A set told by rising numbers. -/
def orBits : Nat → List Int → Option Nat
  | s, [] => some s
  | s, x :: l => if 0 < s >>> x.toNat then none else orBits (s ||| (1 <<< x.toNat)) l
theorem orBits_none {s : Nat} {l : List Int} {i : Nat} (hi : i < l.length) (h : 0 < s >>> l[i].toNat) : orBits s (l.drop i) = none := by rw [List.drop_eq_getElem_cons hi]; simp [orBits, h]
theorem orBits_step {s : Nat} {l : List Int} {i : Nat} (hi : i < l.length) (h : ¬ 0 < s >>> l[i].toNat) : orBits s (l.drop i) = orBits (s ||| (1 <<< l[i].toNat)) (l.drop (i + 1)) := by rw [List.drop_eq_getElem_cons hi]; simp only [orBits, if_neg h]
theorem orBits_end {s : Nat} {l : List Int} {i : Nat} (hi : l.length ≤ i) : orBits s (l.drop i) = some s := by rw [List.drop_of_length_le hi]; rfl
theorem or_small {s x : Nat} (h : s < 16) (hx : x < 4) : s ||| (1 <<< x) < 16 := by
  refine Nat.or_lt_two_pow (n := 4) h ?_
  match x, hx with
  | 0, _ => decide
  | 1, _ => decide
  | 2, _ => decide
  | 3, _ => decide
def someE (m : Market) (l : List Int) : Int := if enterE m m.shops.length l ≠ 0 then enterE m m.shops.length l else match orBits 0 l with | none => 2 | some _ => 0
def someS (l : List Int) : Nat := (orBits 0 l).getD 0
/-- What rooms have and shops want, all in all. -/
def handsTo (m : Market) (most : Bool) : Nat → List Int
  | 0 => List.replicate 8 0
  | i + 1 => (handsTo m most i).set i (match m.rooms[i]? with | some r => if most then r.hi else r.lo | none => 0)
def wantsTo (m : Market) (most : Bool) : Nat → List Int
  | 0 => handsTo m most m.rooms.length
  | i + 1 => (wantsTo m most i).set (3 + i) (match m.shops[i]? with | some s => s.want | none => 0)
def allX (m : Market) (most : Bool) : List Int := wantsTo m most m.shops.length
theorem handsTo_len (m : Market) (b : Bool) : ∀ i, (handsTo m b i).length = 8
  | 0 => rfl
  | i + 1 => by simp [handsTo, handsTo_len m b i]
theorem wantsTo_len (m : Market) (b : Bool) : ∀ i, (wantsTo m b i).length = 8
  | 0 => handsTo_len m b _
  | i + 1 => by simp [wantsTo, wantsTo_len m b i]
theorem allX_len (m : Market) (b : Bool) : (allX m b).length = 8 := wantsTo_len m b _
theorem handsTo_no {m : Market} {i : Nat} (hi : i < m.rooms.length) : (handsTo m false i).set i m.rooms[i].lo = handsTo m false (i + 1) := by simp [handsTo, List.getElem?_eq_getElem hi]
theorem handsTo_yes {m : Market} {i : Nat} (hi : i < m.rooms.length) : ((handsTo m true i).set i m.rooms[i].lo).set i m.rooms[i].hi = handsTo m true (i + 1) := by simp [handsTo, List.getElem?_eq_getElem hi]
theorem wantsTo_succ {m : Market} {b : Bool} {i : Nat} (hi : i < m.shops.length) : (wantsTo m b i).set (3 + i) m.shops[i].want = wantsTo m b (i + 1) := by simp [wantsTo, List.getElem?_eq_getElem hi]
/-- The worst set among the shops of a set: what lacks most, the fewest shops, the first. -/
def worstStep (n sub : Nat) (lk : List Int) (s : List Int × Int) (b : Nat) : List Int × Int :=
  if bitDiff b sub ≠ 0 ∨ lk.getD b 0 < 1 ∨ lk.getD b 0 < s.2 then s else if s.2 < lk.getD b 0 ∨ before (listL b n) s.1 = true then (listL b n, lk.getD b 0) else s
def worstTo (n sub : Nat) (lk : List Int) : Nat → List Int × Int
  | 0 => ([], 0)
  | k + 1 => worstStep n sub lk (worstTo n sub lk k) k
def worst (m : Market) (x : List Int) (sub : Nat) : List Int × Int := worstTo m.shops.length sub (lacksV m x) 16
def servedS (m : Market) (x : List Int) (sub : Nat) : Bool := decide ((worst m x sub).2 = 0)
theorem worstTo_pass {n sub k : Nat} {lk : List Int} (h : bitDiff k sub ≠ 0 ∨ lk.getD k 0 < 1 ∨ lk.getD k 0 < (worstTo n sub lk k).2) : worstTo n sub lk k = worstTo n sub lk (k + 1) := by simp only [worstTo, worstStep]; rw [if_pos h]
theorem worstTo_take {n sub k : Nat} {lk : List Int} (h1 : bitDiff k sub = 0) (h2 : 1 ≤ lk.getD k 0) (h3 : (worstTo n sub lk k).2 ≤ lk.getD k 0) (h : (worstTo n sub lk k).2 < lk.getD k 0 ∨ before (listL k n) (worstTo n sub lk k).1 = true) : (listL k n, lk.getD k 0) = worstTo n sub lk (k + 1) := by
  simp only [worstTo, worstStep]; rw [if_neg (by omega), if_pos h]
theorem worstTo_leave {n sub k : Nat} {lk : List Int} (h1 : bitDiff k sub = 0) (h2 : 1 ≤ lk.getD k 0) (h3 : (worstTo n sub lk k).2 ≤ lk.getD k 0) (h : lk.getD k 0 ≤ (worstTo n sub lk k).2) (h5 : before (listL k n) (worstTo n sub lk k).1 = false) : worstTo n sub lk k = worstTo n sub lk (k + 1) := by
  simp only [worstTo, worstStep]; rw [if_neg (by omega), if_neg (by rw [h5]; simp only [Bool.false_eq_true, or_false]; omega)]
theorem worstTo_pos (n sub : Nat) (lk : List Int) : ∀ k, 0 ≤ (worstTo n sub lk k).2
  | 0 => by simp [worstTo]
  | k + 1 => by
    have := worstTo_pos n sub lk k
    simp only [worstTo, worstStep]
    split
    · exact this
    · split
      · show 0 ≤ lk.getD k 0; omega
      · exact this
theorem worstTo_len (n sub : Nat) (lk : List Int) : ∀ k, (worstTo n sub lk k).1.length ≤ n
  | 0 => by simp [worstTo]
  | k + 1 => by
    have := worstTo_len n sub lk k
    simp only [worstTo, worstStep]
    split
    · exact this
    · split
      · exact listL_le k n
      · exact this
/-- The fewest shops without which all others are servedS, as the program looks for them. -/
def withoutStep (m : Market) (l : List Int) (b : Nat) : List Int :=
  if before (listL b m.shops.length) l && servedS m (allX m false) (bitDiff (1 <<< m.shops.length - 1) b) then listL b m.shops.length else l
def withoutTo (m : Market) : Nat → List Int
  | 0 => listL (1 <<< m.shops.length - 1) m.shops.length
  | k + 1 => withoutStep m (withoutTo m k) k
def withoutL (m : Market) : List Int := withoutTo m (1 <<< m.shops.length - 1)
theorem withoutTo_len (m : Market) : ∀ k, (withoutTo m k).length ≤ m.shops.length
  | 0 => listL_le _ _
  | k + 1 => by
    have := withoutTo_len m k
    simp only [withoutTo, withoutStep]
    split
    · exact listL_le _ _
    · exact this
end Go.Rt.Sh
