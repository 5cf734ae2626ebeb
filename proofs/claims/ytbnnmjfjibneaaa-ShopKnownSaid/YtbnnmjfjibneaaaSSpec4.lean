/- Plain words of the shop layer: steps of the sum of what sets lack. No conditions. -/
import Derived.Test.YtbnnmjfjibneaaaSSpec3
set_option linter.unusedSimpArgs false
set_option linter.unusedVariables false
namespace Go.Rt.Sh
theorem getD_set {l : List Int} {b : Nat} {v : Int} (hb : b < l.length) : (l.set b v).getD b 0 = v := by simp [List.getD, hb]
theorem set_zero {m : Market} {x : List Int} {b : Nat} : (lacksTo m x b).set b 0 = lacksTo m x b := by
  apply List.ext_getElem (by simp)
  intro i h1 h2
  rw [List.getElem_set]
  split
  · rename_i h; subst h; simp [lacksTo]
  · rfl
theorem drop_get {x : List Int} {j : Nat} (hj : j < 4) : ((x.drop 3).take 4).getD j 0 = x.getD (3 + j) 0 := by
  simp [List.getD, List.getElem?_take, hj]
theorem set_want {m : Market} {x : List Int} {b j : Nat} (hb : b < 16) (hj : j < 4) :
    (((lacksTo m x b).set b (wantU x b j)).set b (((lacksTo m x b).set b (wantU x b j)).getD b 0 + ((x.drop 3).take 4).getD j 0 * (bit b j : Int))) = (lacksTo m x b).set b (wantU x b (j + 1)) := by
  rw [getD_set (by rw [lacksTo_len]; exact hb), List.set_set, drop_get hj]; rfl
theorem set_hand {m : Market} {x c : List Int} {b q : Nat} {W : Int} (hb : b < 16) :
    (((lacksTo m x b).set b (W - handU c x q)).set b (((lacksTo m x b).set b (W - handU c x q)).getD b 0 - min (c.getD q 0) (x.getD q 0))) = (lacksTo m x b).set b (W - handU c x (q + 1)) := by
  rw [getD_set (by rw [lacksTo_len]; exact hb), List.set_set]
  congr 1
  rw [show handU c x (q + 1) = handU c x q + min (c.getD q 0) (x.getD q 0) from rfl]
  omega
theorem set_done {m : Market} {x : List Int} {b : Nat} (hb : b < 16) : (lacksTo m x b).set b (wantU x b 4 - handU (capsU m (x.getD 7 0) b m.trains.length) x 3) = lacksTo m x (b + 1) := lacksTo_succ hb
theorem and_one_bit {b j : Nat} : ((b >>> j) &&& 1 : Nat) = bit b j := rfl
theorem caps_get_bound {m : Market} (hok : m.Ok) (fro : Int) (b i q : Nat) (hi : i ≤ m.trains.length) : 0 ≤ (capsU m fro b i).getD q 0 ∧ (capsU m fro b i).getD q 0 ≤ 360 := by
  have h := capsU_bound hok fro b i hi
  have := getD_in (a := 0) (b := 60 * (i : Int)) (by omega) (by omega) h q
  have := hok.lt
  omega
theorem caps_in {m : Market} (hok : m.Ok) (fro : Int) (b i : Nat) (hi : i ≤ m.trains.length) : ∀ z ∈ capsU m fro b i, -10000 ≤ z ∧ z ≤ 10000 := by
  intro z hz
  have := capsU_bound hok fro b i hi z hz
  have := hok.lt
  omega
/-- Numbers that hands and wants can have. -/
def Small (x : List Int) : Prop := x.length = 8 ∧ ∀ z ∈ x, -10000 ≤ z ∧ z ≤ 10000
theorem lackB_bound {m : Market} (hok : m.Ok) {x : List Int} (hx : Small x) (b : Nat) : -100000 ≤ lackB m x b ∧ lackB m x b ≤ 100000 := by
  have h1 := wantU_bound hx.2 b 4
  have h2 := handU_bound (caps_in hok (x.getD 7 0) b m.trains.length (Nat.le_refl _)) hx.2 3
  unfold lackB
  omega
theorem lacksV_get {m : Market} {x : List Int} {b : Nat} (hb : b < 16) : (lacksV m x).getD b 0 = lackB m x b := by simp [lacksV, List.getD, hb]
theorem handsTo_in {m : Market} (hok : m.Ok) (t : Bool) : ∀ i, i ≤ m.rooms.length → ∀ z ∈ handsTo m t i, 0 ≤ z ∧ z ≤ 200
  | 0, _, z, hz => by simp [handsTo] at hz; omega
  | i + 1, hi, z, hz => by
    have ih := handsTo_in hok t i (by omega)
    have hr := hok.room _ (List.getElem_mem (show i < m.rooms.length by omega))
    simp only [handsTo, List.getElem?_eq_getElem (show i < m.rooms.length by omega)] at hz
    rcases List.mem_or_eq_of_mem_set hz with h1 | h1
    · exact ih z h1
    · rw [h1]; split <;> omega
theorem wantsTo_in {m : Market} (hok : m.Ok) (t : Bool) : ∀ i, i ≤ m.shops.length → ∀ z ∈ wantsTo m t i, 0 ≤ z ∧ z ≤ 200
  | 0, _, z, hz => handsTo_in hok t _ (Nat.le_refl _) z hz
  | i + 1, hi, z, hz => by
    have ih := wantsTo_in hok t i (by omega)
    have hr := hok.shop _ (List.getElem_mem (show i < m.shops.length by omega))
    simp only [wantsTo, List.getElem?_eq_getElem (show i < m.shops.length by omega)] at hz
    rcases List.mem_or_eq_of_mem_set hz with h1 | h1
    · exact ih z h1
    · rw [h1]; omega
theorem allX_small {m : Market} (hok : m.Ok) (t : Bool) : Small (allX m t) := ⟨allX_len m t, fun z hz => by have := wantsTo_in hok t _ (Nat.le_refl _) z hz; omega⟩
/-- What Goes, Can, Proof, Without, More and Late return, as the program goes. -/
def goesTo (m : Market) : Nat → List Int
  | 0 => []
  | i + 1 => match m.trains[i]? with
    | some t => if leaves m t then goesTo m i ++ [(i : Int)] else goesTo m i
    | none => goesTo m i
theorem goesTo_yes {m : Market} {i : Nat} (hi : i < m.trains.length) (h : leaves m m.trains[i] = true) : goesTo m (i + 1) = goesTo m i ++ [(i : Int)] := by simp [goesTo, List.getElem?_eq_getElem hi, h]
theorem goesTo_no {m : Market} {i : Nat} (hi : i < m.trains.length) (h : leaves m m.trains[i] = false) : goesTo m (i + 1) = goesTo m i := by simp [goesTo, List.getElem?_eq_getElem hi, h]
theorem goesTo_len (m : Market) : ∀ i, (goesTo m i).length ≤ i
  | 0 => Nat.le_refl _
  | i + 1 => by
    have := goesTo_len m i
    unfold goesTo
    cases m.trains[i]? with
    | none => dsimp only; omega
    | some t => dsimp only; split
                · simp; omega
                · omega
def goesP (m : Market) : List Int × Int := if (check m).2.2 ≠ 0 then ([], (check m).2.2) else (goesTo m m.trains.length, 0)
def canP (m : Market) (l : List Int) : Int × Int := if someE m l ≠ 0 then (0, someE m l) else if servedS m (allX m false) (someS l) then (1, 0) else if servedS m (allX m true) (someS l) then (0, 0) else (2, 0)
def proofP (m : Market) (l : List Int) : List Int × Int × Int := if someE m l ≠ 0 then ([], 0, someE m l) else if (worst m (allX m false) (someS l)).2 = 0 then ([], 0, 9) else ((worst m (allX m false) (someS l)).1, (worst m (allX m false) (someS l)).2, 0)
def withoutP (m : Market) : List Int × Int := if (check m).2.2 ≠ 0 then ([], (check m).2.2) else (withoutL m, 0)
/-- All with so many hands more of a room. -/
def moreX (m : Market) (r i : Nat) : List Int := (allX m false).set r ((allX m false).getD r 0 + i)
def moreTo (m : Market) (r i : Nat) : Nat → Option Nat
  | 0 => none
  | k + 1 => if servedS m (moreX m r i) (1 <<< m.shops.length - 1) then some i else moreTo m r (i + 1) k
def moreP (m : Market) (r : Int) : Int × Int := if enterE m m.rooms.length [r] ≠ 0 then (0, enterE m m.rooms.length [r]) else match moreTo m r.toNat 0 61 with | some n => ((n : Int), 0) | none => (0, 9)
theorem moreX_len (m : Market) (r i : Nat) : (moreX m r i).length = 8 := by simp [moreX, allX_len]
theorem moreX_zero (m : Market) (r : Nat) : moreX m r 0 = allX m false := by
  unfold moreX
  apply List.ext_getElem (by simp)
  intro j h1 h2
  rw [List.getElem_set]
  split
  · rename_i h; subst h; simp [List.getD, h2]
  · rfl
theorem moreX_get {m : Market} {r i : Nat} (hr : r < 8) : (moreX m r i).getD r 0 = (allX m false).getD r 0 + i := by unfold moreX; exact getD_set (by rw [allX_len]; exact hr)
theorem moreX_succ {m : Market} {r i : Nat} (hr : r < 8) : (moreX m r i).set r ((moreX m r i).getD r 0 + 1) = moreX m r (i + 1) := by
  rw [moreX_get hr]; unfold moreX; rw [List.set_set]; congr 1; push_cast; omega
theorem allX_in {m : Market} (hok : m.Ok) (t : Bool) : ∀ z ∈ allX m t, 0 ≤ z ∧ z ≤ 200 := wantsTo_in hok t _ (Nat.le_refl _)
theorem moreX_small {m : Market} (hok : m.Ok) (r i : Nat) (hi : i ≤ 61) : Small (moreX m r i) := by
  refine ⟨moreX_len m r i, fun z hz => ?_⟩
  unfold moreX at hz
  rcases List.mem_or_eq_of_mem_set hz with h | h
  · have := allX_in hok false z h; omega
  · have := getD_in (a := 0) (b := 200) (by omega) (by omega) (allX_in hok false) r
    omega
theorem moreTo_yes {m : Market} {r i k : Nat} (h : servedS m (moreX m r i) (1 <<< m.shops.length - 1) = true) : moreTo m r i (k + 1) = some i := by unfold moreTo; rw [if_pos h]
theorem moreTo_no {m : Market} {r i k : Nat} (h : servedS m (moreX m r i) (1 <<< m.shops.length - 1) = false) : moreTo m r i (k + 1) = moreTo m r (i + 1) k := by rw [moreTo, if_neg (by simp [h])]
end Go.Rt.Sh
