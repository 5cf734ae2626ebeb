/- Plain words of the cable layer: what Plan, Held and Told return. No conditions. -/
import Derived.Test.YtofoabifbkhkfaaCSpec8
set_option linter.unusedSimpArgs false
namespace Go.Rt
def planL (p : Port) : List Int := if (check p).2.2 = 0 ∧ (best p (doP p)).found = true then (best p (doP p)).b.take p.farms.length else []
def planV (p : Port) : Int := if (check p).2.2 = 0 ∧ (best p (doP p)).found = true then vain p (best p (doP p)).b else 0
def planE (p : Port) : Int := if (check p).2.2 = 0 then (if (best p (doP p)).found = true then 0 else 9) else (check p).2.2
theorem plan_e1 {p : Port} (h : ¬ (check p).2.2 = 0) : planL p = [] ∧ planV p = 0 ∧ planE p = (check p).2.2 := by
  unfold planL planV planE
  rw [if_neg (fun hh => h hh.1), if_neg (fun hh => h hh.1), if_neg h]; exact ⟨rfl, rfl, rfl⟩
theorem plan_e2 {p : Port} (h : (check p).2.2 = 0) (hf : (best p (doP p)).found = false) : planL p = [] ∧ planV p = 0 ∧ planE p = 9 := by
  unfold planL planV planE
  rw [hf]; simp [h]
theorem plan_ok {p : Port} (h : (check p).2.2 = 0) (hf : (best p (doP p)).found = true) : planL p = (best p (doP p)).b.take p.farms.length ∧ planV p = vain p (best p (doP p)).b ∧ planE p = 0 := by
  unfold planL planV planE
  rw [hf]; simp [h]
def heldUpto (p : Port) (f i : Nat) : Int := ((doP p).take i).foldl (fun n l => max n (l.getD f 0)) 0
def held (p : Port) (f : Nat) : Int := (doP p).foldl (fun n l => max n (l.getD f 0)) 0
theorem heldUpto_succ {p : Port} {f i : Nat} (hi : i < (doP p).length) : heldUpto p f (i + 1) = max (heldUpto p f i) ((doP p)[i].getD f 0) := by
  unfold heldUpto; rw [List.take_succ_eq_append_getElem hi, List.foldl_append]; rfl
theorem heldUpto_all {p : Port} {f i : Nat} (hi : (doP p).length ≤ i) : heldUpto p f i = held p f := by unfold heldUpto held; rw [List.take_of_length_le hi]
def anyNever (p : Port) (f i : Nat) : Bool := ((doP p).take i).any fun l => decide (l.getD f 0 = -1)
theorem anyNever_succ {p : Port} {f i : Nat} (hi : i < (doP p).length) : anyNever p f (i + 1) = (anyNever p f i || decide ((doP p)[i].getD f 0 = -1)) := by
  unfold anyNever; rw [List.take_succ_eq_append_getElem hi, List.any_append]; simp
theorem anyNever_all {p : Port} {f i : Nat} (hi : (doP p).length ≤ i) : anyNever p f i = (doP p).any fun l => decide (l.getD f 0 = -1) := by unfold anyNever; rw [List.take_of_length_le hi]
theorem anyNever_true {p : Port} {f i : Nat} (h : anyNever p f i = true) : ((doP p).any fun l => decide (l.getD f 0 = -1)) = true := by
  unfold anyNever at h
  rw [List.any_eq_true] at h ⊢
  obtain ⟨x, hx, h⟩ := h
  exact ⟨x, List.mem_of_mem_take hx, h⟩
def heldD (p : Port) (f : Int) : Int := if (check p).2.2 = 0 ∧ out 0 (p.farms.length - 1) f = false then (if ((doP p).any fun l => decide (l.getD f.toNat 0 = -1)) then -1 else held p f.toNat) else 0
def heldE (p : Port) (f : Int) : Int := if (check p).2.2 = 0 then (if out 0 (p.farms.length - 1) f = false then (if doC p = [] then 9 else 0) else 4) else (check p).2.2
def toldStep (p : Port) (day : Int) (n : Int) (l : List Int) : Int := if 0 ≤ worst p l day ∧ (n < 0 ∨ worst p l day < n) then worst p l day else n
def toldUpto (p : Port) (d i : Nat) : Int := ((((allC d p.farms.length).map pad)).take i).foldl (toldStep p d) (-1)
def told (p : Port) (d : Nat) : Int := ((allC d p.farms.length).map pad).foldl (toldStep p d) (-1)
theorem toldUpto_succ {p : Port} {d i : Nat} (hi : i < ((allC d p.farms.length).map pad).length) : toldUpto p d (i + 1) = toldStep p d (toldUpto p d i) ((allC d p.farms.length).map pad)[i] := by
  unfold toldUpto; rw [List.take_succ_eq_append_getElem hi, List.foldl_append]; rfl
theorem toldUpto_all {p : Port} {d i : Nat} (hi : ((allC d p.farms.length).map pad).length ≤ i) : toldUpto p d i = told p d := by unfold toldUpto told; rw [List.take_of_length_le hi]
theorem told_yes {p : Port} {day n : Int} {l : List Int} (h : 0 ≤ worst p l day) (h2 : n < 0 ∨ worst p l day < n) : worst p l day = toldStep p day n l := by unfold toldStep; rw [if_pos ⟨h, h2⟩]
theorem told_no {p : Port} {day n : Int} {l : List Int} (h : ¬ (0 ≤ worst p l day ∧ (n < 0 ∨ worst p l day < n))) : n = toldStep p day n l := by unfold toldStep; rw [if_neg h]
def toldD (p : Port) (day : Int) : Int := if (check p).2.2 = 0 ∧ out 0 10 day = false ∧ 0 ≤ told p day.toNat then told p day.toNat else 0
def toldE (p : Port) (day : Int) : Int := if (check p).2.2 = 0 then (if out 0 10 day = false then (if told p day.toNat < 0 then 9 else 0) else 7) else (check p).2.2
theorem keep_front {w0 w : World} {x : Nat × Obj} {Y F : List (Nat × Obj)} (h : St w0 w (x :: (Y ++ F))) : St w0 w (x :: F) := (h.perm (perm_mid [x] Y F)).drop
end Go.Rt
