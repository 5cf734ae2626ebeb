/- Own texts of this claim, joined. No conditions. -/
import Derived.Test.YtnjlejikgkelgaaGreatHTopLoadeda
import Derived.Test.YtnjlejikgkelgaaGreatHTopLoadedb
import Derived.Test.YtnjlejikgkelgaaGreatHTopLoadedc
import Derived.Test.YtnjlejikgkelgaaGreatHTopLoadedd
import Derived.Test.YtnjlejikgkelgaaGreatHTopLoadede
import Derived.Test.YtnjlejikgkelgaaGreatHTopLoadedf
import Derived.Test.YtnjlejikgkelgaaGreatHTopLoadedg
import Derived.Test.YtnjlejikgkelgaaGreatHTopLoadedh
import Derived.Test.YtnjlejikgkelgaaGreatHTopLoadedi
/- Plain laws of the chain layer: counters that show what any past makes. No program in sight. No conditions. -/
set_option linter.unusedSimpArgs false
set_option linter.unusedVariables false
namespace Go.Rt.Ch
open Go.Rt.Ha
structure Past where
  loads : List Int
  errs : List Int
  zeros : List Int
def turnAt (n i k : Nat) : Nat := i * n + k
def pSet (n : Nat) (x : Past) (c : Ctr) (i k : Nat) : Bool := decide (c.zero.getD k 0 = 1) || (decide (c.zero.getD k 0 = 2) && decide (turnOf x.zeros (turnAt n i k) % 2 = 1))
def pErr0 (n : Nat) (x : Past) (c : Ctr) (i k : Nat) : Int := turnOf x.errs (turnAt n i k) % (c.skip + c.twice + 1) - c.skip
def pErr (b : Board) (x : Past) (c : Ctr) (i k : Nat) : Int := if telLoad b x.loads k + pErr0 b.hours.length x c i k < 0 then 0 else pErr0 b.hours.length x c i k
def pRest (n : Nat) (x : Past) (c : Ctr) (i k : Nat) (s : Int) : Int := if pSet n x c i k then 0 else s
def pShow (b : Board) (x : Past) (c : Ctr) (i : Nat) : Nat → Int
  | 0 => c.start
  | k + 1 => (pRest b.hours.length x c i k (pShow b x c i k) + telLoad b x.loads k + pErr b x c i k) % 100
def pRight (b : Board) (x : Past) (c : Ctr) (i : Nat) : Nat → Bool
  | 0 => true
  | k + 1 => pRight b x c i k && decide (pErr b x c i k = 0)
def pOwn (b : Board) (x : Past) (c : Ctr) (i k : Nat) : Int := if c.shown.getD k 0 = -1 then -1 else pShow b x c i (k + 1)
def pShown (b : Board) (x : Past) (c : Ctr) (i k : Nat) : List Int := (List.range k).map (pOwn b x c i)
def pZero (b : Board) (x : Past) (c : Ctr) (i k : Nat) : List Bool := (List.range k).map (pSet b.hours.length x c i)
def pastC (b : Board) (x : Past) (i : Nat) (c : Ctr) : Ctr := { c with shown := pShown b x c i b.hours.length }
def pastB (b : Board) (x : Past) : Board := { b with ctrs := b.ctrs.mapIdx (pastC b x) }
def pastL (b : Board) (x : Past) : List Int := telLoads b x.loads b.hours.length
def pastR (b : Board) (x : Past) : List Bool := b.ctrs.mapIdx fun i c => pRight b x c i b.hours.length
def pastZ (b : Board) (x : Past) : List (List Bool) := b.ctrs.mapIdx fun i c => pZero b x c i b.hours.length
theorem pastB_len (b : Board) (x : Past) : (pastB b x).ctrs.length = b.ctrs.length := List.length_mapIdx
theorem pastB_get {b : Board} {x : Past} {i : Nat} (h : i < b.ctrs.length) (h2 : i < (pastB b x).ctrs.length) : (pastB b x).ctrs[i] = pastC b x i b.ctrs[i] := List.getElem_mapIdx ..
structure Past.Ok (x : Past) : Prop where
  loads : ∀ y ∈ x.loads, 0 ≤ y ∧ y ≤ 255
  errs : ∀ y ∈ x.errs, 0 ≤ y ∧ y ≤ 255
  zeros : ∀ y ∈ x.zeros, 0 ≤ y ∧ y ≤ 255
theorem pShow_in {b : Board} {x : Past} {c : Ctr} {i : Nat} (h0 : 0 ≤ c.start ∧ c.start ≤ 99) : ∀ k, 0 ≤ pShow b x c i k ∧ pShow b x c i k ≤ 99
  | 0 => h0
  | k + 1 => by simp only [pShow]; omega
theorem pErr0_in {n : Nat} {x : Past} {c : Ctr} {i k : Nat} (h1 : 0 ≤ c.skip) (h2 : 0 ≤ c.twice) : 0 - c.skip ≤ pErr0 n x c i k ∧ pErr0 n x c i k ≤ c.twice := by
  unfold pErr0
  have := Int.emod_nonneg (turnOf x.errs (turnAt n i k)) (show c.skip + c.twice + 1 ≠ 0 by omega)
  have := Int.emod_lt_of_pos (turnOf x.errs (turnAt n i k)) (show 0 < c.skip + c.twice + 1 by omega)
  omega
theorem pastC_ok {b : Board} {x : Past} {i : Nat} {c : Ctr} (h : c.Ok b.hours.length) : (pastC b x i c).Ok b.hours.length := by
  refine ⟨h.skip, h.twice, h.start, h.lz, by simp [pastC, pShown], h.zero, fun z hz => ?_, h.nm⟩
  obtain ⟨k, hk, rfl⟩ := List.mem_map.1 hz
  unfold pOwn
  have := pShow_in (b := b) (x := x) (i := i) h.start (k + 1)
  split <;> omega
theorem pastB_check {b : Board} (hc : (check b).2.2 = 0) (x : Past) : (check (pastB b x)).2.2 = 0 := by
  obtain ⟨h1, h2, h3⟩ := zEg.1 hc
  refine zEg.2 ⟨h1, h2, ctrs_ok h3 ?_ fun c hm => ?_⟩
  · apply List.ext_getElem
    · simp [pastB]
    · intro i h1 h2
      simp [pastB, pastC]
  · obtain ⟨i, hi, rfl⟩ := List.getElem_of_mem hm
    have hi2 : i < b.ctrs.length := by rw [pastB_len] at hi; exact hi
    rw [pastB_get hi2 hi]
    exact pastC_ok ((check_ok hc).ctr _ (List.getElem_mem hi2))
def pMet (b : Board) (x : Past) (c : Ctr) (i : Nat) (q : Quest) : Nat → Bool
  | 0 => false
  | k + 1 => pMet b x c i q k || q k (telLoad b x.loads k) ⟨telLoad b x.loads k + pErr b x c i k, pShow b x c i (k + 1), pSet b.hours.length x c i k⟩
theorem zHq {b : Board} {x : Past} {k : Nat} (hk : k < b.hours.length) : ld (pastL b x) k = telLoad b x.loads k := by simp [ld, pastL, telLoads, List.getD, hk]
theorem past_step {b : Board} (hok : b.Ok) {x : Past} (hx : x.Ok) {c : Ctr} (hc : c.Ok b.hours.length) {i k : Nat} (hk : k < b.hours.length) : (⟨telLoad b x.loads k + pErr b x c i k, pShow b x c i (k + 1), pSet b.hours.length x c i k⟩ : Way) ∈ stepsC (pastC b x i c) k (pShow b x c i k) (telLoad b x.loads k) := by
  have hl := tel_in hok hx.loads hk
  have hl0 := (hok.hour _ (List.getElem_mem hk)).lo
  have hs := hc.skip; have ht := hc.twice
  have he := pErr0_in (n := b.hours.length) (x := x) (c := c) (i := i) (k := k) hs.1 ht.1
  have he2 : 0 - c.skip ≤ pErr b x c i k ∧ pErr b x c i k ≤ c.twice ∧ 0 ≤ telLoad b x.loads k + pErr b x c i k := by
    unfold pErr; split <;> omega
  have key : ∀ z, pSet b.hours.length x c i k = z → (⟨telLoad b x.loads k + pErr b x c i k, pShow b x c i (k + 1), z⟩ : Way) ∈ stepsZ (pastC b x i c) k (pShow b x c i k) (telLoad b x.loads k) z := by
    intro z hz
    unfold stepsZ
    have hzr := hc.zero
    have hcan : canZ (pastC b x i c) k z = true := by
      show (if z then decide (c.zero.getD k 0 ≠ 0) else decide (c.zero.getD k 0 ≠ 1)) = true
      unfold pSet at hz
      cases z with
      | true =>
        simp only [if_true, decide_eq_true_eq, Bool.or_eq_true, Bool.and_eq_true] at hz ⊢
        omega
      | false =>
        simp only [Bool.false_eq_true, if_false, decide_eq_true_eq, Bool.or_eq_false_iff, decide_eq_false_iff_not] at hz ⊢
        exact hz.1
    rw [if_pos hcan, List.mem_flatMap]
    refine ⟨pErr b x c i k, zCi.2 ⟨he2.1, he2.2.1⟩, ?_⟩
    rw [if_pos he2.2.2]
    have e : shOf (pShow b x c i k) z (telLoad b x.loads k + pErr b x c i k) = pShow b x c i (k + 1) := by
      unfold shOf
      simp only [pShow, pRest, hz]
      rw [Int.add_assoc]
    unfold wayR
    rw [e]
    have hsh : (pastC b x i c).shown.getD k 0 = pOwn b x c i k := by simp [pastC, pShown, List.getD, hk]
    rw [hsh, if_pos (by unfold pOwn; split; exact .inl rfl; exact .inr rfl)]
    exact List.mem_singleton.2 rfl
  unfold stepsC
  cases hz : pSet b.hours.length x c i k with
  | false => exact List.mem_append_left _ (key false hz)
  | true => exact List.mem_append_right _ (key true hz)
theorem past_fare {b : Board} (hok : b.Ok) {x : Past} (hx : x.Ok) {c : Ctr} (hc : c.Ok b.hours.length) (i : Nat) (q : Quest) : ∀ k, k ≤ b.hours.length → (pShow b x c i k, pMet b x c i q k) ∈ fareTo (pastC b x i c) (pastL b x) q k
  | 0, _ => List.mem_singleton.2 rfl
  | k + 1, hk => by
    simp only [fareTo, List.mem_flatMap, List.mem_map]
    refine ⟨_, past_fare hok hx hc i q k (by omega), _, by rw [zHq (by omega)]; exact past_step hok hx hc (by omega), ?_⟩
    rw [zHq (by omega)]; rfl
theorem past_not {b : Board} (hok : b.Ok) {x : Past} (hx : x.Ok) {c : Ctr} (hc : c.Ok b.hours.length) (i : Nat) (q : Quest) (h : pMet b x c i q b.hours.length = false) : notF (pastC b x i c) (pastL b x) q b.hours.length = true :=
  List.any_eq_true.2 ⟨_, past_fare hok hx hc i q _ (Nat.le_refl _), by rw [h]; rfl⟩
theorem past_met {b : Board} (hok : b.Ok) {x : Past} (hx : x.Ok) {c : Ctr} (hc : c.Ok b.hours.length) (i : Nat) (q : Quest) (h : pMet b x c i q b.hours.length = true) : metF (pastC b x i c) (pastL b x) q b.hours.length = true :=
  List.any_eq_true.2 ⟨_, past_fare hok hx hc i q _ (Nat.le_refl _), h⟩
theorem past_len (b : Board) (x : Past) : (pastL b x).length = b.hours.length := by simp [pastL, telLoads]
theorem past_felt {b : Board} (hok : b.Ok) {x : Past} (hx : x.Ok) : pastL b x ∈ felt (bun b) := by
  refine (zIr _ _).2 ⟨by rw [past_len, bun_len], fun i hi => ?_⟩
  have hi2 : i < b.hours.length := by rw [bun_len] at hi; exact hi
  have h := tel_in hok hx.loads hi2
  rw [← zHq hi2] at h
  have e : (bun b)[i] = ⟨b.hours[i].lo, b.hours[i].hi, 0,0⟩ := by simp [bun]
  rw [e]; exact h
theorem past_truth {b : Board} (hok : b.Ok) {x : Past} (hx : x.Ok) : pastL b x ∈ truths (pastB b x) := by
  refine List.mem_filter.2 ⟨past_felt hok hx, ?_⟩
  unfold canL
  rw [List.all_eq_true]
  intro c hm
  obtain ⟨i, hi, rfl⟩ := List.getElem_of_mem hm
  have hi2 : i < b.ctrs.length := by rw [pastB_len] at hi; exact hi
  rw [pastB_get hi2 hi]
  have hc := hok.ctr _ (List.getElem_mem hi2)
  rw [Bool.or_eq_true]
  cases h : pMet b x b.ctrs[i] i slips b.hours.length with
  | false => exact .inl (past_not hok hx hc i slips h)
  | true => exact .inr (past_met hok hx hc i slips h)
theorem past_some {b : Board} (hc : (check b).2.2 = 0) {x : Past} (hx : x.Ok) : someB (pastB b x) = true := by
  unfold someB
  rw [decide_eq_true (pastB_check hc x), Bool.true_and]
  have := past_truth (check_ok hc) hx
  cases ht : truths (pastB b x) with
  | nil => rw [ht] at this; cases this
  | cons y z => rfl
theorem past_hold {b : Board} (hc : (check b).2.2 = 0) {x : Past} (hx : x.Ok) {k : Nat} (hk : (k : Int) < b.holds) : (holdP (pastB b x) (k : Int)).2 = 0 ∧ (holdP (pastB b x) (k : Int)).1.1 ≤ inH (pastB b x) (k : Int) (pastL b x) ∧ inH (pastB b x) (k : Int) (pastL b x) ≤ (holdP (pastB b x) (k : Int)).1.2 := by
  have hs := past_some hc hx
  rw [hold_at hs (show (k : Int) < (pastB b x).holds from hk)]
  exact ⟨rfl, (zHt (f := inH (pastB b x) (k : Int)) (zFq hs).2.2).2.2 _ (past_truth (check_ok hc) hx)⟩
def deniesB (how : Int) (was : Bool) : Bool := (decide (how = 1) && !was) || (decide (how = 2) && was)
def pastT (b : Board) (x : Past) (i : Nat) : List Ctr := (pastB b x).ctrs.take i
end Go.Rt.Ch
/- Plain laws of the layers cable and chain together: what goes on board, farm by farm, each in an hour of its own. No program in sight. No conditions. -/
namespace Go.Rt.Tl
open Go.Rt Go.Rt.Ch
open Go.Rt.Ha (nameE zHw)
section
variable (fs : List Ca.Farm) (l x : List Int) (day : Int)
def frI (i : Nat) : Bool := match fs[i]? with | some f => Ca.fresh f (l.getD i 0) day | none => false
def ownI (i : Nat) : Int := match fs[i]? with | some f => if Ca.fresh f (l.getD i 0) day then Ca.ownH f (Ca.turnOf x i) else 0 | none => 0
def ownTo : Nat → Int
  | 0 => 0
  | k + 1 => ownTo k + ownI fs l x day k
def ldH (i : Nat) (f : Ca.Farm) : Hour := if Ca.fresh f (l.getD i 0) day then ⟨0, f.lo, f.hi⟩ else ⟨0,0,0⟩
def ldHs : List Hour := fs.mapIdx (ldH l day)
def shP : Nat → Int
  | 0 => 0
  | k + 1 => (shP k + ownI fs l x day k) % 100
def shL (k : Nat) : List Int := (List.range k).map fun j => shP fs l x day (j + 1)
end
def nmC : ByteArray := ⟨#[99]⟩
def ldB0 (fs : List Ca.Farm) (l : List Int) (day : Int) : Board := ⟨1, ldHs fs l day, []⟩
def ldC (fs : List Ca.Farm) (l x : List Int) (day : Int) : Ctr := ⟨nmC, 0,0,0, List.replicate fs.length 0, shL fs l x day fs.length⟩
def ldB1 (fs : List Ca.Farm) (l x : List Int) (day : Int) : Board := ⟨1, ldHs fs l day, [ldC fs l x day]⟩
variable {fs : List Ca.Farm} {l x : List Int} {day : Int}
theorem zDs : (ldHs fs l day).length = fs.length := List.length_mapIdx
theorem ld_get {i : Nat} (h : i < fs.length) (h2 : i < (ldHs fs l day).length) : (ldHs fs l day)[i] = ldH l day i fs[i] := List.getElem_mapIdx ..
theorem own_y {i : Nat} (h : i < fs.length) (hf : Ca.fresh fs[i] (l.getD i 0) day = true) : ownI fs l x day i = Ca.ownH fs[i] (Ca.turnOf x i) := by unfold ownI; rw [List.getElem?_eq_getElem h]; show (if Ca.fresh fs[i] (l.getD i 0) day = true then _ else _) = _; rw [if_pos hf]
theorem own_n {i : Nat} (h : i < fs.length) (hf : Ca.fresh fs[i] (l.getD i 0) day = false) : ownI fs l x day i = 0 := by unfold ownI; rw [List.getElem?_eq_getElem h]; show (if Ca.fresh fs[i] (l.getD i 0) day = true then _ else _) = _; rw [if_neg (by rw [hf]; simp)]
theorem fresh_not {f : Ca.Farm} : Ca.fresh f (-1) day = false := by unfold Ca.fresh; simp
theorem tr_sum : ∀ n, n ≤ fs.length → (Ca.trU fs l x day n).1 = ownTo fs l x day n
  | 0, _ => rfl
  | n + 1, h => by
    have hn : n < fs.length := by omega
    have ih := tr_sum n (by omega)
    rw [ownTo, ← ih]
    by_cases h1 : l.getD n 0 = -1
    · rw [Ca.trU_never hn h1, own_n hn (by rw [h1]; exact fresh_not)]; omega
    · cases h2 : Ca.fresh fs[n] (l.getD n 0) day with
      | true => rw [Ca.trU_fresh hn h1 h2, own_y hn h2]
      | false => rw [Ca.trU_vain hn h1 h2, own_n hn h2]; simp
def oneTo (n : Nat) (l : List Int) (i : Nat) : List Int := (List.replicate n (-1)).set i (l.getD i 0)
theorem zGe (n : Nat) (l : List Int) (i : Nat) : (oneTo n l i).length = n := by simp [oneTo]
theorem one_at {n i : Nat} (hi : i < n) : (oneTo n l i).getD i 0 = l.getD i 0 := by simp [oneTo, List.getD, hi]
theorem one_off {n i j : Nat} (hj : j < n) (h : ¬ i = j) : (oneTo n l i).getD j 0 = -1 := by simp [oneTo, List.getD, List.getElem?_set, h, hj]
theorem one_tr {i : Nat} (hi : i < fs.length) : ∀ n, n ≤ fs.length → (Ca.trU fs (oneTo fs.length l i) x day n).1 = if i < n then ownI fs l x day i else 0
  | 0, _ => by rw [if_neg (by omega)]; rfl
  | n + 1, h => by
    have hn : n < fs.length := by omega
    have ih := one_tr hi n (by omega)
    by_cases e : i = n
    · subst e
      rw [if_neg (by omega)] at ih
      rw [if_pos (by omega)]
      by_cases h1 : l.getD i 0 = -1
      · rw [Ca.trU_never hn (by rw [one_at hi]; exact h1), ih, own_n hn (by rw [h1]; exact fresh_not)]
      · cases h2 : Ca.fresh fs[i] (l.getD i 0) day with
        | true => rw [Ca.trU_fresh hn (by rw [one_at hi]; exact h1) (by rw [one_at hi]; exact h2), own_y hn h2]; dsimp only; omega
        | false => rw [Ca.trU_vain hn (by rw [one_at hi]; exact h1) (by rw [one_at hi]; exact h2), own_n hn h2]; dsimp only; omega
    · rw [Ca.trU_never hn (one_off hn e), ih]
      by_cases h3 : i < n
      · rw [if_pos h3, if_pos (by omega)]
      · rw [if_neg h3, if_neg (by omega)]
theorem one_own {i : Nat} (hi : i < fs.length) : (Ca.trU fs (oneTo fs.length l i) x day fs.length).1 = ownI fs l x day i := by rw [one_tr hi _ (Nat.le_refl _), if_pos hi]
theorem own_in (hok : ∀ f ∈ fs, f.Ok) {i : Nat} (hi : i < fs.length) : (ldH l day i fs[i]).lo ≤ ownI fs l x day i ∧ ownI fs l x day i ≤ (ldH l day i fs[i]).hi := by
  unfold ldH
  cases h2 : Ca.fresh fs[i] (l.getD i 0) day with
  | true => rw [if_pos rfl, own_y hi h2]; exact Ca.ownH_in (hok _ (List.getElem_mem hi))
  | false => rw [if_neg (by simp), own_n hi h2]; exact ⟨Int.le_refl _, Int.le_refl _⟩
def sumG (g : Nat → Int) : Nat → Int
  | 0 => 0
  | k + 1 => sumG g k + g k
theorem hours0 {k : Nat} (hk : k < (ldHs fs l day).length) : ((ldHs fs l day)[k]).hold = 0 := by
  have h : k < fs.length := by rw [zDs] at hk; exact hk
  rw [ld_get h hk]; unfold ldH; split <;> rfl
theorem hsum_all {b : Board} {f g : Nat → Int} (hh : ∀ k (hk : k < b.hours.length), b.hours[k].hold = 0) (hw : ∀ k, k < b.hours.length → wentH b k = (f k, g k)) : ∀ n, n ≤ b.hours.length → hsum b 0 n = (sumG f n, sumG g n)
  | 0, _ => rfl
  | n + 1, h => by
    have ih := hsum_all hh hw n (by omega)
    rw [(hsum_y (show n < b.hours.length by omega) (hh n (by omega))).1, ih, hw n (by omega)]
    rfl
theorem in_all {b : Board} {f : Nat → Int} {m : List Int} (hh : ∀ k (hk : k < b.hours.length), b.hours[k].hold = 0) (hm : ∀ k, k < b.hours.length → ld m k = f k) : ∀ n, n ≤ b.hours.length → inTo b m 0 n = sumG f n
  | 0, _ => rfl
  | n + 1, h => by
    have ih := in_all hh hm n (by omega)
    have ei : inTo b m 0 (n + 1) = inTo b m 0 n + if (hourOf b n).hold = 0 then ld m n else 0 := rfl
    rw [ei, ih, zDy (show n < b.hours.length by omega), if_pos (hh n (by omega)), hm n (by omega)]
    rfl
theorem hold_known {b : Board} (hs : someB b = true) (h1 : 0 < b.holds) {g : Nat → Int} (hh : ∀ k (hk : k < b.hours.length), b.hours[k].hold = 0) (hw : ∀ k, k < b.hours.length → wentH b k = (g k, g k)) : holdP b 0 = ((sumG g b.hours.length, sumG g b.hours.length), 0) := by
  have h := hold_at hs (k := 0) (by omega)
  have h2 := hold_in hs (hold := 0)
  rw [hsum_all hh hw _ (Nat.le_refl _)] at h2
  dsimp only at h2
  have e : hullL (inH b 0) (truths b) = (sumG g b.hours.length, sumG g b.hours.length) := Prod.ext (by dsimp only; omega) (by dsimp only; omega)
  have h3 : holdP b 0 = (hullL (inH b 0) (truths b), 0) := h
  rw [h3, e]
def turnsL (b : Board) (g : Nat → Int) : List Int := (List.range b.hours.length).map fun k => g k - (hourOf b k).lo
theorem turns_ok {b : Board} (hok : b.Ok) {g : Nat → Int} (hg : ∀ k (hk : k < b.hours.length), b.hours[k].lo ≤ g k ∧ g k ≤ b.hours[k].hi) : ∀ y ∈ turnsL b g, 0 ≤ y ∧ y ≤ 255 := by
  intro y hy
  obtain ⟨k, hk, rfl⟩ := List.mem_map.1 hy
  have hk2 : k < b.hours.length := List.mem_range.1 hk
  have h1 := hg k hk2
  have h2 := hok.hour _ (List.getElem_mem hk2)
  have h3 := h2.lo; have h4 := h2.hi
  rw [zDy hk2]; omega
theorem turns_load {b : Board} {g : Nat → Int} (hg : ∀ k (hk : k < b.hours.length), b.hours[k].lo ≤ g k ∧ g k ≤ b.hours[k].hi) {k : Nat} (hk : k < b.hours.length) : telLoad b (turnsL b g) k = g k := by
  have h1 := hg k hk
  have hl : (turnsL b g).length = b.hours.length := by simp [turnsL]
  unfold telLoad turnOf
  rw [if_neg (by omega), hl, Nat.mod_eq_of_lt hk]
  have e : (turnsL b g).getD k 0 = g k - (hourOf b k).lo := by simp [turnsL, List.getD, hk]
  rw [e, zDy hk, Int.emod_eq_of_lt (by omega) (by omega)]; omega
theorem past_same {b : Board} (h : b.ctrs = []) (x : Past) : pastB b x = b := by
  obtain ⟨a, c, d⟩ := b
  dsimp only at h; subst h; rfl
theorem hold_free {b : Board} (hc : (check b).2.2 = 0) (h0 : b.ctrs = []) (hh : ∀ k (hk : k < b.hours.length), b.hours[k].hold = 0) : holdP b 0 = ((sumG (fun k => (hourOf b k).lo) b.hours.length, sumG (fun k => (hourOf b k).hi) b.hours.length), 0) := by
  have hok := check_ok hc
  have h1 := hok.holds
  have hx : (⟨[], [], []⟩ : Past).Ok := ⟨fun y hy => (by cases hy), fun y hy => (by cases hy), fun y hy => (by cases hy)⟩
  have hs : someB b = true := by have := past_some hc hx; rwa [past_same h0] at this
  have hat := hold_at hs (k := 0) (by omega)
  have h3 : holdP b 0 = (hullL (inH b 0) (truths b), 0) := hat
  have hin := hold_in hs (hold := 0)
  have key : ∀ g : Nat → Int, (∀ k (hk : k < b.hours.length), b.hours[k].lo ≤ g k ∧ g k ≤ b.hours[k].hi) → (holdP b 0).1.1 ≤ sumG g b.hours.length ∧ sumG g b.hours.length ≤ (holdP b 0).1.2 := by
    intro g hg
    have hp : (⟨turnsL b g, [], []⟩ : Past).Ok := ⟨turns_ok hok hg, fun y hy => (by cases hy), fun y hy => (by cases hy)⟩
    have h := past_hold hc hp (k := 0) (by omega)
    rw [past_same h0] at h
    have e : inH b 0 (pastL b ⟨turnsL b g, [], []⟩) = sumG g b.hours.length := in_all hh (fun k hk => by rw [zHq hk]; exact turns_load hg hk) _ (Nat.le_refl _)
    have h' : (holdP b 0).1.1 ≤ inH b 0 (pastL b ⟨turnsL b g, [], []⟩) ∧ inH b 0 (pastL b ⟨turnsL b g, [], []⟩) ≤ (holdP b 0).1.2 := h.2
    rw [e] at h'; exact h'
  have k1 := key (fun k => (hourOf b k).lo) fun k hk => by have := (hok.hour _ (List.getElem_mem hk)).le; rw [zDy hk]; omega
  have k2 := key (fun k => (hourOf b k).hi) fun k hk => by have := (hok.hour _ (List.getElem_mem hk)).le; rw [zDy hk]; omega
  have w : ∀ n, n ≤ b.hours.length → sumG (fun k => (hourOf b k).lo) n ≤ (hsum b 0 n).1 ∧ (hsum b 0 n).2 ≤ sumG (fun k => (hourOf b k).hi) n := by
    intro n
    induction n with
    | zero => intro _; simp [sumG, hsum]
    | succ n ih =>
      intro hn
      have ih := ih (by omega)
      have hw := went_in hs (show n < b.hours.length by omega)
      rw [(hsum_y (show n < b.hours.length by omega) (hh n (by omega))).1]
      simp only [sumG]; rw [zDy (show n < b.hours.length by omega)]; omega
  have w2 := w _ (Nat.le_refl _)
  rw [h3] at k1 k2
  dsimp only at k1 k2
  rw [h3]
  have e : hullL (inH b 0) (truths b) = (sumG (fun k => (hourOf b k).lo) b.hours.length, sumG (fun k => (hourOf b k).hi) b.hours.length) := Prod.ext (by dsimp only; omega) (by dsimp only; omega)
  rw [e]
theorem shP_in : ∀ k, 0 ≤ shP fs l x day k ∧ shP fs l x day k ≤ 99
  | 0 => by simp [shP]
  | k + 1 => by simp only [shP]; omega
theorem ldC_ok : (ldC fs l x day).Ok (ldHs fs l day).length := by
  refine ⟨⟨Int.le_refl _, (show (0 : Int) ≤ 3 by decide)⟩, ⟨Int.le_refl _, (show (0 : Int) ≤ 3 by decide)⟩, ⟨Int.le_refl _, (show (0 : Int) ≤ 99 by decide)⟩, by rw [zDs]; simp [ldC], by rw [zDs]; simp [ldC, shL], fun z hz => ?_, fun z hz => ?_, (by show nmOk nmC = true; decide +kernel)⟩
  · have := List.eq_of_mem_replicate hz; omega
  · obtain ⟨j, _, rfl⟩ := List.mem_map.1 hz
    have := shP_in (fs := fs) (l := l) (x := x) (day := day) (j + 1); omega
theorem ldB1_check (h : (check (ldB0 fs l day)).2.2 = 0) : (check (ldB1 fs l x day)).2.2 = 0 := by
  obtain ⟨h1, h2, h3⟩ := zEg.1 h
  refine zEg.2 ⟨h1, h2, zHw.2 ⟨(by show (0 : Int) ≤ ((1 : Nat) : Int) ∧ ((1 : Nat) : Int) ≤ 2; decide), fun k hk => ?_⟩⟩
  have hk0 : k = 0 := by have : k < 1 := hk; omega
  subst hk0
  exact ctrE_ok (show nameE [] nmC = 0 by decide +kernel) ldC_ok
theorem ld_hi (hok : ∀ f ∈ fs, f.Ok) : ∀ k (hk : k < (ldB1 fs l x day).hours.length), (ldB1 fs l x day).hours[k].lo ≤ ownI fs l x day k ∧ ownI fs l x day k ≤ (ldB1 fs l x day).hours[k].hi := by
  intro k hk
  have h : k < fs.length := by have h9 : k < (ldHs fs l day).length := hk; rw [zDs] at h9; exact h9
  have hk2 : k < (ldHs fs l day).length := hk
  have h9 := own_in (l := l) (x := x) (day := day) hok h
  rw [← ld_get h hk2] at h9
  exact h9
def ldX (fs : List Ca.Farm) (l x : List Int) (day : Int) : List Int := turnsL (ldB1 fs l x day) (ownI fs l x day)
theorem ld_load (hok : ∀ f ∈ fs, f.Ok) {k : Nat} (hk : k < fs.length) : telLoad (ldB1 fs l x day) (ldX fs l x day) k = ownI fs l x day k := turns_load (ld_hi hok) (by show k < (ldHs fs l day).length; rw [zDs]; exact hk)
theorem ld_telS (hok : ∀ f ∈ fs, f.Ok) : ∀ k, k ≤ fs.length → telS (ldB1 fs l x day) (ldX fs l x day) 0 k = shP fs l x day k
  | 0, _ => rfl
  | k + 1, h => by rw [telS, shP, ld_telS hok k (by omega), ld_load hok (by omega)]
theorem ld_telC (hok : ∀ f ∈ fs, f.Ok) : telC (ldB1 fs l x day) (ldX fs l x day) (ldC fs l x day) = ldC fs l x day := by
  have hl : (ldB1 fs l x day).hours.length = fs.length := zDs
  unfold telC
  rw [hl]
  have e : telShown (ldB1 fs l x day) (ldX fs l x day) (ldC fs l x day).start fs.length = shL fs l x day fs.length := by
    unfold telShown shL
    exact List.map_congr_left fun j hj => ld_telS hok _ (by have := List.mem_range.1 hj; omega)
  rw [e]; rfl
theorem ld_show (hok : ∀ f ∈ fs, f.Ok) : ∀ k, k ≤ fs.length → pShow (ldB1 fs l x day) ⟨ldX fs l x day, [], []⟩ (ldC fs l x day) 0 k = shP fs l x day k
  | 0, _ => rfl
  | k + 1, h => by
    have hk : k < fs.length := by omega
    have hz : (ldC fs l x day).zero.getD k 0 = 0 := by simp [ldC, List.getD, List.getElem?_replicate, hk]
    have hs : pSet (ldB1 fs l x day).hours.length ⟨ldX fs l x day, [], []⟩ (ldC fs l x day) 0 k = false := by unfold pSet; rw [hz]; simp
    have h0 : pErr0 (ldB1 fs l x day).hours.length ⟨ldX fs l x day, [], []⟩ (ldC fs l x day) 0 k = 0 := by unfold pErr0; show turnOf [] _ % (0 + 0 + 1) - 0 = 0; omega
    have he : pErr (ldB1 fs l x day) ⟨ldX fs l x day, [], []⟩ (ldC fs l x day) 0 k = 0 := by unfold pErr; rw [h0]; split <;> rfl
    have hr : pRest (ldB1 fs l x day).hours.length ⟨ldX fs l x day, [], []⟩ (ldC fs l x day) 0 k (shP fs l x day k) = shP fs l x day k := by unfold pRest; rw [if_neg (by rw [hs]; simp)]
    have ih := ld_show hok k (by omega)
    have hl : telLoad (ldB1 fs l x day) (⟨ldX fs l x day, [], []⟩ : Past).loads k = ownI fs l x day k := ld_load hok hk
    rw [pShow, ih, hr, he, hl, shP]; simp
theorem ld_past (hok : ∀ f ∈ fs, f.Ok) : pastB (ldB1 fs l x day) ⟨ldX fs l x day, [], []⟩ = ldB1 fs l x day := by
  have hl : (ldB1 fs l x day).hours.length = fs.length := zDs
  have e : pShown (ldB1 fs l x day) ⟨ldX fs l x day, [], []⟩ (ldC fs l x day) 0 fs.length = shL fs l x day fs.length := by
    unfold pShown shL
    refine List.map_congr_left fun j hj => ?_
    have hj2 : j < fs.length := List.mem_range.1 hj
    have hs : (ldC fs l x day).shown.getD j 0 = shP fs l x day (j + 1) := by simp [ldC, shL, List.getD, hj2]
    have := shP_in (fs := fs) (l := l) (x := x) (day := day) (j + 1)
    unfold pOwn
    rw [hs, if_neg (by omega), ld_show hok _ (by omega)]
  have e2 : pastC (ldB1 fs l x day) ⟨ldX fs l x day, [], []⟩ 0 (ldC fs l x day) = ldC fs l x day := by
    unfold pastC
    rw [hl, e]; rfl
  show ({ ldB1 fs l x day with ctrs := [pastC (ldB1 fs l x day) ⟨ldX fs l x day, [], []⟩ 0 (ldC fs l x day)] } : Board) = _
  rw [e2]; rfl
structure LoadF (fs : List Ca.Farm) (l x : List Int) (day : Int) : Prop where
  free : holdP (ldB0 fs l day) 0 = (((Ca.on fs l day).least, (Ca.on fs l day).most), 0)
  told : holdP (ldB1 fs l x day) 0 = (((Ca.trU fs l x day fs.length).1, (Ca.trU fs l x day fs.length).1), 0)
  right : rightP (ldB1 fs l x day) 0 = (1,0)
theorem sum_own : ∀ n, sumG (ownI fs l x day) n = ownTo fs l x day n
  | 0 => rfl
  | n + 1 => by rw [sumG, ownTo, sum_own n]
theorem sum_on (hl : l.length = fs.length) : ∀ n, n ≤ fs.length → sumG (fun k => (hourOf (ldB0 fs l day) k).lo) n = (Ca.onUpto fs l day n).least ∧ sumG (fun k => (hourOf (ldB0 fs l day) k).hi) n = (Ca.onUpto fs l day n).most
  | 0, _ => by simp [sumG, Ca.onUpto]
  | n + 1, h => by
    have hn : n < fs.length := by omega
    have ih := sum_on hl n (by omega)
    have hb : n < (ldB0 fs l day).hours.length := by show n < (ldHs fs l day).length; rw [zDs]; exact hn
    have eh : hourOf (ldB0 fs l day) n = ldH l day n fs[n] := by rw [zDy hb]; exact ld_get hn hb
    simp only [sumG, eh]
    rw [Ca.onUpto_succ day hn (by omega), ih.1, ih.2]
    unfold ldH Ca.step
    by_cases h1 : l.getD n 0 = -1
    · rw [if_pos h1, if_neg (by rw [h1, fresh_not]; simp)]; simp
    · rw [if_neg h1]
      cases h2 : Ca.fresh fs[n] (l.getD n 0) day with
      | true => simp
      | false => simp
theorem load_facts (hok : ∀ f ∈ fs, f.Ok) (hl : l.length = fs.length) (hc : (check (ldB0 fs l day)).2.2 = 0) : LoadF fs l x day := by
  have h0 : (ldB0 fs l day).hours.length = fs.length := zDs
  have h1 : (ldB1 fs l x day).hours.length = fs.length := zDs
  have hck := ldB1_check (x := x) hc
  have hokb := check_ok hck
  have hxr : ∀ y ∈ ldX fs l x day, 0 ≤ y ∧ y ≤ 255 := turns_ok hokb (ld_hi hok)
  have hs : someB (ldB1 fs l x day) = true := by
    have := past_some hck (x := ⟨ldX fs l x day, [], []⟩) ⟨hxr, fun y hy => (by cases hy), fun y hy => (by cases hy)⟩
    rwa [ld_past hok] at this
  have hT := tel_law hck hxr (u := 0) (show 0 < 1 by decide)
  have e : setC (ldB1 fs l x day) 0 (telC (ldB1 fs l x day) (ldX fs l x day) ((ldB1 fs l x day).ctrs[0]'(show 0 < 1 by decide))) = ldB1 fs l x day := by
    show ({ ldB1 fs l x day with ctrs := [telC (ldB1 fs l x day) (ldX fs l x day) (ldC fs l x day)] } : Board) = _
    rw [ld_telC hok]; rfl
  rw [e] at hT
  refine ⟨?_, ?_, hT.right hs⟩
  · rw [hold_free hc rfl (fun k hk => hours0 hk), h0]
    have h := sum_on (day := day) hl _ (Nat.le_refl _)
    rw [h.1, h.2, Ca.onUpto_all day (Nat.le_refl _)]
  · have hw : ∀ k, k < (ldB1 fs l x day).hours.length → wentH (ldB1 fs l x day) k = (ownI fs l x day k, ownI fs l x day k) := by
      intro k hk
      have a := hT.went hs k hk
      rw [went_at hs hk, ld_load hok (by rw [← h1]; exact hk)] at a
      exact (Prod.mk.inj a).1
    rw [hold_known hs (show (0 : Int) < 1 by decide) (fun k hk => hours0 hk) hw, h1, sum_own, tr_sum _ (Nat.le_refl _)]
end Go.Rt.Tl
set_option maxRecDepth 20000
set_option maxHeartbeats 1600000
namespace Go.Proofs.Tl
open Go.Proofs.Tryz
open Go.Rt Go.Rt.Ch Go.Rt.Tl Go.Proofs.Kb
attribute [local irreducible] WL WC Con Yd At Ats Sl Agree DW
theorem Try_TB_fb0 (x0 : Int) (w : World) : (Instr.build 41 [(0, .int .i64 x0)].toArray).run Tryz.prog w = .ok (.agg #[.int .i64 x0, .slice none 0 0, .slice none 0 0]) w := by kernel_rfl
theorem Try_TB_fb1 (x0 : ByteArray) (w : World) : (Instr.build 43 [(0, .string x0)].toArray).run Tryz.prog w = .ok (.agg #[.string x0, .int .i64 0, .int .i64 0, .int .i64 0, .slice none 0 0, .slice none 0 0]) w := by kernel_rfl
theorem zCk : Tryz.prog.info? 3 = some Tryz.t3 := by kernel_rfl
theorem Try_TB_fb3 (x0 : Int) (x1 : Int) (w : World) : (Instr.build 48 [(1, .agg #[.int .i64 x0, .int .i64 x1])].toArray).run Tryz.prog w = .ok (.agg #[.int .i64 0, .int .i64 x0, .int .i64 x1]) w := by kernel_rfl
theorem Try_TB_fb4  (w : World) : (Instr.buildSlice 38 0 [].toArray).run Tryz.prog w = .ok (.slice (some ⟨w.heap.size, 0, none⟩) 0 0) (w.alloc (Go.Rt.blk 48 [])) := by kernel_rfl
theorem zEs : Tryz.prog.info? 48 = some Tryz.t48 := by kernel_rfl
theorem zIv (x0 : Int) (x1 : Int) (x2 : Int) (w : World) : (Instr.buildSlice 38 1 [(0, .agg #[.int .i64 x0, .int .i64 x1, .int .i64 x2])].toArray).run Tryz.prog w = .ok (.slice (some ⟨w.heap.size, 0, none⟩) 1 1) (w.alloc (Go.Rt.blk 48 [.int .i64 x0, .int .i64 x1, .int .i64 x2])) := by kernel_rfl
theorem zBt (x0 : Int) (w : World) : (Instr.buildSlice 34 1 [(0, .int .i64 x0)].toArray).run Tryz.prog w = .ok (.slice (some ⟨w.heap.size, 0, none⟩) 1 1) (w.alloc (Go.Rt.blk 3 [.int .i64 x0])) := by kernel_rfl
theorem zB7  (w : World) : (Instr.buildSlice 34 0 [].toArray).run Tryz.prog w = .ok (.slice (some ⟨w.heap.size, 0, none⟩) 0 0) (w.alloc (Go.Rt.blk 3 [])) := by kernel_rfl
theorem Try_TB_fb9 (x0 : ByteArray) (x1 : Int) (x2 : Int) (x3 : Int) (x4 : Option Addr) (l4 c4 : Nat) (x5 : Option Addr) (l5 c5 : Nat) (w : World) : (Instr.buildSlice 39 1 [(0, .agg #[.string x0, .int .i64 x1, .int .i64 x2, .int .i64 x3, .slice x4 l4 c4, .slice x5 l5 c5])].toArray).run Tryz.prog w = .ok (.slice (some ⟨w.heap.size, 0, none⟩) 1 1) (w.alloc (Go.Rt.blk 43 [.string x0, .int .i64 x1, .int .i64 x2, .int .i64 x3, .slice x4 l4 c4, .slice x5 l5 c5])) := by kernel_rfl
theorem zEd : flatInts Tryz.prog 23 2 = true := by kernel_rfl
theorem Try_TB_fb11 (x0 : Int) (x1 : Int) (w : World) : (Instr.build 23 [(0, .int .i64 x0),(1, .int .i64 x1)].toArray).run Tryz.prog w = .ok (.agg #[.int .i64 x0, .int .i64 x1]) w := by kernel_rfl
def negTo (n k : Nat) : List Int := List.replicate k (-1) ++ List.replicate (n - k) 0
theorem zIm {n k : Nat} (h : k ≤ n) : (negTo n k).length = n := by simp [negTo]; omega
theorem neg_zero (n : Nat) : negTo n 0 = List.replicate n 0 := by simp [negTo]
theorem neg_set {n k : Nat} (h : k < n) : (negTo n k).set k (-1) = negTo n (k + 1) := by
  apply List.ext_getElem?
  intro i
  unfold negTo
  rw [List.getElem?_set]
  by_cases e : k = i
  · subst e
    rw [if_pos rfl, if_pos (by simp; omega), List.getElem?_append_left (by simp)]
    simp
  · rw [if_neg e]
    by_cases h2 : i < k
    · rw [List.getElem?_append_left (by simpa using h2), List.getElem?_append_left (by simp; omega)]
      simp [List.getElem?_replicate, h2]; omega
    · rw [List.getElem?_append_right (by simp; omega), List.getElem?_append_right (by simp; omega)]
      simp only [List.length_replicate, List.getElem?_replicate]
      by_cases h3 : i < n
      · rw [if_pos (by omega), if_pos (by omega)]
      · rw [if_neg (by omega), if_neg (by omega)]
theorem neg_one {n i : Nat} {l : List Int} (h : n - n = 0) : (negTo n n).set i (l.getD i 0) = oneTo n l i := by unfold negTo oneTo; rw [h]; simp
theorem hrow3 (l : List Hour) : ∀ row ∈ hrows l, row.length = 3 := by intro row h; obtain ⟨x, _, rfl⟩ := List.mem_map.1 h; rfl
theorem hrow1 (l : List Hour) : ∀ row ∈ hrows l, ∀ u ∈ row, u.oneCell' = true := by
  intro row h u hu
  obtain ⟨x, _, rfl⟩ := List.mem_map.1 h
  simp only [Hour.cells, List.mem_cons, List.not_mem_nil, or_false] at hu
  rcases hu with rfl | rfl | rfl <;> rfl
theorem irow1 (l : List Int) : ∀ row ∈ (l.map fun x => [Value.int .i64 x]), ∀ u ∈ row, u.oneCell' = true := by
  intro row h u hu
  obtain ⟨x, _, rfl⟩ := List.mem_map.1 h
  rw [List.mem_singleton.1 hu]; rfl
theorem irow_l (l : List Int) : ∀ row ∈ (l.map fun x => [Value.int .i64 x]), row.length = 1 := by intro row h; obtain ⟨x, _, rfl⟩ := List.mem_map.1 h; rfl
theorem zEk (l : List Int) : iv l = (l.map fun x => [Value.int .i64 x]).flatten := by induction l <;> simp_all [iv]
theorem zJh (l : List Hour) : (hrows l).length = l.length := List.length_map _
theorem own_hour {v : Value} {B : List (Nat × Obj)} {fs : List Ca.Farm} {l : List Int} {day : Int} {i : Nat} (hi : i < fs.length) {lo hi' : Int} (hlo : lo = (ldH l day i fs[i]).lo) (hhi : hi' = (ldH l day i fs[i]).hi) (h : Rt.Own v 48 3 (i + 1) ((hrows ((ldHs fs l day).take i)).flatten ++ [[Value.int .i64 0, .int .i64 lo, .int .i64 hi']].flatten) B) : Rt.Own v 48 3 (i + 1) (hrows ((ldHs fs l day).take (i + 1))).flatten B := by
  subst hlo hhi
  have h2 : i < (ldHs fs l day).length := by rw [zDs]; exact hi
  rw [List.take_succ_eq_append_getElem h2, ld_get hi h2]
  have e : (ldH l day i fs[i]).hold = 0 := by unfold ldH; split <;> rfl
  have e2 : (ldH l day i fs[i]).cells = [Value.int .i64 0, .int .i64 (ldH l day i fs[i]).lo, .int .i64 (ldH l day i fs[i]).hi] := by unfold Hour.cells; rw [e]
  simp only [hrows, List.map_append, List.map_cons, List.map_nil, List.flatten_append, e2]
  exact h
theorem own_zer {v : Value} {i : Nat} {B : List (Nat × Obj)} (h : Rt.Own v 3 1 (i + 1) (iv (List.replicate i 0) ++ [[Value.int .i64 0]].flatten) B) : Rt.Own v 3 1 (i + 1) (iv (List.replicate (i + 1) 0)) B := by
  rw [List.replicate_succ']; simpa [iv] using h
theorem own_shl {v : Value} {B : List (Nat × Obj)} {fs : List Ca.Farm} {l x : List Int} {day m : Int} {i : Nat} (hm : m = shP fs l x day (i + 1)) (h : Rt.Own v 3 1 (i + 1) (iv (shL fs l x day i) ++ [[Value.int .i64 m]].flatten) B) : Rt.Own v 3 1 (i + 1) (iv (shL fs l x day (i + 1))) B := by
  subst hm; unfold shL at *; rw [List.range_succ, List.map_append]; simpa [iv] using h
theorem ldH_y {f : Ca.Farm} {l : List Int} {day : Int} {i : Nat} (h : Ca.fresh f (l.getD i 0) day = true) : f.lo = (ldH l day i f).lo ∧ f.hi = (ldH l day i f).hi := by unfold ldH; rw [if_pos h]; exact ⟨rfl, rfl⟩
theorem ldH_n {f : Ca.Farm} {l : List Int} {day : Int} {i : Nat} (h : Ca.fresh f (l.getD i 0) day = false) : 0 = (ldH l day i f).lo ∧ 0 = (ldH l day i f).hi := by unfold ldH; rw [if_neg (by rw [h]; simp)]; exact ⟨rfl, rfl⟩
theorem ats_castG {w0 : World} {L : List (Nat × Obj)} {b o : Nat} {vs vs2 : List Value} (h : Ats w0 L b o vs) (e : vs2 = vs) : Ats w0 L b o vs2 := by rw [e]; exact h
theorem ld_bin0 {w0 w : World} {L : List (Nat × Obj)} {fs : List Ca.Farm} {l : List Int} {day : Int} {aH : Option Addr} {cH : Nat} (_hs : St w0 w L) (h3 : fs.length ≤ 3) (h : Sl w0 L aH 3 (hrows (ldHs fs l day))) (hc : fs.length ≤ cH) : BIn w0 L (ldB0 fs l day) ⟨aH, cH, none, 0, fun _ => ⟨none, 0, none, 0⟩⟩ :=
  ⟨h, Sl.nil _ _, fun i hi => absurd hi (Nat.not_lt_zero _), fun i hi => absurd hi (Nat.not_lt_zero _), by show (ldHs fs l day).length ≤ _; rw [zDs]; omega, by show 0 ≤ _; omega, by show (ldHs fs l day).length ≤ cH; rw [zDs]; exact hc, Nat.le_refl _, fun i hi => absurd hi (Nat.not_lt_zero _), fun i hi => absurd hi (Nat.not_lt_zero _), fun x hx => by cases hx⟩
theorem ld_bin1 {w0 : World} {L : List (Nat × Obj)} {fs : List Ca.Farm} {l x : List Int} {day : Int} {aH aZ aS : Option Addr} {cH cZ cS b : Nat} (h3 : fs.length ≤ 3) (h : Sl w0 L aH 3 (hrows (ldHs fs l day))) (hc : fs.length ≤ cH) (hk : Sl w0 L (some ⟨b, 0, none⟩) 6 [(ldC fs l x day).cells ⟨aZ, cZ, aS, cS⟩]) (hz : Sl w0 L aZ 1 ((List.replicate fs.length (0 : Int)).map fun x => [Value.int .i64 x])) (hs : Sl w0 L aS 1 ((shL fs l x day fs.length).map fun x => [Value.int .i64 x])) (hcz : fs.length ≤ cZ) (hcs : fs.length ≤ cS) : BIn w0 L (ldB1 fs l x day) ⟨aH, cH, some ⟨b, 0, none⟩, 1, fun _ => ⟨aZ, cZ, aS, cS⟩⟩ := by
  have e : ∀ i (hi : i < (ldB1 fs l x day).ctrs.length), (ldB1 fs l x day).ctrs[i] = ldC fs l x day := fun i hi => by
    have : i = 0 := by have : i < 1 := hi; omega
    subst this; rfl
  refine ⟨h, hk, fun i hi => by rw [e i hi]; exact hz, fun i hi => by rw [e i hi]; exact hs, by show (ldHs fs l day).length ≤ _; rw [zDs]; omega, by show 1 ≤ _; omega, by show (ldHs fs l day).length ≤ cH; rw [zDs]; exact hc, Nat.le_refl _, fun i hi => ?_, fun i hi => ?_, fun y hy => ?_⟩
  · rw [e i hi]; simp [ldC]; omega
  · rw [e i hi]; simp [ldC, shL]; omega
  · rw [List.mem_singleton.1 hy]; show nmC.size ≤ _; decide
abbrev Tf4abcd : OF := .done [(14,3),(15,0),(16,3)]
abbrev Tf3abcd : OF := .one [] 12 Tf4abcd
abbrev Tf2abcd : OF := .one [] 9 Tf3abcd
abbrev Tf2abcdf : OF := .one [(13,0)] 9 Tf3abcd
abbrev Tf3abc : OF := .one [] 11 Tf3abcd
abbrev Tf1abcd : OF := .one [] 5 Tf2abcdf
abbrev Tf2abc : OF := .two [] 9 11 Tf3abc Tf2abcd
abbrev Tf2abcf : OF := .two [(13,0)] 9 11 Tf3abc Tf2abcd
abbrev Tf2abd : OF := .one [] 6 Tf2abcd
abbrev Tf2abdf : OF := .one [(13,0)] 6 Tf2abcd
abbrev Tf0abcd : OF := .one [] 3 Tf1abcd
abbrev Tf1abc : OF := .two [] 5 11 Tf2abcf Tf1abcd
abbrev Tf1abd : OF := .two [] 5 6 Tf2abdf Tf1abcd
abbrev Tf1acd : OF := .one [] 4 Tf1abcd
abbrev Tf2ab : OF := .two [] 6 11 Tf2abc Tf2abd
abbrev Tf2abf : OF := .two [(13,0)] 6 11 Tf2abc Tf2abd
abbrev Tf0abc : OF := .two [] 3 11 Tf1abc Tf0abcd
abbrev Tf0abd : OF := .two [] 3 6 Tf1abd Tf0abcd
abbrev Tf0acd : OF := .two [] 3 4 Tf1acd Tf0abcd
abbrev Tf0bcd : OF := .one [] 0 Tf0abcd
abbrev Tf1ab : OF := .three [] 5 6 11 Tf2abf Tf1abc Tf1abd
abbrev Tf1ac : OF := .two [] 4 11 Tf1abc Tf1acd
abbrev Tf1ad : OF := .two [] 4 6 Tf1abd Tf1acd
abbrev Tf0ab : OF := .three [] 3 6 11 Tf1ab Tf0abc Tf0abd
abbrev Tf0ac : OF := .three [] 3 4 11 Tf1ac Tf0abc Tf0acd
abbrev Tf0ad : OF := .three [] 3 4 6 Tf1ad Tf0abd Tf0acd
abbrev Tf0bc : OF := .two [] 0 11 Tf0abc Tf0bcd
abbrev Tf0bd : OF := .two [] 0 6 Tf0abd Tf0bcd
abbrev Tf0cd : OF := .two [] 0 4 Tf0acd Tf0bcd
abbrev Tf1a : OF := .three [] 4 6 11 Tf1ab Tf1ac Tf1ad
abbrev Tf0a : OF := .four [] 3 4 6 11 Tf1a Tf0ab Tf0ac Tf0ad
abbrev Tf0b : OF := .three [] 0 6 11 Tf0ab Tf0bc Tf0bd
abbrev Tf0c : OF := .three [] 0 4 11 Tf0ac Tf0bc Tf0cd
abbrev Tf0d : OF := .three [] 0 4 6 Tf0ad Tf0bd Tf0cd
abbrev Tf0n : OF := .four [(1,0),(2,1),(7,0),(8,1),(10,0)] 0 4 6 11 Tf0a Tf0b Tf0c Tf0d
theorem c3 {w0 w : World} {F : List (Nat × Obj)} (p : Ca.Port) (a : Option Addr) (c : Nat) (hl3 : p.farms.length ≤ 9223372036854775807) (hc : p.farms.length ≤ c) (ha : Sl w0 F a 6 (Ca.rows p.farms)) (hnm : ∀ f ∈ p.farms, f.name.size ≤ 9223372036854775807) (ay : Option Addr) (cy : Nat) (y : List Int) (hyl : y.length ≤ 9223372036854775807) (hys : Sl w0 F ay 1 (y.map fun n => [Value.int .u8 n])) (hyr : ∀ z ∈ y, 0 ≤ z ∧ z ≤ 255) (d : Int) (hd : 0 ≤ d ∧ d ≤ 255) (ax : Option Addr) (cx : Nat) (x : List Int) (hxl : x.length ≤ 9223372036854775807) (hxs : Sl w0 F ax 1 (x.map fun n => [Value.int .u8 n])) (hxr : ∀ z ∈ x, 0 ≤ z ∧ z ≤ 255) (hs : St w0 w F) :
  Con Tryz.prog 3 [.agg (p.cells a c).toArray, .slice ay y.length cy, .agg #[.int .u8 d, .slice ax x.length cx]] w fun v w' => v = .bool true ∧ St w0 w' F := by
  refine zAu (n := 223) func3 rfl rfl (zNl rfl) ?_
  refine zAf (fun K2 kx => (zAa (zCa (v := .agg #[.int _ _, .int _ _, .int _ _, .slice _ _ _]) (cs := [_,_,_,_]) zAb rfl rfl rfl hs (fun b3 w4 ky => ?_))))
  refine zCa (v := .agg #[.int _ _, .slice _ _ _]) (cs := [_,_]) zAb rfl rfl rfl ky (fun b6 w7 gp => ?_)
  refine zBg rfl rfl (zAe (zAc (kx _ _ (zAf (fun we kz => ?_)))))
  have hb3a := ats_of (i := 1) (vs := (p.cells a c)) gp rfl rfl
  have hb5a := ats_of (i := 0) (vs := [.int .u8 d, .slice ax x.length cx]) gp rfl rfl
  refine zAa (w_p (zA7 (vs := [_,_,_,_]) isAgg26 sizeOf26 gp rfl rfl hb3a) rfl (zAs zAb call4 rfl rfl rfl rfl (Cb.c4 p _ _ (by omega) (by omega) ha.cons.cons hnm gp) ?_))
  rintro _ wg ⟨rfl, gV⟩
  refine w_p (zAi (v := .tuple _) rfl rfl) rfl (w_p (zAn (v := .int _ _) rfl rfl rfl) rfl (w_p (zAn (v := .int _ _) rfl rfl rfl) rfl (w_p (zAn (v := .int _ _) rfl rfl rfl) rfl (zBl rfl rfl (zBl rfl rfl (zBl rfl rfl ?_))))))
  refine zAe (zAc (kz _ _ (zAf (fun wh kA => (zAf (fun wi kB => (zAa (zBa rfl rfl (w_p (zCt rfl rfl rfl rfl) rfl (zAe (zAc (kB _ _ (zAy rfl rfl (fun gW => ?_) (fun gW => ?_))))))))))))))
  ·
   try simp only [zS] at gW
   refine zAf (fun wj kC => (zAa (zAs zAb call5 rfl rfl rfl rfl (Cb.c5 gV) ?_)))
   rintro _ wk ⟨rfl, kD⟩
   refine w_p (zAi (v := .bool _) rfl rfl) rfl (zAs (zAp rfl rfl rfl) call6 rfl rfl rfl rfl (c6 kD) ?_)
   rintro _ wl ⟨rfl, kF⟩
   refine w_p (zAx (v := .bool _) rfl rfl rfl rfl) rfl (w_p (zAm (v := .bool _) rfl rfl) rfl (zAe (zAc (kC _ _ (zA2 (zAk (zA9 (l := [.tmp 6]) (vs := [_]) rfl ⟨⟨rfl, (rfl : _ = Value.bool _)⟩, trivial⟩ ?_)))))))
   exact ⟨rfl, kF.tail.tail⟩
  try simp only [zS] at gW
  refine zAv (zAc (kA _ _ (zAf (fun wm kG => ?_))))
  have hcp : (Ca.check p).2.2 = 0 := by assumption
  have hokp := Ca.check_ok hcp
  have hn3 := hokp.len
  have hcome := hokp.come
  refine zAa (w_p (zA7 (vs := [_,_,_,_]) isAgg26 sizeOf26 gV rfl rfl hb3a) rfl (w_p (zAi (v := .slice _ _ _) rfl rfl) rfl (zAs zAb call7 rfl rfl rfl rfl (Cb.c7 p _ _ (by omega) _ _ y hyl hys.cons.cons hyr gV) ?_)))
  rintro _ wn ⟨AB, aA, cA, rfl, hslA, gj⟩
  replace gj := (show St _ _ (AB ++ (_ :: _ :: F)) from gj)
  refine w_p (zAm (v := .slice _ _ _) rfl rfl) rfl (zAe (zAc (kG _ _ (zAf (fun wo kH => (zAa (w_p (zA7 (vs := [_,_,_,_]) isAgg26 sizeOf26 gj.drop rfl rfl hb3a) rfl (w_p (zAi (v := .slice _ _ _) rfl rfl) rfl ?_))))))))
  refine w_p (zA7 (vs := [_,_]) isAgg29 sizeOf29 gj.drop rfl rfl hb5a) rfl (zAs zAb call8 rfl rfl rfl rfl (Cb.c8 p _ _ ha.cons.cons.app hokp _ _ (Ca.anyC p.farms.length y) (Ca.any_len _ _) hslA Ca.any_in d hd _ _ x hxl hxs.cons.cons.app hxr gj) ?_)
  rintro _ wp ⟨rfl, kI⟩
  refine w_p (zAi (v := .tuple _) rfl rfl) rfl (w_p (zAn (v := .int _ _) rfl rfl rfl) rfl (w_p (zAn (v := .int _ _) rfl rfl rfl) rfl (w_p (zAn (v := .int _ _) rfl rfl rfl) rfl (zBl rfl rfl (zBl rfl rfl (zBl rfl rfl ?_))))))
  refine zAe (zAc (kH _ _ (zAf (fun wr kJ => ?_))))
  obtain ⟨Z, hZ, hsZ⟩ := gen_Z kI
  have hb3 : Ats w0 Z b3 0 (p.cells a c) := by rw [hZ]; exact hb3a.app
  have hb5 : Ats w0 Z b6 0 [.int .u8 d, .slice ax x.length cx] := by rw [hZ]; exact hb5a.app
  have haZ : Sl w0 Z a 6 (Ca.rows p.farms) := by rw [hZ]; exact ha.cons.cons.app
  have hAZ : Sl w0 Z aA 1 ((Ca.anyC p.farms.length y).map fun x => [Value.int .i64 x]) := by rw [hZ]; exact hslA
  have hxZ : Sl w0 Z ax 1 (x.map fun n => [Value.int .u8 n]) := by rw [hZ]; exact hxs.cons.cons.app
  have hll := Ca.any_len p.farms.length y
  have hq1 := Int.emod_nonneg d (show p.chi - p.clo + 1 ≠ 0 by omega)
  have hq2 := Int.emod_lt_of_pos d (show 0 < p.chi - p.clo + 1 by omega)
  refine zAa (w_p (zBy (ps := [(0, _)]) (pv := [(0, .int _ _)]) rfl rfl (fun w => Try_TB_fb0 _ w)) rfl (zBb (cs := [_,_,_]) zAb zeroValue41 rfl hsZ (fun g5 wt kK => ?_)))
  refine zA4 (i := 0) (v := .agg #[.int _ _, .slice _ _ _, .slice _ _ _]) (vs := [_,_,_]) zAb sizeOf41 rfl rfl rfl rfl rfl (by simp [Value.oneCell']) kK rfl (zNl rfl) (fun wu kL => ?_)
  refine zAe (zAc (kJ _ _ (zAf (fun wv kM => (zAa (w_p (zBy (ps := [(0, _)]) (pv := [(0, .string _)]) rfl rfl (fun w => Try_TB_fb1 _ w)) rfl ?_))))))
  refine zBb (cs := [_,_,_,_,_,_]) zAb zeroValue43 rfl kL (fun g0 ww kN => ?_)
  refine zA4 (i := 0) (v := .agg #[.string _, .int _ _, .int _ _, .int _ _, .slice _ _ _, .slice _ _ _]) (vs := [_,_,_,_,_,_]) zAb sizeOf43 rfl rfl rfl rfl rfl (by simp [Value.oneCell']) kN rfl (zNl rfl) (fun wx kO => ?_)
  refine zAe (zAc (kM _ _ (zAf (fun wy kP => (zAa (zBg rfl rfl (zAe (zAc (kP _ _ (zAf (fun wz kQ => (zAf (fun wA kR => (zAa (zBg rfl rfl ?_)))))))))))))))
  refine zAe (zAc (kR _ _ (zAz ?_)))
  refine zB3 [16,17,18,19,20,21,22,23,60,61,62,63,64,65,66,67,68,69,70,71,72,73,74,75,76,77,78,79,80,81,82,83,84,85,86,87,88,89,90,91,92,93,94,95,96,97,98,99,100,101,102,103,104,105,106,107,108,109,110,111,112,113,114,115,116,117,118,119,120,121,122,123,124,125,126,127,128,129,130,131,132,133,134,135,136,137,138,139,140,141,142,143] [16,17] (fun kk vs w => ∃ (i : Nat) (aH aZ aS : Option Addr) (cH cZ cS : Nat) (BH BZ BS : List (Nat × Obj)), vs = [.int .i64 (shP p.farms (Ca.anyC p.farms.length y) x (p.clo + d % (p.chi - p.clo + 1)) i), .int .i64 i] ∧ i ≤ p.farms.length ∧ kk = p.farms.length - i ∧ Rt.Own (.slice aH (i) cH) 48 3 (i) (hrows ((ldHs p.farms (Ca.anyC p.farms.length y) (p.clo + d % (p.chi - p.clo + 1))).take i)).flatten BH ∧ Rt.Own (.slice aZ (i) cZ) 3 1 (i) (iv (List.replicate (i) 0)) BZ ∧ Rt.Own (.slice aS (i) cS) 3 1 (i) (iv (shL p.farms (Ca.anyC p.farms.length y) x (p.clo + d % (p.chi - p.clo + 1)) i)) BS ∧ St w0 w ((g0, blk 43 [.string nmC, .int .i64 0, .int .i64 0, .int .i64 0, .slice aZ (i) cZ, .slice aS (i) cS]) :: (g5, blk 41 [.int .i64 1, .slice aH (i) cH, .slice none 0 0]) :: (BH ++ (BZ ++ (BS ++ Z))))) (p.farms.length) ?_ ?_
  ·
   exact ⟨0, none, none, none, 0,0,0, [], [], [], rfl, by omega, by omega, zD4 48 3, zD4 3 1, zD4 3 1, kO⟩
  intro k vs μ wB hI wC kS
  obtain ⟨i, aH, aZ, aS, cH, cZ, cS, BH, BZ, BS, rfl, hia, rfl, hoH, hoZ, hoS, hs⟩ := hI
  obtain ⟨aH2, cH2, hvH, hslH, hcH, hnH⟩ := zFg (w0 := w0) hoH (hrow3 _) (by rw [zJh, List.length_take, zDs]; omega) rfl
  injection hvH with e1 _ e3
  subst e1 e3
  obtain ⟨aZ2, cZ2, hvZ, hslZ, hcZ, hnZ⟩ := zFg (w0 := w0) hoZ (irow_l _) (by rw [List.length_map, List.length_replicate]) (zEk _)
  injection hvZ with f1 _ f3
  subst f1 f3
  obtain ⟨aS2, cS2, hvS, hslS, hcS, hnS⟩ := zFg (w0 := w0) hoS (irow_l _) (by rw [List.length_map]; simp [shL]) (zEk _)
  injection hvS with g1 _ g3
  subst g1 g3
  refine zAf (fun wD kT => (zAf (fun wE kU => (zAa (zBa rfl rfl (w_p (zAd (o := 3) (i := 2) underlying26 rfl sizeOf24 rfl rfl rfl) rfl (w_p (zAj isAgg24 hs.tail.tail.drop.drop.drop rfl rfl (show Ats _ _ _ _ [_] from Ats.part hb3 3 1)) rfl ?_)))))))
  refine w_p (zBm underlying24 rfl rfl) rfl (w_p (zCl rfl rfl rfl rfl) rfl (zAe (zAc (kU _ _ (zAy rfl rfl (fun gX => ?_) (fun gX => ?_))))))
  ·
   try simp only [zS] at gX
   refine zAv (zAc (kT _ _ (zAf (fun wF kV => (zAz ?_)))))
   refine zAf (fun wG kW => ?_)
   have hi2 : i < p.farms.length := by omega
   obtain ⟨bf, of_, hbf, hfx⟩ := Cb.sl_farm haZ hi2
   cases hbf
   have hfo := hokp.farm _ (List.getElem_mem hi2)
   have hi3 : i < (Ca.anyC p.farms.length y).length := by omega
   obtain ⟨bl, ol, hbl, hlx⟩ := zDk hAZ hi3
   subst hbl
   have hgl := Ca.any_in _ (List.getElem_mem hi3)
   have hgd : (Ca.anyC p.farms.length y)[i] = (Ca.anyC p.farms.length y).getD i 0 := by simp [List.getD, hi3]
   rw [hgd] at hlx hgl
   have hsp := shP_in (fs := p.farms) (l := (Ca.anyC p.farms.length y)) (x := x) (day := (p.clo + d % (p.chi - p.clo + 1))) i
   have hoi := own_in (l := (Ca.anyC p.farms.length y)) (x := x) (day := (p.clo + d % (p.chi - p.clo + 1))) hokp.farm hi2
   have hfb := hfo
   unfold Ca.Farm.Ok at hfb
   have hlb : 0 ≤ (ldH (Ca.anyC p.farms.length y) (p.clo + d % (p.chi - p.clo + 1)) i (p.farms[i]'hi2)).lo ∧ (ldH (Ca.anyC p.farms.length y) (p.clo + d % (p.chi - p.clo + 1)) i (p.farms[i]'hi2)).hi ≤ 60 := by unfold ldH; split <;> (dsimp only; omega)
   refine zAa (w_p (zAd (o := 3) (i := 2) underlying26 rfl sizeOf24 rfl rfl rfl) rfl (w_p (zAj isAgg24 hs.tail.tail.drop.drop.drop rfl rfl (show Ats _ _ _ _ [_] from Ats.part hb3 3 1)) rfl (w_p (zBm underlying24 rfl rfl) rfl (zIf (k := p.farms.length) zAb underlying34 zCk rfl rfl (by omega) rfl rfl rfl rfl rfl hs (fun j6 wH kX => ?_)))))
   refine w_p (zAm (v := .slice _ _ _) rfl rfl) rfl (zAe (zAc (kW _ _ (zAf (fun wI kY => (zAf (fun wJ kZ => (zAa (zBg rfl rfl (zAe (zAc (kZ _ _ (zAz ?_)))))))))))))
   refine zB3 [19,71,72,73,74,75,76,77,78,79] [19] (fun kk vs w => ∃ (k : Nat), vs = [.int .i64 k] ∧ k ≤ p.farms.length ∧ kk = p.farms.length - k ∧ St w0 w ((j6, blk 3 (iv (negTo p.farms.length k))) :: (g0, blk 43 [.string nmC, .int .i64 0, .int .i64 0, .int .i64 0, .slice aZ (i) cZ, .slice aS (i) cS]) :: (g5, blk 41 [.int .i64 1, .slice aH (i) cH, .slice none 0 0]) :: (BH ++ (BZ ++ (BS ++ Z))))) (p.farms.length) ?_ ?_
   ·
    exact ⟨0, rfl, by omega, by omega, by rw [neg_zero]; exact kX⟩
   intro k vs μ wK hI wL m0
   obtain ⟨k, rfl, hka, rfl, hs⟩ := hI
   refine zAf (fun wM m1 => (zAf (fun wN m2 => (zAa (zBa rfl rfl (w_p (zAi (v := .slice _ _ _) rfl rfl) rfl (w_p (zBm underlying34 rfl rfl) rfl (w_p (zCl rfl rfl rfl rfl) rfl ?_))))))))
   refine zAe (zAc (m2 _ _ (zAy rfl rfl (fun gY => ?_) (fun gY => ?_))))
   ·
    try simp only [zS] at gY
    refine zAv (zAc (m1 _ _ (zAf (fun wO m3 => (zAz ?_)))))
    have hk2 : k < p.farms.length := by omega
    refine zAa (w_p (zAi (v := .slice _ _ _) rfl rfl) rfl (zBa rfl rfl (w_p (zBc underlying34 sizeOf3 rfl rfl rfl rfl (i := k) (by first | rfl | omega) (by omega)) rfl ?_)))
    refine zDz (i := 0) (j := k) zAb sizeOf3 rfl rfl rfl rfl hs rfl (by first | omega | rfl | (simp only [zIm (by omega), zGe, zL] <;> omega)) (fun wQ m4 => ?_)
    refine zAe (zAl (zAc (m3 _ _ (zAa (zBa rfl rfl (w_p (zBj rfl rfl rfl rfl (by omega) (by omega)) rfl (zBl rfl rfl (zAe (zAc (m0 _ _ (nxI (p.farms.length - (k + 1)) (by omega) ?_)))))))))))
    exact ⟨k + 1, rfl, by omega, rfl, by rw [← neg_set hk2]; exact m4⟩
   try simp only [zS] at gY
   refine zBq (zAo (zAo (zA8 (zAc (kY _ _ (zAf (fun wR m5 => (zAa (w_p (zAi (v := .slice _ _ _) rfl rfl) rfl (zBa rfl rfl (w_p (zAi (v := .slice _ _ _) rfl rfl) rfl ?_)))))))))))
   refine zBa rfl rfl (w_p (zBc underlying34 sizeOf3 rfl rfl rfl rfl (i := i) rfl hi3) rfl (w_p (zAj isAgg3 hs.tail.tail.tail.drop.drop.drop rfl rfl hlx) rfl (w_p (zBc underlying34 sizeOf3 rfl rfl rfl rfl (i := i) (by first | rfl | omega) (by omega)) rfl ?_)))
   refine zDz (i := 0) (j := i) zAb sizeOf3 rfl rfl rfl rfl hs rfl (by first | omega | rfl | (simp only [zIm (by omega), zGe, zL] <;> omega)) (fun wS gq => ?_)
   refine zAe (zAc (m5 _ _ (zAf (fun wT m6 => ?_))))
   have hkn : k = p.farms.length := by omega
   subst hkn
   rw [neg_one (Nat.sub_self _)] at gq
   refine zAa (w_p (zA7 (vs := [_,_,_,_]) isAgg26 sizeOf26 gq.tail.tail.tail.drop.drop.drop rfl rfl hb3) rfl (w_p (zAi (v := .slice _ _ _) rfl rfl) rfl (w_p (zA7 (vs := [_,_]) isAgg29 sizeOf29 gq.tail.tail.tail.drop.drop.drop rfl rfl hb5) rfl (zAs zAb call8 rfl rfl rfl rfl ((by have h9 := Cb.c8 p _ c haZ.app.app.app.cons.cons.cons hokp _ p.farms.length (oneTo p.farms.length (Ca.anyC p.farms.length y) i) (zGe _ _ _) (zEa (i := 0) rfl) (fun z hz => (List.mem_or_eq_of_mem_set hz).elim (fun h8 => by have := List.eq_of_mem_replicate h8; omega) (fun h8 => by omega)) d hd ax cx x hxl hxZ.app.app.app.cons.cons.cons hxr gq; rw [zGe, one_own hi2] at h9; exact h9)) ?_))))
   rintro _ wU ⟨rfl, m7⟩
   refine w_p (zAi (v := .tuple _) rfl rfl) rfl (w_p (zAn (v := .int _ _) rfl rfl rfl) rfl (w_p (zAn (v := .int _ _) rfl rfl rfl) rfl (w_p (zAn (v := .int _ _) rfl rfl rfl) rfl (zBl rfl rfl (zBl rfl rfl (zBl rfl rfl ?_))))))
   refine zAe (zAc (m6 _ _ (zAf (fun wV m8 => (zAa (zBb (cs := [_,_]) zAb zeroValue23 rfl m7 (fun m9 wW ma => ?_)))))))
   refine zAe (zAc (m8 _ _ (zAf (fun wX mb => (w_cut [95,96,97,98,99,100,101,102,103,104,105,106,107,108,109,110,111,112,113,114,115] [] (fun vs w => vs = [] ∧ St w0 w ((m9, blk 23 [.int .i64 (ldH (Ca.anyC p.farms.length y) (p.clo + d % (p.chi - p.clo + 1)) i (p.farms[i]'hi2)).lo, .int .i64 (ldH (Ca.anyC p.farms.length y) (p.clo + d % (p.chi - p.clo + 1)) i (p.farms[i]'hi2)).hi]) :: (j6, blk 3 (iv (oneTo p.farms.length (Ca.anyC p.farms.length y) i))) :: (g0, blk 43 [.string nmC, .int .i64 0, .int .i64 0, .int .i64 0, .slice aZ (i) cZ, .slice aS (i) cS]) :: (g5, blk 41 [.int .i64 1, .slice aH (i) cH, .slice none 0 0]) :: (BH ++ (BZ ++ (BS ++ Z))))) (fun wY j7 => ?_) ?_)))))
   ·
    refine zAf (fun wZ mc => (zCs [] [(0,0),(1,1),(2,0),(3,0),(4,1),(5,0),(6,0),(7,0),(8,1),(9,0),(10,0),(11,1),(12,0),(13,0),(14,2)] zCg (zC8 (by kernel_rfl)) ma (fun xa gk => ?_)))
    refine d_w rfl (fun _ => zAd (o := 3) (i := 2) underlying26 rfl sizeOf24 rfl rfl rfl) rfl ?_
    refine zBh rfl zAb rfl gk (fun _ hq => (zAj isAgg24 hq.tail.tail.tail.tail.drop.drop.drop rfl rfl (show Ats _ _ _ _ [_] from Ats.part hb3 3 1))) ?_
    refine d_w rfl (fun _ => zA1 rfl rfl) rfl ?_
    refine d_w rfl (fun _ => zBc underlying24 sizeOf46 rfl rfl rfl rfl (i := i) rfl hi2) rfl ?_
    refine zBh rfl zAb rfl gk (fun _ hq => (zA7 (vs := [_,_,_,_,_,_]) isAgg46 sizeOf46 hq.tail.tail.tail.tail.drop.drop.drop rfl rfl hfx)) ?_
    refine d_w rfl (fun _ => zAi (v := .slice _ _ _) rfl rfl) rfl ?_
    refine d_w rfl (fun _ => zA1 rfl rfl) rfl ?_
    refine d_w rfl (fun _ => zBc underlying34 sizeOf3 rfl rfl rfl rfl (i := i) rfl hi3) rfl ?_
    refine zBh rfl zAb rfl gk (fun _ hq => (zAj isAgg3 hq.tail.tail.tail.tail.drop.drop.drop rfl rfl hlx)) ?_
    refine d_w rfl (fun _ => zAd (o := 1) (i := 1) underlying26 rfl sizeOf23 rfl rfl rfl) rfl ?_
    refine d_w rfl (fun _ => zAd (o := 0) (i := 0) underlying23 rfl sizeOf3 rfl rfl rfl) rfl ?_
    refine zBh rfl zAb rfl gk (fun _ hq => (zAj isAgg3 hq.tail.tail.tail.tail.drop.drop.drop rfl rfl (show Ats _ _ _ _ [_] from Ats.part hb3 1 1))) ?_
    refine d_w rfl (fun _ => zA1 rfl rfl) rfl ?_
    refine d_w rfl (fun _ => zBj rfl rfl rfl rfl (by omega) (by omega)) rfl ?_
    refine zC9 rfl ?_
    refine zAs zAb call9 rfl rfl rfl rfl (Cb.c9 _ _ _ hfo (by omega) (by omega) (by omega) (by omega) gk) ?_
    rintro _ xb ⟨rfl, ge⟩
    refine zAe (qn ⟨ge, ?_⟩)
    refine zB0 ?_
    refine zAc (mc _ _ (zAy rfl rfl (fun gZ => ?_) (fun gZ => ?_)))
    ·
     try simp only [zS] at gZ
     refine zAa (w_p (zAd (o := 3) (i := 2) underlying26 rfl sizeOf24 rfl rfl rfl) rfl (w_p (zAj isAgg24 ge.tail.tail.tail.tail.drop.drop.drop rfl rfl (show Ats _ _ _ _ [_] from Ats.part hb3 3 1)) rfl (zBa rfl rfl (w_p (zBc underlying24 sizeOf46 rfl rfl rfl rfl (i := i) rfl hi2) rfl (w_p (zAd (o := 4) (i := 4) underlying46 rfl sizeOf23 rfl rfl rfl) rfl ?_)))))
     refine w_p (zA7 (vs := [_,_]) isAgg23 sizeOf23 ge.tail.tail.tail.tail.drop.drop.drop rfl rfl (show Ats _ _ _ _ [_,_] from Ats.part hfx 4 2)) rfl (zA4 (i := 0) (v := .agg #[.int _ _, .int _ _]) (vs := [_,_]) zAb sizeOf23 rfl rfl rfl rfl rfl (by simp [Value.oneCell']) ge rfl (zNl rfl) (fun xc j8 => ?_))
     refine zAe (zAc (j7 _ _ (Md.intro (by repeat (first | exact zA3 | exact zA6 | refine zA5 rfl ?_ | refine zAw rfl ?_ _ | refine zAr rfl ?_)) ?_)))
     first
       | exact ⟨rfl, by rw [← (ldH_y (by assumption)).1, ← (ldH_y (by assumption)).2]; exact j8⟩
       | exact ⟨rfl, by rw [← (ldH_n (by assumption)).1, ← (ldH_n (by assumption)).2]; exact j8⟩
    try simp only [zS] at gZ
    refine zAv (zAc (j7 _ _ (Md.intro (by repeat (first | exact zA3 | exact zA6 | refine zA5 rfl ?_ | refine zAw rfl ?_ _ | refine zAr rfl ?_)) ?_)))
    first
      | exact ⟨rfl, by rw [← (ldH_y (by assumption)).1, ← (ldH_y (by assumption)).2]; exact ge⟩
      | exact ⟨rfl, by rw [← (ldH_n (by assumption)).1, ← (ldH_n (by assumption)).2]; exact ge⟩
   intro vs μ xd hM
   obtain ⟨rfl, hs⟩ := hM
   refine zAc (mb _ _ (zAf (fun xe md => (w_cut [116,117,118,119,120,121,122,123,124] [] (fun vs w => ∃ aG cG BG, vs = [] ∧ Rt.Own (.slice aG (i + 1) cG) 48 3 (i + 1) (hrows ((ldHs p.farms (Ca.anyC p.farms.length y) (p.clo + d % (p.chi - p.clo + 1))).take (i + 1))).flatten BG ∧ St w0 w ((g0, blk 43 [.string nmC, .int .i64 0, .int .i64 0, .int .i64 0, .slice aZ (i) cZ, .slice aS (i) cS]) :: (g5, blk 41 [.int .i64 1, .slice aG (i + 1) cG, .slice none 0 0]) :: (BG ++ (BZ ++ (BS ++ Z))))) (fun xf hD => ?_) ?_))))
   ·
    refine w_drawT (C := fun w => St w0 w _) [9] (.two [(1,0),(2,1),(4,1),(5,0)] 0 6 (.two [] 3 6 (.done [(6,2),(7,2),(8,0),(9,3)]) (.done [(3,2),(7,2),(8,0),(9,3)])) (.done [(0,2),(3,2),(7,2),(8,0),(9,3)])) zCg (by kernel_rfl) hs (fun _ h => h.drew) (fun xg gr => ?_)
    refine dt_two ?_
    refine d_w rfl (fun _ => zAd (o := 1) (i := 1) underlying41 rfl sizeOf38 rfl rfl rfl) rfl ?_
    refine zBh rfl zAb rfl gr (fun _ hq => (zAj isAgg38 hq rfl rfl (zAh (i := 3) (vs := [_]) rfl rfl))) ?_
    refine zBh rfl zAb rfl gr (fun _ hq => (zA7 (vs := [_,_]) isAgg23 sizeOf23 hq rfl rfl (zAh (i := 0) (vs := [_,_]) rfl rfl))) ?_
    refine d_w rfl (fun _ => zBy (ps := [(1, _)]) (pv := [(1, .agg #[.int _ _, .int _ _])]) rfl rfl (fun w => Try_TB_fb3 _ _ w)) rfl ?_
    refine d_two rfl rfl ?_ ?_
    ·
     refine zA0 (ps := []) (pv := []) (cs := []) zAb rfl rfl (fun w => Try_TB_fb4  w) gr (fun xh xj hO => ?_)
     refine zAe (qn ⟨hO.tail, ?_⟩)
     refine dt_two ?_
     refine d_two rfl rfl ?_ ?_
     ·
      refine zBu (X := ([])) (B := [_]) (rows := (hrows ((ldHs p.farms (Ca.anyC p.farms.length y) (p.clo + d % (p.chi - p.clo + 1))).take i))) (sz := 3) (bytes := 24) zAb underlying38 zEs rfl rfl rfl rfl rfl rfl rfl rfl rfl hO zDd hslH.top.cons.cons.cons.cons.cons (by rw [zJh, List.length_take, zDs]; omega) hnH (hrow1 _) (by simp only [maxLen]; omega) (by omega) (fun xk xm j9 me gt => ?_)
      replace gt := (show St _ _ (j9 ++ (_ :: _ :: _ :: _ :: BH ++ (BZ ++ (BS ++ (Z))))) from gt)
      refine zAe (qn ⟨gt.drop, ?_⟩)
      refine dt_done ?_
      refine zC9 rfl ?_
      refine zA0 (ps := [(0, _)]) (pv := [(0, .agg #[.int _ _, .int _ _, .int _ _])]) (cs := [_,_,_]) zAb rfl rfl (fun w => zIv _ _ _ w) gt (fun xn xo ja => ?_)
      refine zAe (qn ⟨ja.tail.drop, ?_⟩)
      refine zC9 rfl ?_
      refine zBu (X := (_ :: [])) (B := j9) (rows := [[_,_,_]]) (sz := 3) (bytes := 24) zAb underlying38 zEs rfl rfl rfl rfl rfl rfl rfl rfl rfl ja me (zBp (i := 0) rfl (by simp) rfl) rfl (by simp) (by simp [Value.oneCell']) (by simp only [maxLen]; omega) (by omega) (fun mf xp g7 mg gu => ?_)
      replace gu := (show St _ _ (_ :: g7 ++ (_ :: _ :: _ :: _ :: BH ++ (BZ ++ (BS ++ (Z))))) from gu)
      refine zAe (qn ⟨gu.tail.drop, ?_⟩)
      have hH : Rt.Own mf 48 3 (i + 1) (hrows ((ldHs p.farms (Ca.anyC p.farms.length y) (p.clo + d % (p.chi - p.clo + 1))).take (i + 1))).flatten g7 := own_hour hi2 rfl rfl (by
        have h9 := mg
        rw [Nat.zero_add, List.nil_append] at h9
        exact h9)
      obtain ⟨aG, cG, rfl⟩ := hH.slice
      have mh : St _ _ (g7 ++ (_ :: _ :: _ :: _ :: BH ++ (BZ ++ (BS ++ (Z))))) := gu.tail
      have mi : St _ _ (_ :: g7 ++ (_ :: _ :: _ :: BH ++ (BZ ++ (BS ++ (Z))))) := St.perm (show St _ _ (g7 ++ (_ :: _ :: _ :: _ :: BH ++ (BZ ++ (BS ++ (Z))))) from mh) (zAq g7 [_] _)
      have mj : St _ _ (g7 ++ (_ :: _ :: _ :: BH ++ (BZ ++ (BS ++ (Z))))) := mi.tail
      have ml : St _ _ (_ :: g7 ++ (_ :: _ :: BH ++ (BZ ++ (BS ++ (Z))))) := St.perm (show St _ _ (g7 ++ (_ :: _ :: _ :: BH ++ (BZ ++ (BS ++ (Z))))) from mj) (zAq g7 [_] _)
      have mn : St _ _ (g7 ++ (_ :: _ :: BH ++ (BZ ++ (BS ++ (Z))))) := ml.tail
      have mo : St _ _ (g7 ++ (_ :: BH ++ (_ :: BZ ++ (BS ++ (Z))))) := St.perm (show St _ _ (g7 ++ (_ :: _ :: BH ++ (BZ ++ (BS ++ (Z))))) from mn) ((List.Perm.cons _ (zAq [_] BH _)).append_left g7)
      have mq : St _ _ (g7 ++ (BH ++ (_ :: _ :: BZ ++ (BS ++ (Z))))) := St.perm (show St _ _ (g7 ++ (_ :: BH ++ (_ :: BZ ++ (BS ++ (Z))))) from mo) ((zAq [_] BH _).append_left g7)
      have mr : St _ _ (BH ++ (g7 ++ (_ :: _ :: BZ ++ (BS ++ (Z))))) := St.perm (show St _ _ (g7 ++ (BH ++ (_ :: _ :: BZ ++ (BS ++ (Z))))) from mq) (zAq g7 BH _)
      have ms : St _ _ (g7 ++ (_ :: _ :: BZ ++ (BS ++ (Z)))) := mr.drop
      have mu : St _ _ (_ :: g7 ++ (_ :: BZ ++ (BS ++ (Z)))) := St.perm (show St _ _ (g7 ++ (_ :: _ :: BZ ++ (BS ++ (Z)))) from ms) (zAq g7 [_] _)
      have mv : St _ _ (_ :: _ :: g7 ++ (BZ ++ (BS ++ (Z)))) := St.perm (show St _ _ (_ :: g7 ++ (_ :: BZ ++ (BS ++ (Z)))) from mu) (List.Perm.cons _ (zAq g7 [_] _))
      refine d_w rfl (fun _ => zAd (o := 1) (i := 1) underlying41 rfl sizeOf38 rfl rfl rfl) rfl ?_
      refine zDt rfl ?_
      refine zA4 (i := 1) (v := .slice _ _ _) (vs := [_]) zAb sizeOf38 rfl rfl rfl rfl rfl (by simp [Value.oneCell']) mv rfl (zNl rfl) (fun xq mw => ?_)
      refine zAe (qn ?_)
      refine zB0 ?_
      refine zAc (hD _ _ (Md.intro (by repeat (first | exact zA3 | exact zA6 | refine zA5 rfl ?_ | refine zAw rfl ?_ _ | refine zAr rfl ?_)) ?_))
      exact ⟨_, _,_, rfl, hH, mw⟩
     refine zA0 (ps := [(0, _)]) (pv := [(0, .agg #[.int _ _, .int _ _, .int _ _])]) (cs := [_,_,_]) zAb rfl rfl (fun w => zIv _ _ _ w) hO (fun xr xt jb => ?_)
     refine zAe (qn ⟨jb.tail.tail, ?_⟩)
     refine dt_done ?_
     refine zC9 rfl ?_
     refine zBu (X := (_ :: [])) (B := [_]) (rows := (hrows ((ldHs p.farms (Ca.anyC p.farms.length y) (p.clo + d % (p.chi - p.clo + 1))).take i))) (sz := 3) (bytes := 24) zAb underlying38 zEs rfl rfl rfl rfl rfl rfl rfl rfl rfl jb zDd hslH.top.cons.cons.cons.cons.cons.cons (by rw [zJh, List.length_take, zDs]; omega) hnH (hrow1 _) (by simp only [maxLen]; omega) (by omega) (fun xu xv jc mx gv => ?_)
     replace gv := (show St _ _ (_ :: jc ++ (_ :: _ :: _ :: _ :: BH ++ (BZ ++ (BS ++ (Z))))) from gv)
     refine zAe (qn ⟨gv.tail.drop, ?_⟩)
     refine zC9 rfl ?_
     refine zBu (X := (_ :: [])) (B := jc) (rows := [[_,_,_]]) (sz := 3) (bytes := 24) zAb underlying38 zEs rfl rfl rfl rfl rfl rfl rfl rfl rfl gv mx (zBp (i := 0) rfl (by simp) rfl) rfl (by simp) (by simp [Value.oneCell']) (by simp only [maxLen]; omega) (by omega) (fun my xw g8 mz gw => ?_)
     replace gw := (show St _ _ (_ :: g8 ++ (_ :: _ :: _ :: _ :: BH ++ (BZ ++ (BS ++ (Z))))) from gw)
     refine zAe (qn ⟨gw.tail.drop, ?_⟩)
     have hH : Rt.Own my 48 3 (i + 1) (hrows ((ldHs p.farms (Ca.anyC p.farms.length y) (p.clo + d % (p.chi - p.clo + 1))).take (i + 1))).flatten g8 := own_hour hi2 rfl rfl (by
       have h9 := mz
       rw [Nat.zero_add, List.nil_append] at h9
       exact h9)
     obtain ⟨aG, cG, rfl⟩ := hH.slice
     have mA : St _ _ (g8 ++ (_ :: _ :: _ :: _ :: BH ++ (BZ ++ (BS ++ (Z))))) := gw.tail
     have mB : St _ _ (_ :: g8 ++ (_ :: _ :: _ :: BH ++ (BZ ++ (BS ++ (Z))))) := St.perm (show St _ _ (g8 ++ (_ :: _ :: _ :: _ :: BH ++ (BZ ++ (BS ++ (Z))))) from mA) (zAq g8 [_] _)
     have mC : St _ _ (g8 ++ (_ :: _ :: _ :: BH ++ (BZ ++ (BS ++ (Z))))) := mB.tail
     have mD : St _ _ (_ :: g8 ++ (_ :: _ :: BH ++ (BZ ++ (BS ++ (Z))))) := St.perm (show St _ _ (g8 ++ (_ :: _ :: _ :: BH ++ (BZ ++ (BS ++ (Z))))) from mC) (zAq g8 [_] _)
     have mE : St _ _ (g8 ++ (_ :: _ :: BH ++ (BZ ++ (BS ++ (Z))))) := mD.tail
     have mF : St _ _ (g8 ++ (_ :: BH ++ (_ :: BZ ++ (BS ++ (Z))))) := St.perm (show St _ _ (g8 ++ (_ :: _ :: BH ++ (BZ ++ (BS ++ (Z))))) from mE) ((List.Perm.cons _ (zAq [_] BH _)).append_left g8)
     have mG : St _ _ (g8 ++ (BH ++ (_ :: _ :: BZ ++ (BS ++ (Z))))) := St.perm (show St _ _ (g8 ++ (_ :: BH ++ (_ :: BZ ++ (BS ++ (Z))))) from mF) ((zAq [_] BH _).append_left g8)
     have mH : St _ _ (BH ++ (g8 ++ (_ :: _ :: BZ ++ (BS ++ (Z))))) := St.perm (show St _ _ (g8 ++ (BH ++ (_ :: _ :: BZ ++ (BS ++ (Z))))) from mG) (zAq g8 BH _)
     have mI : St _ _ (g8 ++ (_ :: _ :: BZ ++ (BS ++ (Z)))) := mH.drop
     have mJ : St _ _ (_ :: g8 ++ (_ :: BZ ++ (BS ++ (Z)))) := St.perm (show St _ _ (g8 ++ (_ :: _ :: BZ ++ (BS ++ (Z)))) from mI) (zAq g8 [_] _)
     have mK : St _ _ (_ :: _ :: g8 ++ (BZ ++ (BS ++ (Z)))) := St.perm (show St _ _ (_ :: g8 ++ (_ :: BZ ++ (BS ++ (Z)))) from mJ) (List.Perm.cons _ (zAq g8 [_] _))
     refine d_w rfl (fun _ => zAd (o := 1) (i := 1) underlying41 rfl sizeOf38 rfl rfl rfl) rfl ?_
     refine zDt rfl ?_
     refine zA4 (i := 1) (v := .slice _ _ _) (vs := [_]) zAb sizeOf38 rfl rfl rfl rfl rfl (by simp [Value.oneCell']) mK rfl (zNl rfl) (fun xx mL => ?_)
     refine zAe (qn ?_)
     refine zB0 ?_
     refine zAc (hD _ _ (Md.intro (by repeat (first | exact zA3 | exact zA6 | refine zA5 rfl ?_ | refine zAw rfl ?_ _ | refine zAr rfl ?_)) ?_))
     exact ⟨_, _,_, rfl, hH, mL⟩
    refine zA0 (ps := [(0, _)]) (pv := [(0, .agg #[.int _ _, .int _ _, .int _ _])]) (cs := [_,_,_]) zAb rfl rfl (fun w => zIv _ _ _ w) gr (fun xy xz jd => ?_)
    refine zAe (qn ⟨jd.tail, ?_⟩)
    refine dt_done ?_
    refine zC9 rfl ?_
    refine zA0 (ps := []) (pv := []) (cs := []) zAb rfl rfl (fun w => Try_TB_fb4  w) jd (fun xA xB je => ?_)
    refine zAe (qn ⟨je.tail.tail, ?_⟩)
    refine zC9 rfl ?_
    refine zBu (X := ([])) (B := [_]) (rows := (hrows ((ldHs p.farms (Ca.anyC p.farms.length y) (p.clo + d % (p.chi - p.clo + 1))).take i))) (sz := 3) (bytes := 24) zAb underlying38 zEs rfl rfl rfl rfl rfl rfl rfl rfl rfl je zDd hslH.top.cons.cons.cons.cons.cons.cons (by rw [zJh, List.length_take, zDs]; omega) hnH (hrow1 _) (by simp only [maxLen]; omega) (by omega) (fun xC xD hP mM gx => ?_)
    replace gx := (show St _ _ (hP ++ (_ :: _ :: _ :: _ :: _ :: BH ++ (BZ ++ (BS ++ (Z))))) from gx)
    refine zAe (qn ⟨gx.drop.tail, ?_⟩)
    refine zC9 rfl ?_
    refine zBu (X := ([])) (B := hP) (rows := [[_,_,_]]) (sz := 3) (bytes := 24) zAb underlying38 zEs rfl rfl rfl rfl rfl rfl rfl rfl rfl gx mM (show Sl _ (hP ++ _) _ _ _ from Sl.app (zBp (i := 0) rfl (by simp) rfl)) rfl (by simp) (by simp [Value.oneCell']) (by simp only [maxLen]; omega) (by omega) (fun mO xE g6 mP gy => ?_)
    replace gy := (show St _ _ (g6 ++ (_ :: _ :: _ :: _ :: _ :: BH ++ (BZ ++ (BS ++ (Z))))) from gy)
    refine zAe (qn ⟨gy.drop.tail, ?_⟩)
    have hH : Rt.Own mO 48 3 (i + 1) (hrows ((ldHs p.farms (Ca.anyC p.farms.length y) (p.clo + d % (p.chi - p.clo + 1))).take (i + 1))).flatten g6 := own_hour hi2 rfl rfl (by
      have h9 := mP
      rw [Nat.zero_add, List.nil_append] at h9
      exact h9)
    obtain ⟨aG, cG, rfl⟩ := hH.slice
    have mQ : St _ _ (_ :: g6 ++ (_ :: _ :: _ :: _ :: BH ++ (BZ ++ (BS ++ (Z))))) := St.perm (show St _ _ (g6 ++ (_ :: _ :: _ :: _ :: _ :: BH ++ (BZ ++ (BS ++ (Z))))) from gy) (zAq g6 [_] _)
    have mR : St _ _ (g6 ++ (_ :: _ :: _ :: _ :: BH ++ (BZ ++ (BS ++ (Z))))) := mQ.tail
    have mS : St _ _ (_ :: g6 ++ (_ :: _ :: _ :: BH ++ (BZ ++ (BS ++ (Z))))) := St.perm (show St _ _ (g6 ++ (_ :: _ :: _ :: _ :: BH ++ (BZ ++ (BS ++ (Z))))) from mR) (zAq g6 [_] _)
    have mT : St _ _ (g6 ++ (_ :: _ :: _ :: BH ++ (BZ ++ (BS ++ (Z))))) := mS.tail
    have mU : St _ _ (_ :: g6 ++ (_ :: _ :: BH ++ (BZ ++ (BS ++ (Z))))) := St.perm (show St _ _ (g6 ++ (_ :: _ :: _ :: BH ++ (BZ ++ (BS ++ (Z))))) from mT) (zAq g6 [_] _)
    have mV : St _ _ (g6 ++ (_ :: _ :: BH ++ (BZ ++ (BS ++ (Z))))) := mU.tail
    have mW : St _ _ (g6 ++ (_ :: BH ++ (_ :: BZ ++ (BS ++ (Z))))) := St.perm (show St _ _ (g6 ++ (_ :: _ :: BH ++ (BZ ++ (BS ++ (Z))))) from mV) ((List.Perm.cons _ (zAq [_] BH _)).append_left g6)
    have mX : St _ _ (g6 ++ (BH ++ (_ :: _ :: BZ ++ (BS ++ (Z))))) := St.perm (show St _ _ (g6 ++ (_ :: BH ++ (_ :: BZ ++ (BS ++ (Z))))) from mW) ((zAq [_] BH _).append_left g6)
    have mY : St _ _ (BH ++ (g6 ++ (_ :: _ :: BZ ++ (BS ++ (Z))))) := St.perm (show St _ _ (g6 ++ (BH ++ (_ :: _ :: BZ ++ (BS ++ (Z))))) from mX) (zAq g6 BH _)
    have mZ : St _ _ (g6 ++ (_ :: _ :: BZ ++ (BS ++ (Z)))) := mY.drop
    have q0 : St _ _ (_ :: g6 ++ (_ :: BZ ++ (BS ++ (Z)))) := St.perm (show St _ _ (g6 ++ (_ :: _ :: BZ ++ (BS ++ (Z)))) from mZ) (zAq g6 [_] _)
    have q1 : St _ _ (_ :: _ :: g6 ++ (BZ ++ (BS ++ (Z)))) := St.perm (show St _ _ (_ :: g6 ++ (_ :: BZ ++ (BS ++ (Z)))) from q0) (List.Perm.cons _ (zAq g6 [_] _))
    refine d_w rfl (fun _ => zAd (o := 1) (i := 1) underlying41 rfl sizeOf38 rfl rfl rfl) rfl ?_
    refine zDt rfl ?_
    refine zA4 (i := 1) (v := .slice _ _ _) (vs := [_]) zAb sizeOf38 rfl rfl rfl rfl rfl (by simp [Value.oneCell']) q1 rfl (zNl rfl) (fun xF q2 => ?_)
    refine zAe (qn ?_)
    refine zB0 ?_
    refine zAc (hD _ _ (Md.intro (by repeat (first | exact zA3 | exact zA6 | refine zA5 rfl ?_ | refine zAw rfl ?_ _ | refine zAr rfl ?_)) ?_))
    exact ⟨_, _,_, rfl, hH, q2⟩
   intro vs μ xG hM
   clear hs
   obtain ⟨aG, cG, BG, rfl, hoG, hs⟩ := hM
   refine zAc (md _ _ (zAf (fun xH q3 => (zAa (zBa rfl rfl (zBa rfl rfl (w_p (zBj rfl rfl rfl rfl (by omega) (by omega)) rfl (w_p (y_rem rfl rfl rfl rfl (by omega) (by omega)) rfl ?_))))))))
   refine zBl rfl rfl (zAe (zAc (q3 _ _ (w_drawG (C := fun w => St w0 w _) [14,16] Tf0n zCg (by kernel_rfl) hs (fun _ h => h.drew) (fun X212 hX213 xI g4 => ?_)))))
   refine zB9 [129,130,131,132,133,134,135,136,137,138,139,140,141,142,143] [131,137,139,134,142,141] (fun vs w => ∃ (vZ : Value) (BZc : List (Nat × Obj)) (vS : Value) (BSc : List (Nat × Obj)), vs = [.slice aZ i cZ, .slice aS i cS, .int .i64 (shP p.farms (Ca.anyC p.farms.length y) x (p.clo + d % (p.chi - p.clo + 1)) (i + 1)), vZ, .pointer (some ⟨g0,4, none⟩), vS] ∧ Rt.Own vZ 3 1 (i + 1) (iv (List.replicate (i + 1) 0)) BZc ∧ Rt.Own vS 3 1 (i + 1) (iv (shL p.farms (Ca.anyC p.farms.length y) x (p.clo + d % (p.chi - p.clo + 1)) (i + 1))) BSc ∧ St w0 w ((BZc ++ (BSc ++ (((g0, blk 43 [.string nmC, .int .i64 0, .int .i64 0, .int .i64 0, .slice aZ (i) cZ, .slice aS (i) cS]) :: (g5, blk 41 [.int .i64 1, .slice aG (i + 1) cG, .slice none 0 0]) :: (BG ++ (BZ ++ (BS ++ Z))))))))) Tf4abcd ?_ (fun hS215 => ?_)
   ·
    intro vs μ wq hM
    clear hs g4
    subst hX213
    obtain ⟨vZ, BZc, vS, BSc, rfl, hoZ, hoS, hs⟩ := hM
    have hZn := hoZ
    have hSn := hoS
    obtain ⟨aY, cY, rfl⟩ := hoZ.slice
    obtain ⟨aW, cW, rfl⟩ := hoS.slice
    have q4 : St _ _ (BZc ++ (BSc ++ (_ :: _ :: BZ ++ (BG ++ (BS ++ (Z)))))) := St.perm (show St _ _ (BZc ++ (BSc ++ (_ :: _ :: BG ++ (BZ ++ (BS ++ (Z)))))) from hs) (((List.Perm.cons _ (List.Perm.cons _ (zAq BG BZ _))).append_left BSc).append_left BZc)
    have q5 : St _ _ (BZc ++ (BSc ++ (_ :: BZ ++ (_ :: BG ++ (BS ++ (Z)))))) := St.perm (show St _ _ (BZc ++ (BSc ++ (_ :: _ :: BZ ++ (BG ++ (BS ++ (Z)))))) from q4) (((List.Perm.cons _ (zAq [_] BZ _)).append_left BSc).append_left BZc)
    have q6 : St _ _ (BZc ++ (BSc ++ (BZ ++ (_ :: _ :: BG ++ (BS ++ (Z)))))) := St.perm (show St _ _ (BZc ++ (BSc ++ (_ :: BZ ++ (_ :: BG ++ (BS ++ (Z)))))) from q5) (((zAq [_] BZ _).append_left BSc).append_left BZc)
    have q7 : St _ _ (BZc ++ (BZ ++ (BSc ++ (_ :: _ :: BG ++ (BS ++ (Z)))))) := St.perm (show St _ _ (BZc ++ (BSc ++ (BZ ++ (_ :: _ :: BG ++ (BS ++ (Z)))))) from q6) ((zAq BSc BZ _).append_left BZc)
    have q8 : St _ _ (BZ ++ (BZc ++ (BSc ++ (_ :: _ :: BG ++ (BS ++ (Z)))))) := St.perm (show St _ _ (BZc ++ (BZ ++ (BSc ++ (_ :: _ :: BG ++ (BS ++ (Z)))))) from q7) (zAq BZc BZ _)
    have q9 : St _ _ (BZc ++ (BSc ++ (_ :: _ :: BG ++ (BS ++ (Z))))) := q8.drop
    have qa : St _ _ (BZc ++ (BSc ++ (_ :: _ :: BS ++ (BG ++ (Z))))) := St.perm (show St _ _ (BZc ++ (BSc ++ (_ :: _ :: BG ++ (BS ++ (Z))))) from q9) (((List.Perm.cons _ (List.Perm.cons _ (zAq BG BS _))).append_left BSc).append_left BZc)
    have qb : St _ _ (BZc ++ (BSc ++ (_ :: BS ++ (_ :: BG ++ (Z))))) := St.perm (show St _ _ (BZc ++ (BSc ++ (_ :: _ :: BS ++ (BG ++ (Z))))) from qa) (((List.Perm.cons _ (zAq [_] BS _)).append_left BSc).append_left BZc)
    have qd : St _ _ (BZc ++ (BSc ++ (BS ++ (_ :: _ :: BG ++ (Z))))) := St.perm (show St _ _ (BZc ++ (BSc ++ (_ :: BS ++ (_ :: BG ++ (Z))))) from qb) (((zAq [_] BS _).append_left BSc).append_left BZc)
    have qe : St _ _ (BZc ++ (BS ++ (BSc ++ (_ :: _ :: BG ++ (Z))))) := St.perm (show St _ _ (BZc ++ (BSc ++ (BS ++ (_ :: _ :: BG ++ (Z))))) from qd) ((zAq BSc BS _).append_left BZc)
    have qf : St _ _ (BS ++ (BZc ++ (BSc ++ (_ :: _ :: BG ++ (Z))))) := St.perm (show St _ _ (BZc ++ (BS ++ (BSc ++ (_ :: _ :: BG ++ (Z))))) from qe) (zAq BZc BS _)
    have qg : St _ _ (BZc ++ (BSc ++ (_ :: _ :: BG ++ (Z)))) := qf.drop
    have qh : St _ _ (BZc ++ (_ :: BSc ++ (_ :: BG ++ (Z)))) := St.perm (show St _ _ (BZc ++ (BSc ++ (_ :: _ :: BG ++ (Z)))) from qg) ((zAq BSc [_] _).append_left BZc)
    have qi : St _ _ (_ :: BZc ++ (BSc ++ (_ :: BG ++ (Z)))) := St.perm (show St _ _ (BZc ++ (_ :: BSc ++ (_ :: BG ++ (Z)))) from qh) (zAq BZc [_] _)
    have qj : St _ _ (_ :: BZc ++ (_ :: BSc ++ (BG ++ (Z)))) := St.perm (show St _ _ (_ :: BZc ++ (BSc ++ (_ :: BG ++ (Z)))) from qi) (List.Perm.cons _ ((zAq BSc [_] _).append_left BZc))
    have qk : St _ _ (_ :: _ :: BZc ++ (BSc ++ (BG ++ (Z)))) := St.perm (show St _ _ (_ :: BZc ++ (_ :: BSc ++ (BG ++ (Z)))) from qj) (List.Perm.cons _ (zAq BZc [_] _))
    have ql : St _ _ (_ :: _ :: BZc ++ (BG ++ (BSc ++ (Z)))) := St.perm (show St _ _ (_ :: _ :: BZc ++ (BSc ++ (BG ++ (Z)))) from qk) (List.Perm.cons _ (List.Perm.cons _ ((zAq BSc BG _).append_left BZc)))
    have qm : St _ _ (_ :: _ :: BG ++ (BZc ++ (BSc ++ (Z)))) := St.perm (show St _ _ (_ :: _ :: BZc ++ (BG ++ (BSc ++ (Z)))) from ql) (List.Perm.cons _ (List.Perm.cons _ (zAq BZc BG _)))
    refine zDt rfl ?_
    refine zA4 (i := 0) (v := .slice _ _ _) (vs := [_]) zAb sizeOf34 rfl rfl rfl rfl rfl (by simp [Value.oneCell']) qm rfl (zNl rfl) (fun xJ qo => ?_)
    refine zAe (qn ?_)
    refine d_w rfl (fun _ => zAd (o := 5) (i := 5) underlying43 rfl sizeOf34 rfl rfl rfl) rfl ?_
    refine zDt rfl ?_
    refine zA4 (i := 0) (v := .slice _ _ _) (vs := [_]) zAb sizeOf34 rfl rfl rfl rfl rfl (by simp [Value.oneCell']) qo rfl (zNl rfl) (fun xK qp => ?_)
    refine zAe (qn ?_)
    refine zB0 ?_
    refine zAl (zAc (kV _ _ (zAa (zBa rfl rfl (w_p (zBj rfl rfl rfl rfl (by omega) (by omega)) rfl (zBl rfl rfl (zAe (zAc (kS _ _ (nxI (p.farms.length - (i + 1)) (by omega) ?_))))))))))
    exact ⟨i + 1, aG, aY, aW, cG, cY, cW, BG, BZc, BSc, rfl, by omega, rfl, hoG, hZn, hSn, qp⟩
   refine zB9 [129,130,131,132,133,134,135,136,137,138,139,140,141,142,143] [131,137,139,140,134,142,138] (fun vs w => ∃ (bb3 : Nat) (vZ : Value) (BZc : List (Nat × Obj)) (vS : Value) (BSc : List (Nat × Obj)), vs = [.slice aZ i cZ, .slice aS i cS, .int .i64 (shP p.farms (Ca.anyC p.farms.length y) x (p.clo + d % (p.chi - p.clo + 1)) (i + 1)), .slice (some ⟨bb3,0, none⟩) 1 1, vZ, .pointer (some ⟨g0,4, none⟩), vS] ∧ Rt.Own vZ 3 1 (i + 1) (iv (List.replicate (i + 1) 0)) BZc ∧ Rt.Own vS 3 1 i (iv (shL p.farms (Ca.anyC p.farms.length y) x (p.clo + d % (p.chi - p.clo + 1)) i)) BSc ∧ St w0 w ((bb3, blk 3 [.int .i64 (shP p.farms (Ca.anyC p.farms.length y) x (p.clo + d % (p.chi - p.clo + 1)) (i + 1))]) :: (BZc ++ (BSc ++ (((g0, blk 43 [.string nmC, .int .i64 0, .int .i64 0, .int .i64 0, .slice aZ (i) cZ, .slice aS (i) cS]) :: (g5, blk 41 [.int .i64 1, .slice aG (i + 1) cG, .slice none 0 0]) :: (BG ++ (BZ ++ (BS ++ Z))))))))) Tf3abcd ?_ (fun hS238 => ?_)
   ·
    intro vs μ wq hM
    clear hs g4
    subst hX213
    obtain ⟨bb3, vZ, BZc, vS, BSc, rfl, hoZ, hoS, hs⟩ := hM
    refine zB0 (zCn rfl ?_)
    ·
     refine zBu (X := (_ :: BZc)) (B := BSc) (rows := [[_]]) (sz := 1) (bytes := 8) zAb underlying34 zCk rfl rfl rfl rfl rfl rfl rfl rfl rfl hs hoS (zBp (i := 0) rfl (by simp) rfl) rfl (by simp) (by simp [Value.oneCell']) (by simp only [maxLen]; omega) (by omega) (fun jf xL gz qq gA => ?_)
     replace gA := (show St _ _ (_ :: BZc ++ (gz ++ (_ :: _ :: BG ++ (BZ ++ (BS ++ (Z)))))) from gA)
     have hA244 : Rt.Own jf 3 1 (i + 1) (iv (shL p.farms (Ca.anyC p.farms.length y) x (p.clo + d % (p.chi - p.clo + 1)) (i + 1))) gz := own_shl rfl qq
     refine zAe (qn ⟨gA.tail.drop.drop, ?_⟩)
     have qr : St _ _ (BZc ++ (gz ++ (_ :: _ :: BG ++ (BZ ++ (BS ++ (Z)))))) := gA.tail
     exact hS215 _ _ (Md.intro (by repeat (first | exact zA3 | exact zA6 | refine zA5 rfl ?_ | refine zAw rfl ?_ _ | refine zAr rfl ?_)) ⟨vZ, BZc, jf, gz, rfl, hoZ, hA244, qr⟩)
   refine zB9 [129,130,131,132,133,134,135,136,137,138,139,140,141,142,143] [131,137,139,135,140,134,142] (fun vs w => ∃ (bb2 : Nat) (bb3 : Nat) (vZ : Value) (BZc : List (Nat × Obj)), vs = [.slice aZ i cZ, .slice aS i cS, .int .i64 (shP p.farms (Ca.anyC p.farms.length y) x (p.clo + d % (p.chi - p.clo + 1)) (i + 1)), .slice (some ⟨bb2,0, none⟩) 0 0, .slice (some ⟨bb3,0, none⟩) 1 1, vZ, .pointer (some ⟨g0,4, none⟩)] ∧ Rt.Own vZ 3 1 (i + 1) (iv (List.replicate (i + 1) 0)) BZc ∧ St w0 w ((bb2, blk 3 []) :: (bb3, blk 3 [.int .i64 (shP p.farms (Ca.anyC p.farms.length y) x (p.clo + d % (p.chi - p.clo + 1)) (i + 1))]) :: (BZc ++ (((g0, blk 43 [.string nmC, .int .i64 0, .int .i64 0, .int .i64 0, .slice aZ (i) cZ, .slice aS (i) cS]) :: (g5, blk 41 [.int .i64 1, .slice aG (i + 1) cG, .slice none 0 0]) :: (BG ++ (BZ ++ (BS ++ Z)))))))) Tf2abcd ?_ (fun hS246 => ?_)
   ·
    intro vs μ wq hM
    clear hs g4
    subst hX213
    obtain ⟨bb2, bb3, vZ, BZc, rfl, hoZ, hs⟩ := hM
    refine zB0 (zCn rfl ?_)
    ·
     refine zBu (X := ([])) (B := [_]) (rows := ((shL p.farms (Ca.anyC p.farms.length y) x (p.clo + d % (p.chi - p.clo + 1)) i).map fun x => [Value.int .i64 x])) (sz := 1) (bytes := 8) zAb underlying34 zCk rfl rfl rfl rfl rfl rfl rfl rfl rfl hs zDd hslS.top.app.app.cons.cons.app.cons.cons (by rw [List.length_map]; simp [shL]) hnS (irow1 _) (by simp only [maxLen]; omega) (by omega) (fun jg xM ga qs gB => ?_)
     replace gB := (show St _ _ (ga ++ (_ :: BZc ++ (_ :: _ :: BG ++ (BZ ++ (BS ++ (Z)))))) from gB)
     have hA252 : Rt.Own jg 3 1 i (iv (shL p.farms (Ca.anyC p.farms.length y) x (p.clo + d % (p.chi - p.clo + 1)) i)) ga := (by
       have h9 := qs
       rw [Nat.zero_add, List.nil_append, ← zEk] at h9
       exact h9)
     refine zAe (qn ⟨gB.drop.tail.drop, ?_⟩)
     have qt : St _ _ (_ :: ga ++ (BZc ++ (_ :: _ :: BG ++ (BZ ++ (BS ++ (Z)))))) := St.perm (show St _ _ (ga ++ (_ :: BZc ++ (_ :: _ :: BG ++ (BZ ++ (BS ++ (Z)))))) from gB) (zAq ga [_] _)
     have qu : St _ _ (_ :: BZc ++ (ga ++ (_ :: _ :: BG ++ (BZ ++ (BS ++ (Z)))))) := St.perm (show St _ _ (_ :: ga ++ (BZc ++ (_ :: _ :: BG ++ (BZ ++ (BS ++ (Z)))))) from qt) (List.Perm.cons _ (zAq ga BZc _))
     exact hS238 _ _ (Md.intro (by repeat (first | exact zA3 | exact zA6 | refine zA5 rfl ?_ | refine zAw rfl ?_ _ | refine zAr rfl ?_)) ⟨bb3, vZ, BZc, jg, ga, rfl, hoZ, hA252, qu⟩)
   refine zB9 [129,130,131,132,133,134,135,136,137,138,139,140,141,142,143] [131,137,139,134,142,138] (fun vs w => ∃ (vZ : Value) (BZc : List (Nat × Obj)) (vS : Value) (BSc : List (Nat × Obj)), vs = [.slice aZ i cZ, .slice aS i cS, .int .i64 (shP p.farms (Ca.anyC p.farms.length y) x (p.clo + d % (p.chi - p.clo + 1)) (i + 1)), vZ, .pointer (some ⟨g0,4, none⟩), vS] ∧ Rt.Own vZ 3 1 (i + 1) (iv (List.replicate (i + 1) 0)) BZc ∧ Rt.Own vS 3 1 i (iv (shL p.farms (Ca.anyC p.farms.length y) x (p.clo + d % (p.chi - p.clo + 1)) i)) BSc ∧ St w0 w ((BZc ++ (BSc ++ (((g0, blk 43 [.string nmC, .int .i64 0, .int .i64 0, .int .i64 0, .slice aZ (i) cZ, .slice aS (i) cS]) :: (g5, blk 41 [.int .i64 1, .slice aG (i + 1) cG, .slice none 0 0]) :: (BG ++ (BZ ++ (BS ++ Z))))))))) Tf3abc ?_ (fun hS255 => ?_)
   ·
    intro vs μ wq hM
    clear hs g4
    subst hX213
    obtain ⟨vZ, BZc, vS, BSc, rfl, hoZ, hoS, hs⟩ := hM
    refine zB0 (zCn rfl ?_)
    ·
     refine zA0 (ps := [(0, _)]) (pv := [(0, .int _ _)]) (cs := [_]) zAb rfl rfl (fun w => zBt _ w) hs (fun qv xN jh => ?_)
     refine zAe (qn ⟨jh.tail.drop.drop, ?_⟩)
     exact hS238 _ _ (Md.intro (by repeat (first | exact zA3 | exact zA6 | refine zA5 rfl ?_ | refine zAw rfl ?_ _ | refine zAr rfl ?_)) ⟨qv, vZ, BZc, vS, BSc, rfl, hoZ, hoS, jh⟩)
   refine zB9 [129,130,131,132,133,134,135,136,137,138,139,140,141,142,143] [131,137,139,133,135,140,132] (fun vs w => ∃ (bb1 : Nat) (bb2 : Nat) (bb3 : Nat) (vZ : Value) (BZc : List (Nat × Obj)), vs = [.slice aZ i cZ, .slice aS i cS, .int .i64 (shP p.farms (Ca.anyC p.farms.length y) x (p.clo + d % (p.chi - p.clo + 1)) (i + 1)), .slice (some ⟨bb1,0, none⟩) 1 1, .slice (some ⟨bb2,0, none⟩) 0 0, .slice (some ⟨bb3,0, none⟩) 1 1, vZ] ∧ Rt.Own vZ 3 1 i (iv (List.replicate i 0)) BZc ∧ St w0 w ((bb1, blk 3 [.int .i64 0]) :: (bb2, blk 3 []) :: (bb3, blk 3 [.int .i64 (shP p.farms (Ca.anyC p.farms.length y) x (p.clo + d % (p.chi - p.clo + 1)) (i + 1))]) :: (BZc ++ (((g0, blk 43 [.string nmC, .int .i64 0, .int .i64 0, .int .i64 0, .slice aZ (i) cZ, .slice aS (i) cS]) :: (g5, blk 41 [.int .i64 1, .slice aG (i + 1) cG, .slice none 0 0]) :: (BG ++ (BZ ++ (BS ++ Z)))))))) Tf1abcd ?_ (fun hS259 => ?_)
   ·
    intro vs μ wq hM
    clear hs g4
    subst hX213
    obtain ⟨bb1, bb2, bb3, vZ, BZc, rfl, hoZ, hs⟩ := hM
    refine zB0 (zCn rfl ?_)
    ·
     refine zBu (X := (_ :: _ :: _ :: [])) (B := BZc) (rows := [[_]]) (sz := 1) (bytes := 8) zAb underlying34 zCk rfl rfl rfl rfl rfl rfl rfl rfl rfl hs hoZ (zBp (i := 0) rfl (by simp) rfl) rfl (by simp) (by simp [Value.oneCell']) (by simp only [maxLen]; omega) (by omega) (fun ji xO gC qw gD => ?_)
     replace gD := (show St _ _ (_ :: _ :: _ :: gC ++ (_ :: _ :: BG ++ (BZ ++ (BS ++ (Z))))) from gD)
     have hA265 : Rt.Own ji 3 1 (i + 1) (iv (List.replicate (i + 1) 0)) gC := own_zer qw
     refine zAe (qn ⟨gD.tail.tail.tail.drop, ?_⟩)
     refine d_w rfl (fun _ => zAd (o := 4) (i := 4) underlying43 rfl sizeOf34 rfl rfl rfl) rfl ?_
     have qx : St _ _ (_ :: _ :: gC ++ (_ :: _ :: BG ++ (BZ ++ (BS ++ (Z))))) := gD.tail
     exact hS246 _ _ (Md.intro (by repeat (first | exact zA3 | exact zA6 | refine zA5 rfl ?_ | refine zAw rfl ?_ _ | refine zAr rfl ?_)) ⟨bb2, bb3, ji, gC, rfl, hA265, qx⟩)
   refine zB9 [129,130,131,132,133,134,135,136,137,138,139,140,141,142,143] [131,137,139,135,134,142] (fun vs w => ∃ (bb2 : Nat) (vZ : Value) (BZc : List (Nat × Obj)), vs = [.slice aZ i cZ, .slice aS i cS, .int .i64 (shP p.farms (Ca.anyC p.farms.length y) x (p.clo + d % (p.chi - p.clo + 1)) (i + 1)), .slice (some ⟨bb2,0, none⟩) 0 0, vZ, .pointer (some ⟨g0,4, none⟩)] ∧ Rt.Own vZ 3 1 (i + 1) (iv (List.replicate (i + 1) 0)) BZc ∧ St w0 w ((bb2, blk 3 []) :: (BZc ++ (((g0, blk 43 [.string nmC, .int .i64 0, .int .i64 0, .int .i64 0, .slice aZ (i) cZ, .slice aS (i) cS]) :: (g5, blk 41 [.int .i64 1, .slice aG (i + 1) cG, .slice none 0 0]) :: (BG ++ (BZ ++ (BS ++ Z)))))))) Tf2abc ?_ (fun hS267 => ?_)
   ·
    intro vs μ wq hM
    clear hs g4
    subst hX213
    obtain ⟨bb2, vZ, BZc, rfl, hoZ, hs⟩ := hM
    refine zB0 ⟨zCn rfl ?_, zCn rfl ?_⟩
    ·
     refine zBu (X := ([])) (B := [_]) (rows := ((shL p.farms (Ca.anyC p.farms.length y) x (p.clo + d % (p.chi - p.clo + 1)) i).map fun x => [Value.int .i64 x])) (sz := 1) (bytes := 8) zAb underlying34 zCk rfl rfl rfl rfl rfl rfl rfl rfl rfl hs zDd hslS.top.app.app.cons.cons.app.cons (by rw [List.length_map]; simp [shL]) hnS (irow1 _) (by simp only [maxLen]; omega) (by omega) (fun jj xP gf qy gE => ?_)
     replace gE := (show St _ _ (gf ++ (BZc ++ (_ :: _ :: BG ++ (BZ ++ (BS ++ (Z)))))) from gE)
     have hA273 : Rt.Own jj 3 1 i (iv (shL p.farms (Ca.anyC p.farms.length y) x (p.clo + d % (p.chi - p.clo + 1)) i)) gf := (by
       have h9 := qy
       rw [Nat.zero_add, List.nil_append, ← zEk] at h9
       exact h9)
     refine zAe (qn ⟨gE.drop.drop, ?_⟩)
     have qz : St _ _ (BZc ++ (gf ++ (_ :: _ :: BG ++ (BZ ++ (BS ++ (Z)))))) := St.perm (show St _ _ (gf ++ (BZc ++ (_ :: _ :: BG ++ (BZ ++ (BS ++ (Z)))))) from gE) (zAq gf BZc _)
     exact hS255 _ _ (Md.intro (by repeat (first | exact zA3 | exact zA6 | refine zA5 rfl ?_ | refine zAw rfl ?_ _ | refine zAr rfl ?_)) ⟨vZ, BZc, jj, gf, rfl, hoZ, hA273, qz⟩)
    refine zA0 (ps := [(0, _)]) (pv := [(0, .int _ _)]) (cs := [_]) zAb rfl rfl (fun w => zBt _ w) hs (fun qA xQ jk => ?_)
    refine zAe (qn ⟨jk.tail.tail.drop, ?_⟩)
    have qB : St _ _ (_ :: _ :: BZc ++ (_ :: _ :: BG ++ (BZ ++ (BS ++ (Z))))) := St.perm (show St _ _ (_ :: _ :: BZc ++ (_ :: _ :: BG ++ (BZ ++ (BS ++ (Z))))) from jk) (zAq [_] [_] _)
    exact hS246 _ _ (Md.intro (by repeat (first | exact zA3 | exact zA6 | refine zA5 rfl ?_ | refine zAw rfl ?_ _ | refine zAr rfl ?_)) ⟨bb2, qA, vZ, BZc, rfl, hoZ, qB⟩)
   refine zB9 [129,130,131,132,133,134,135,136,137,138,139,140,141,142,143] [131,137,139,140,134,142] (fun vs w => ∃ (bb3 : Nat) (vZ : Value) (BZc : List (Nat × Obj)), vs = [.slice aZ i cZ, .slice aS i cS, .int .i64 (shP p.farms (Ca.anyC p.farms.length y) x (p.clo + d % (p.chi - p.clo + 1)) (i + 1)), .slice (some ⟨bb3,0, none⟩) 1 1, vZ, .pointer (some ⟨g0,4, none⟩)] ∧ Rt.Own vZ 3 1 (i + 1) (iv (List.replicate (i + 1) 0)) BZc ∧ St w0 w ((bb3, blk 3 [.int .i64 (shP p.farms (Ca.anyC p.farms.length y) x (p.clo + d % (p.chi - p.clo + 1)) (i + 1))]) :: (BZc ++ (((g0, blk 43 [.string nmC, .int .i64 0, .int .i64 0, .int .i64 0, .slice aZ (i) cZ, .slice aS (i) cS]) :: (g5, blk 41 [.int .i64 1, .slice aG (i + 1) cG, .slice none 0 0]) :: (BG ++ (BZ ++ (BS ++ Z)))))))) Tf2abd ?_ (fun hS279 => ?_)
   ·
    intro vs μ wq hM
    clear hs g4
    subst hX213
    obtain ⟨bb3, vZ, BZc, rfl, hoZ, hs⟩ := hM
    refine zB0 (zCn rfl ?_)
    ·
     refine zA0 (ps := []) (pv := []) (cs := []) zAb rfl rfl (fun w => zB7  w) hs (fun qC xR jl => ?_)
     refine zAe (qn ⟨jl.tail.tail.drop, ?_⟩)
     exact hS246 _ _ (Md.intro (by repeat (first | exact zA3 | exact zA6 | refine zA5 rfl ?_ | refine zAw rfl ?_ _ | refine zAr rfl ?_)) ⟨qC, bb3, vZ, BZc, rfl, hoZ, jl⟩)
   refine zB9 [129,130,131,132,133,134,135,136,137,138,139,140,141,142,143] [131,137,139,129,133,135,140] (fun vs w => ∃ (bb0 : Nat) (bb1 : Nat) (bb2 : Nat) (bb3 : Nat), vs = [.slice aZ i cZ, .slice aS i cS, .int .i64 (shP p.farms (Ca.anyC p.farms.length y) x (p.clo + d % (p.chi - p.clo + 1)) (i + 1)), .slice (some ⟨bb0,0, none⟩) 0 0, .slice (some ⟨bb1,0, none⟩) 1 1, .slice (some ⟨bb2,0, none⟩) 0 0, .slice (some ⟨bb3,0, none⟩) 1 1] ∧ St w0 w ((bb0, blk 3 []) :: (bb1, blk 3 [.int .i64 0]) :: (bb2, blk 3 []) :: (bb3, blk 3 [.int .i64 (shP p.farms (Ca.anyC p.farms.length y) x (p.clo + d % (p.chi - p.clo + 1)) (i + 1))]) :: (((g0, blk 43 [.string nmC, .int .i64 0, .int .i64 0, .int .i64 0, .slice aZ (i) cZ, .slice aS (i) cS]) :: (g5, blk 41 [.int .i64 1, .slice aG (i + 1) cG, .slice none 0 0]) :: (BG ++ (BZ ++ (BS ++ Z))))))) Tf0abcd ?_ (fun hS283 => ?_)
   ·
    intro vs μ wq hM
    clear hs g4
    subst hX213
    obtain ⟨bb0, bb1, bb2, bb3, rfl, hs⟩ := hM
    refine zB0 (zCn rfl ?_)
    ·
     refine zBu (X := ([])) (B := [_]) (rows := ((List.replicate i (0 : Int)).map fun x => [Value.int .i64 x])) (sz := 1) (bytes := 8) zAb underlying34 zCk rfl rfl rfl rfl rfl rfl rfl rfl rfl hs zDd hslZ.top.app.cons.cons.cons.cons.cons.cons (by rw [List.length_map, List.length_replicate]) hnZ (irow1 _) (by simp only [maxLen]; omega) (by omega) (fun jm xS g9 qD gF => ?_)
     replace gF := (show St _ _ (g9 ++ (_ :: _ :: _ :: _ :: _ :: BG ++ (BZ ++ (BS ++ (Z))))) from gF)
     have hA289 : Rt.Own jm 3 1 i (iv (List.replicate i 0)) g9 := (by
       have h9 := qD
       rw [Nat.zero_add, List.nil_append, ← zEk] at h9
       exact h9)
     refine zAe (qn ⟨gF.drop.tail.tail.tail, ?_⟩)
     have qE : St _ _ (_ :: g9 ++ (_ :: _ :: _ :: _ :: BG ++ (BZ ++ (BS ++ (Z))))) := St.perm (show St _ _ (g9 ++ (_ :: _ :: _ :: _ :: _ :: BG ++ (BZ ++ (BS ++ (Z))))) from gF) (zAq g9 [_] _)
     have qF : St _ _ (_ :: _ :: g9 ++ (_ :: _ :: _ :: BG ++ (BZ ++ (BS ++ (Z))))) := St.perm (show St _ _ (_ :: g9 ++ (_ :: _ :: _ :: _ :: BG ++ (BZ ++ (BS ++ (Z))))) from qE) (List.Perm.cons _ (zAq g9 [_] _))
     have qG : St _ _ (_ :: _ :: _ :: g9 ++ (_ :: _ :: BG ++ (BZ ++ (BS ++ (Z))))) := St.perm (show St _ _ (_ :: _ :: g9 ++ (_ :: _ :: _ :: BG ++ (BZ ++ (BS ++ (Z))))) from qF) (List.Perm.cons _ (List.Perm.cons _ (zAq g9 [_] _)))
     exact hS259 _ _ (Md.intro (by repeat (first | exact zA3 | exact zA6 | refine zA5 rfl ?_ | refine zAw rfl ?_ _ | refine zAr rfl ?_)) ⟨bb1, bb2, bb3, jm, g9, rfl, hA289, qG⟩)
   refine zB9 [129,130,131,132,133,134,135,136,137,138,139,140,141,142,143] [131,137,139,133,135,132] (fun vs w => ∃ (bb1 : Nat) (bb2 : Nat) (vZ : Value) (BZc : List (Nat × Obj)), vs = [.slice aZ i cZ, .slice aS i cS, .int .i64 (shP p.farms (Ca.anyC p.farms.length y) x (p.clo + d % (p.chi - p.clo + 1)) (i + 1)), .slice (some ⟨bb1,0, none⟩) 1 1, .slice (some ⟨bb2,0, none⟩) 0 0, vZ] ∧ Rt.Own vZ 3 1 i (iv (List.replicate i 0)) BZc ∧ St w0 w ((bb1, blk 3 [.int .i64 0]) :: (bb2, blk 3 []) :: (BZc ++ (((g0, blk 43 [.string nmC, .int .i64 0, .int .i64 0, .int .i64 0, .slice aZ (i) cZ, .slice aS (i) cS]) :: (g5, blk 41 [.int .i64 1, .slice aG (i + 1) cG, .slice none 0 0]) :: (BG ++ (BZ ++ (BS ++ Z)))))))) Tf1abc ?_ (fun hS293 => ?_)
   ·
    intro vs μ wq hM
    clear hs g4
    subst hX213
    obtain ⟨bb1, bb2, vZ, BZc, rfl, hoZ, hs⟩ := hM
    refine zB0 ⟨zCn rfl ?_, zCn rfl ?_⟩
    ·
     refine zBu (X := (_ :: _ :: [])) (B := BZc) (rows := [[_]]) (sz := 1) (bytes := 8) zAb underlying34 zCk rfl rfl rfl rfl rfl rfl rfl rfl rfl hs hoZ (zBp (i := 0) rfl (by simp) rfl) rfl (by simp) (by simp [Value.oneCell']) (by simp only [maxLen]; omega) (by omega) (fun jn xT gG qH gH => ?_)
     replace gH := (show St _ _ (_ :: _ :: gG ++ (_ :: _ :: BG ++ (BZ ++ (BS ++ (Z))))) from gH)
     have hA299 : Rt.Own jn 3 1 (i + 1) (iv (List.replicate (i + 1) 0)) gG := own_zer qH
     refine zAe (qn ⟨gH.tail.tail.drop, ?_⟩)
     refine d_w rfl (fun _ => zAd (o := 4) (i := 4) underlying43 rfl sizeOf34 rfl rfl rfl) rfl ?_
     have qI : St _ _ (_ :: gG ++ (_ :: _ :: BG ++ (BZ ++ (BS ++ (Z))))) := gH.tail
     exact hS267 _ _ (Md.intro (by repeat (first | exact zA3 | exact zA6 | refine zA5 rfl ?_ | refine zAw rfl ?_ _ | refine zAr rfl ?_)) ⟨bb2, jn, gG, rfl, hA299, qI⟩)
    refine zA0 (ps := [(0, _)]) (pv := [(0, .int _ _)]) (cs := [_]) zAb rfl rfl (fun w => zBt _ w) hs (fun qJ xU jo => ?_)
    refine zAe (qn ⟨jo.tail.tail.tail.drop, ?_⟩)
    have qK : St _ _ (_ :: _ :: _ :: BZc ++ (_ :: _ :: BG ++ (BZ ++ (BS ++ (Z))))) := St.perm (show St _ _ (_ :: _ :: _ :: BZc ++ (_ :: _ :: BG ++ (BZ ++ (BS ++ (Z))))) from jo) (zAq [_] [_] _)
    have qL : St _ _ (_ :: _ :: _ :: BZc ++ (_ :: _ :: BG ++ (BZ ++ (BS ++ (Z))))) := St.perm (show St _ _ (_ :: _ :: _ :: BZc ++ (_ :: _ :: BG ++ (BZ ++ (BS ++ (Z))))) from qK) (List.Perm.cons _ (zAq [_] [_] _))
    exact hS259 _ _ (Md.intro (by repeat (first | exact zA3 | exact zA6 | refine zA5 rfl ?_ | refine zAw rfl ?_ _ | refine zAr rfl ?_)) ⟨bb1, bb2, qJ, vZ, BZc, rfl, hoZ, qL⟩)
   refine zB9 [129,130,131,132,133,134,135,136,137,138,139,140,141,142,143] [131,137,139,133,140,132] (fun vs w => ∃ (bb1 : Nat) (bb3 : Nat) (vZ : Value) (BZc : List (Nat × Obj)), vs = [.slice aZ i cZ, .slice aS i cS, .int .i64 (shP p.farms (Ca.anyC p.farms.length y) x (p.clo + d % (p.chi - p.clo + 1)) (i + 1)), .slice (some ⟨bb1,0, none⟩) 1 1, .slice (some ⟨bb3,0, none⟩) 1 1, vZ] ∧ Rt.Own vZ 3 1 i (iv (List.replicate i 0)) BZc ∧ St w0 w ((bb1, blk 3 [.int .i64 0]) :: (bb3, blk 3 [.int .i64 (shP p.farms (Ca.anyC p.farms.length y) x (p.clo + d % (p.chi - p.clo + 1)) (i + 1))]) :: (BZc ++ (((g0, blk 43 [.string nmC, .int .i64 0, .int .i64 0, .int .i64 0, .slice aZ (i) cZ, .slice aS (i) cS]) :: (g5, blk 41 [.int .i64 1, .slice aG (i + 1) cG, .slice none 0 0]) :: (BG ++ (BZ ++ (BS ++ Z)))))))) Tf1abd ?_ (fun hS306 => ?_)
   ·
    intro vs μ wq hM
    clear hs g4
    subst hX213
    obtain ⟨bb1, bb3, vZ, BZc, rfl, hoZ, hs⟩ := hM
    refine zB0 ⟨zCn rfl ?_, zCn rfl ?_⟩
    ·
     refine zBu (X := (_ :: _ :: [])) (B := BZc) (rows := [[_]]) (sz := 1) (bytes := 8) zAb underlying34 zCk rfl rfl rfl rfl rfl rfl rfl rfl rfl hs hoZ (zBp (i := 0) rfl (by simp) rfl) rfl (by simp) (by simp [Value.oneCell']) (by simp only [maxLen]; omega) (by omega) (fun jp xV gI qM gJ => ?_)
     replace gJ := (show St _ _ (_ :: _ :: gI ++ (_ :: _ :: BG ++ (BZ ++ (BS ++ (Z))))) from gJ)
     have hA312 : Rt.Own jp 3 1 (i + 1) (iv (List.replicate (i + 1) 0)) gI := own_zer qM
     refine zAe (qn ⟨gJ.tail.tail.drop, ?_⟩)
     refine d_w rfl (fun _ => zAd (o := 4) (i := 4) underlying43 rfl sizeOf34 rfl rfl rfl) rfl ?_
     have qN : St _ _ (_ :: gI ++ (_ :: _ :: BG ++ (BZ ++ (BS ++ (Z))))) := gJ.tail
     exact hS279 _ _ (Md.intro (by repeat (first | exact zA3 | exact zA6 | refine zA5 rfl ?_ | refine zAw rfl ?_ _ | refine zAr rfl ?_)) ⟨bb3, jp, gI, rfl, hA312, qN⟩)
    refine zA0 (ps := []) (pv := []) (cs := []) zAb rfl rfl (fun w => zB7  w) hs (fun qO xW jq => ?_)
    refine zAe (qn ⟨jq.tail.tail.tail.drop, ?_⟩)
    have qP : St _ _ (_ :: _ :: _ :: BZc ++ (_ :: _ :: BG ++ (BZ ++ (BS ++ (Z))))) := St.perm (show St _ _ (_ :: _ :: _ :: BZc ++ (_ :: _ :: BG ++ (BZ ++ (BS ++ (Z))))) from jq) (zAq [_] [_] _)
    exact hS259 _ _ (Md.intro (by repeat (first | exact zA3 | exact zA6 | refine zA5 rfl ?_ | refine zAw rfl ?_ _ | refine zAr rfl ?_)) ⟨bb1, qO, bb3, vZ, BZc, rfl, hoZ, qP⟩)
   refine zB9 [129,130,131,132,133,134,135,136,137,138,139,140,141,142,143] [131,137,139,135,140,132] (fun vs w => ∃ (bb2 : Nat) (bb3 : Nat) (vZ : Value) (BZc : List (Nat × Obj)), vs = [.slice aZ i cZ, .slice aS i cS, .int .i64 (shP p.farms (Ca.anyC p.farms.length y) x (p.clo + d % (p.chi - p.clo + 1)) (i + 1)), .slice (some ⟨bb2,0, none⟩) 0 0, .slice (some ⟨bb3,0, none⟩) 1 1, vZ] ∧ Rt.Own vZ 3 1 i (iv (List.replicate i 0)) BZc ∧ St w0 w ((bb2, blk 3 []) :: (bb3, blk 3 [.int .i64 (shP p.farms (Ca.anyC p.farms.length y) x (p.clo + d % (p.chi - p.clo + 1)) (i + 1))]) :: (BZc ++ (((g0, blk 43 [.string nmC, .int .i64 0, .int .i64 0, .int .i64 0, .slice aZ (i) cZ, .slice aS (i) cS]) :: (g5, blk 41 [.int .i64 1, .slice aG (i + 1) cG, .slice none 0 0]) :: (BG ++ (BZ ++ (BS ++ Z)))))))) Tf1acd ?_ (fun hS318 => ?_)
   ·
    intro vs μ wq hM
    clear hs g4
    subst hX213
    obtain ⟨bb2, bb3, vZ, BZc, rfl, hoZ, hs⟩ := hM
    refine zB0 (zCn rfl ?_)
    ·
     refine zA0 (ps := [(0, _)]) (pv := [(0, .int _ _)]) (cs := [_]) zAb rfl rfl (fun w => zBt _ w) hs (fun qQ xX jr => ?_)
     refine zAe (qn ⟨jr.tail.tail.tail.drop, ?_⟩)
     exact hS259 _ _ (Md.intro (by repeat (first | exact zA3 | exact zA6 | refine zA5 rfl ?_ | refine zAw rfl ?_ _ | refine zAr rfl ?_)) ⟨qQ, bb2, bb3, vZ, BZc, rfl, hoZ, jr⟩)
   refine zB9 [129,130,131,132,133,134,135,136,137,138,139,140,141,142,143] [131,137,139,134,142] (fun vs w => ∃ (vZ : Value) (BZc : List (Nat × Obj)), vs = [.slice aZ i cZ, .slice aS i cS, .int .i64 (shP p.farms (Ca.anyC p.farms.length y) x (p.clo + d % (p.chi - p.clo + 1)) (i + 1)), vZ, .pointer (some ⟨g0,4, none⟩)] ∧ Rt.Own vZ 3 1 (i + 1) (iv (List.replicate (i + 1) 0)) BZc ∧ St w0 w ((BZc ++ (((g0, blk 43 [.string nmC, .int .i64 0, .int .i64 0, .int .i64 0, .slice aZ (i) cZ, .slice aS (i) cS]) :: (g5, blk 41 [.int .i64 1, .slice aG (i + 1) cG, .slice none 0 0]) :: (BG ++ (BZ ++ (BS ++ Z)))))))) Tf2ab ?_ (fun hS322 => ?_)
   ·
    intro vs μ wq hM
    clear hs g4
    subst hX213
    obtain ⟨vZ, BZc, rfl, hoZ, hs⟩ := hM
    refine zB0 ⟨zCn rfl ?_, zCn rfl ?_⟩
    ·
     refine zA0 (ps := []) (pv := []) (cs := []) zAb rfl rfl (fun w => zB7  w) hs (fun qR xY js => ?_)
     refine zAe (qn ⟨js.tail.drop, ?_⟩)
     exact hS267 _ _ (Md.intro (by repeat (first | exact zA3 | exact zA6 | refine zA5 rfl ?_ | refine zAw rfl ?_ _ | refine zAr rfl ?_)) ⟨qR, vZ, BZc, rfl, hoZ, js⟩)
    refine zA0 (ps := [(0, _)]) (pv := [(0, .int _ _)]) (cs := [_]) zAb rfl rfl (fun w => zBt _ w) hs (fun qS xZ jt => ?_)
    refine zAe (qn ⟨jt.tail.drop, ?_⟩)
    exact hS279 _ _ (Md.intro (by repeat (first | exact zA3 | exact zA6 | refine zA5 rfl ?_ | refine zAw rfl ?_ _ | refine zAr rfl ?_)) ⟨qS, vZ, BZc, rfl, hoZ, jt⟩)
   refine zB9 [129,130,131,132,133,134,135,136,137,138,139,140,141,142,143] [131,137,139,129,133,135] (fun vs w => ∃ (bb0 : Nat) (bb1 : Nat) (bb2 : Nat), vs = [.slice aZ i cZ, .slice aS i cS, .int .i64 (shP p.farms (Ca.anyC p.farms.length y) x (p.clo + d % (p.chi - p.clo + 1)) (i + 1)), .slice (some ⟨bb0,0, none⟩) 0 0, .slice (some ⟨bb1,0, none⟩) 1 1, .slice (some ⟨bb2,0, none⟩) 0 0] ∧ St w0 w ((bb0, blk 3 []) :: (bb1, blk 3 [.int .i64 0]) :: (bb2, blk 3 []) :: (((g0, blk 43 [.string nmC, .int .i64 0, .int .i64 0, .int .i64 0, .slice aZ (i) cZ, .slice aS (i) cS]) :: (g5, blk 41 [.int .i64 1, .slice aG (i + 1) cG, .slice none 0 0]) :: (BG ++ (BZ ++ (BS ++ Z))))))) Tf0abc ?_ (fun hS329 => ?_)
   ·
    intro vs μ wq hM
    clear hs g4
    subst hX213
    obtain ⟨bb0, bb1, bb2, rfl, hs⟩ := hM
    refine zB0 ⟨zCn rfl ?_, zCn rfl ?_⟩
    ·
     refine zBu (X := ([])) (B := [_]) (rows := ((List.replicate i (0 : Int)).map fun x => [Value.int .i64 x])) (sz := 1) (bytes := 8) zAb underlying34 zCk rfl rfl rfl rfl rfl rfl rfl rfl rfl hs zDd hslZ.top.app.cons.cons.cons.cons.cons (by rw [List.length_map, List.length_replicate]) hnZ (irow1 _) (by simp only [maxLen]; omega) (by omega) (fun ju y0 gb qT gK => ?_)
     replace gK := (show St _ _ (gb ++ (_ :: _ :: _ :: _ :: BG ++ (BZ ++ (BS ++ (Z))))) from gK)
     have hA335 : Rt.Own ju 3 1 i (iv (List.replicate i 0)) gb := (by
       have h9 := qT
       rw [Nat.zero_add, List.nil_append, ← zEk] at h9
       exact h9)
     refine zAe (qn ⟨gK.drop.tail.tail, ?_⟩)
     have qU : St _ _ (_ :: gb ++ (_ :: _ :: _ :: BG ++ (BZ ++ (BS ++ (Z))))) := St.perm (show St _ _ (gb ++ (_ :: _ :: _ :: _ :: BG ++ (BZ ++ (BS ++ (Z))))) from gK) (zAq gb [_] _)
     have qV : St _ _ (_ :: _ :: gb ++ (_ :: _ :: BG ++ (BZ ++ (BS ++ (Z))))) := St.perm (show St _ _ (_ :: gb ++ (_ :: _ :: _ :: BG ++ (BZ ++ (BS ++ (Z))))) from qU) (List.Perm.cons _ (zAq gb [_] _))
     exact hS293 _ _ (Md.intro (by repeat (first | exact zA3 | exact zA6 | refine zA5 rfl ?_ | refine zAw rfl ?_ _ | refine zAr rfl ?_)) ⟨bb1, bb2, ju, gb, rfl, hA335, qV⟩)
    refine zA0 (ps := [(0, _)]) (pv := [(0, .int _ _)]) (cs := [_]) zAb rfl rfl (fun w => zBt _ w) hs (fun qW y2 jv => ?_)
    refine zAe (qn ⟨jv.tail.tail.tail.tail, ?_⟩)
    have qX : St _ _ (_ :: _ :: _ :: _ :: _ :: _ :: BG ++ (BZ ++ (BS ++ (Z)))) := St.perm (show St _ _ (_ :: _ :: _ :: _ :: _ :: _ :: BG ++ (BZ ++ (BS ++ (Z)))) from jv) (zAq [_] [_] _)
    have qY : St _ _ (_ :: _ :: _ :: _ :: _ :: _ :: BG ++ (BZ ++ (BS ++ (Z)))) := St.perm (show St _ _ (_ :: _ :: _ :: _ :: _ :: _ :: BG ++ (BZ ++ (BS ++ (Z)))) from qX) (List.Perm.cons _ (zAq [_] [_] _))
    have qZ : St _ _ (_ :: _ :: _ :: _ :: _ :: _ :: BG ++ (BZ ++ (BS ++ (Z)))) := St.perm (show St _ _ (_ :: _ :: _ :: _ :: _ :: _ :: BG ++ (BZ ++ (BS ++ (Z)))) from qY) (List.Perm.cons _ (List.Perm.cons _ (zAq [_] [_] _)))
    exact hS283 _ _ (Md.intro (by repeat (first | exact zA3 | exact zA6 | refine zA5 rfl ?_ | refine zAw rfl ?_ _ | refine zAr rfl ?_)) ⟨bb0, bb1, bb2, qW, rfl, qZ⟩)
   refine zB9 [129,130,131,132,133,134,135,136,137,138,139,140,141,142,143] [131,137,139,129,133,140] (fun vs w => ∃ (bb0 : Nat) (bb1 : Nat) (bb3 : Nat), vs = [.slice aZ i cZ, .slice aS i cS, .int .i64 (shP p.farms (Ca.anyC p.farms.length y) x (p.clo + d % (p.chi - p.clo + 1)) (i + 1)), .slice (some ⟨bb0,0, none⟩) 0 0, .slice (some ⟨bb1,0, none⟩) 1 1, .slice (some ⟨bb3,0, none⟩) 1 1] ∧ St w0 w ((bb0, blk 3 []) :: (bb1, blk 3 [.int .i64 0]) :: (bb3, blk 3 [.int .i64 (shP p.farms (Ca.anyC p.farms.length y) x (p.clo + d % (p.chi - p.clo + 1)) (i + 1))]) :: (((g0, blk 43 [.string nmC, .int .i64 0, .int .i64 0, .int .i64 0, .slice aZ (i) cZ, .slice aS (i) cS]) :: (g5, blk 41 [.int .i64 1, .slice aG (i + 1) cG, .slice none 0 0]) :: (BG ++ (BZ ++ (BS ++ Z))))))) Tf0abd ?_ (fun hS344 => ?_)
   ·
    intro vs μ wq hM
    clear hs g4
    subst hX213
    obtain ⟨bb0, bb1, bb3, rfl, hs⟩ := hM
    refine zB0 ⟨zCn rfl ?_, zCn rfl ?_⟩
    ·
     refine zBu (X := ([])) (B := [_]) (rows := ((List.replicate i (0 : Int)).map fun x => [Value.int .i64 x])) (sz := 1) (bytes := 8) zAb underlying34 zCk rfl rfl rfl rfl rfl rfl rfl rfl rfl hs zDd hslZ.top.app.cons.cons.cons.cons.cons (by rw [List.length_map, List.length_replicate]) hnZ (irow1 _) (by simp only [maxLen]; omega) (by omega) (fun jw y3 gc s5 gL => ?_)
     replace gL := (show St _ _ (gc ++ (_ :: _ :: _ :: _ :: BG ++ (BZ ++ (BS ++ (Z))))) from gL)
     have hA350 : Rt.Own jw 3 1 i (iv (List.replicate i 0)) gc := (by
       have h9 := s5
       rw [Nat.zero_add, List.nil_append, ← zEk] at h9
       exact h9)
     refine zAe (qn ⟨gL.drop.tail.tail, ?_⟩)
     have s6 : St _ _ (_ :: gc ++ (_ :: _ :: _ :: BG ++ (BZ ++ (BS ++ (Z))))) := St.perm (show St _ _ (gc ++ (_ :: _ :: _ :: _ :: BG ++ (BZ ++ (BS ++ (Z))))) from gL) (zAq gc [_] _)
     have s7 : St _ _ (_ :: _ :: gc ++ (_ :: _ :: BG ++ (BZ ++ (BS ++ (Z))))) := St.perm (show St _ _ (_ :: gc ++ (_ :: _ :: _ :: BG ++ (BZ ++ (BS ++ (Z))))) from s6) (List.Perm.cons _ (zAq gc [_] _))
     exact hS306 _ _ (Md.intro (by repeat (first | exact zA3 | exact zA6 | refine zA5 rfl ?_ | refine zAw rfl ?_ _ | refine zAr rfl ?_)) ⟨bb1, bb3, jw, gc, rfl, hA350, s7⟩)
    refine zA0 (ps := []) (pv := []) (cs := []) zAb rfl rfl (fun w => zB7  w) hs (fun s8 y4 jx => ?_)
    refine zAe (qn ⟨jx.tail.tail.tail.tail, ?_⟩)
    have s9 : St _ _ (_ :: _ :: _ :: _ :: _ :: _ :: BG ++ (BZ ++ (BS ++ (Z)))) := St.perm (show St _ _ (_ :: _ :: _ :: _ :: _ :: _ :: BG ++ (BZ ++ (BS ++ (Z)))) from jx) (zAq [_] [_] _)
    have sa : St _ _ (_ :: _ :: _ :: _ :: _ :: _ :: BG ++ (BZ ++ (BS ++ (Z)))) := St.perm (show St _ _ (_ :: _ :: _ :: _ :: _ :: _ :: BG ++ (BZ ++ (BS ++ (Z)))) from s9) (List.Perm.cons _ (zAq [_] [_] _))
    exact hS283 _ _ (Md.intro (by repeat (first | exact zA3 | exact zA6 | refine zA5 rfl ?_ | refine zAw rfl ?_ _ | refine zAr rfl ?_)) ⟨bb0, bb1, s8, bb3, rfl, sa⟩)
   refine zB9 [129,130,131,132,133,134,135,136,137,138,139,140,141,142,143] [131,137,139,129,135,140] (fun vs w => ∃ (bb0 : Nat) (bb2 : Nat) (bb3 : Nat), vs = [.slice aZ i cZ, .slice aS i cS, .int .i64 (shP p.farms (Ca.anyC p.farms.length y) x (p.clo + d % (p.chi - p.clo + 1)) (i + 1)), .slice (some ⟨bb0,0, none⟩) 0 0, .slice (some ⟨bb2,0, none⟩) 0 0, .slice (some ⟨bb3,0, none⟩) 1 1] ∧ St w0 w ((bb0, blk 3 []) :: (bb2, blk 3 []) :: (bb3, blk 3 [.int .i64 (shP p.farms (Ca.anyC p.farms.length y) x (p.clo + d % (p.chi - p.clo + 1)) (i + 1))]) :: (((g0, blk 43 [.string nmC, .int .i64 0, .int .i64 0, .int .i64 0, .slice aZ (i) cZ, .slice aS (i) cS]) :: (g5, blk 41 [.int .i64 1, .slice aG (i + 1) cG, .slice none 0 0]) :: (BG ++ (BZ ++ (BS ++ Z))))))) Tf0acd ?_ (fun hS358 => ?_)
   ·
    intro vs μ wq hM
    clear hs g4
    subst hX213
    obtain ⟨bb0, bb2, bb3, rfl, hs⟩ := hM
    refine zB0 ⟨zCn rfl ?_, zCn rfl ?_⟩
    ·
     refine zBu (X := ([])) (B := [_]) (rows := ((List.replicate i (0 : Int)).map fun x => [Value.int .i64 x])) (sz := 1) (bytes := 8) zAb underlying34 zCk rfl rfl rfl rfl rfl rfl rfl rfl rfl hs zDd hslZ.top.app.cons.cons.cons.cons.cons (by rw [List.length_map, List.length_replicate]) hnZ (irow1 _) (by simp only [maxLen]; omega) (by omega) (fun jy y5 gd sb gM => ?_)
     replace gM := (show St _ _ (gd ++ (_ :: _ :: _ :: _ :: BG ++ (BZ ++ (BS ++ (Z))))) from gM)
     have hA364 : Rt.Own jy 3 1 i (iv (List.replicate i 0)) gd := (by
       have h9 := sb
       rw [Nat.zero_add, List.nil_append, ← zEk] at h9
       exact h9)
     refine zAe (qn ⟨gM.drop.tail.tail, ?_⟩)
     have sd : St _ _ (_ :: gd ++ (_ :: _ :: _ :: BG ++ (BZ ++ (BS ++ (Z))))) := St.perm (show St _ _ (gd ++ (_ :: _ :: _ :: _ :: BG ++ (BZ ++ (BS ++ (Z))))) from gM) (zAq gd [_] _)
     have se : St _ _ (_ :: _ :: gd ++ (_ :: _ :: BG ++ (BZ ++ (BS ++ (Z))))) := St.perm (show St _ _ (_ :: gd ++ (_ :: _ :: _ :: BG ++ (BZ ++ (BS ++ (Z))))) from sd) (List.Perm.cons _ (zAq gd [_] _))
     exact hS318 _ _ (Md.intro (by repeat (first | exact zA3 | exact zA6 | refine zA5 rfl ?_ | refine zAw rfl ?_ _ | refine zAr rfl ?_)) ⟨bb2, bb3, jy, gd, rfl, hA364, se⟩)
    refine zA0 (ps := [(0, _)]) (pv := [(0, .int _ _)]) (cs := [_]) zAb rfl rfl (fun w => zBt _ w) hs (fun sf y6 jz => ?_)
    refine zAe (qn ⟨jz.tail.tail.tail.tail, ?_⟩)
    have sg : St _ _ (_ :: _ :: _ :: _ :: _ :: _ :: BG ++ (BZ ++ (BS ++ (Z)))) := St.perm (show St _ _ (_ :: _ :: _ :: _ :: _ :: _ :: BG ++ (BZ ++ (BS ++ (Z)))) from jz) (zAq [_] [_] _)
    exact hS283 _ _ (Md.intro (by repeat (first | exact zA3 | exact zA6 | refine zA5 rfl ?_ | refine zAw rfl ?_ _ | refine zAr rfl ?_)) ⟨bb0, sf, bb2, bb3, rfl, sg⟩)
   refine zB9 [129,130,131,132,133,134,135,136,137,138,139,140,141,142,143] [131,137,139,133,135,140] (fun vs w => ∃ (bb1 : Nat) (bb2 : Nat) (bb3 : Nat), vs = [.slice aZ i cZ, .slice aS i cS, .int .i64 (shP p.farms (Ca.anyC p.farms.length y) x (p.clo + d % (p.chi - p.clo + 1)) (i + 1)), .slice (some ⟨bb1,0, none⟩) 1 1, .slice (some ⟨bb2,0, none⟩) 0 0, .slice (some ⟨bb3,0, none⟩) 1 1] ∧ St w0 w ((bb1, blk 3 [.int .i64 0]) :: (bb2, blk 3 []) :: (bb3, blk 3 [.int .i64 (shP p.farms (Ca.anyC p.farms.length y) x (p.clo + d % (p.chi - p.clo + 1)) (i + 1))]) :: (((g0, blk 43 [.string nmC, .int .i64 0, .int .i64 0, .int .i64 0, .slice aZ (i) cZ, .slice aS (i) cS]) :: (g5, blk 41 [.int .i64 1, .slice aG (i + 1) cG, .slice none 0 0]) :: (BG ++ (BZ ++ (BS ++ Z))))))) Tf0bcd ?_ (fun hS371 => ?_)
   ·
    intro vs μ wq hM
    clear hs g4
    subst hX213
    obtain ⟨bb1, bb2, bb3, rfl, hs⟩ := hM
    refine zB0 (zCn rfl ?_)
    ·
     refine zA0 (ps := []) (pv := []) (cs := []) zAb rfl rfl (fun w => zB7  w) hs (fun si y7 jA => ?_)
     refine zAe (qn ⟨jA.tail.tail.tail.tail, ?_⟩)
     exact hS283 _ _ (Md.intro (by repeat (first | exact zA3 | exact zA6 | refine zA5 rfl ?_ | refine zAw rfl ?_ _ | refine zAr rfl ?_)) ⟨si, bb1, bb2, bb3, rfl, jA⟩)
   refine zB9 [129,130,131,132,133,134,135,136,137,138,139,140,141,142,143] [131,137,139,133,132] (fun vs w => ∃ (bb1 : Nat) (vZ : Value) (BZc : List (Nat × Obj)), vs = [.slice aZ i cZ, .slice aS i cS, .int .i64 (shP p.farms (Ca.anyC p.farms.length y) x (p.clo + d % (p.chi - p.clo + 1)) (i + 1)), .slice (some ⟨bb1,0, none⟩) 1 1, vZ] ∧ Rt.Own vZ 3 1 i (iv (List.replicate i 0)) BZc ∧ St w0 w ((bb1, blk 3 [.int .i64 0]) :: (BZc ++ (((g0, blk 43 [.string nmC, .int .i64 0, .int .i64 0, .int .i64 0, .slice aZ (i) cZ, .slice aS (i) cS]) :: (g5, blk 41 [.int .i64 1, .slice aG (i + 1) cG, .slice none 0 0]) :: (BG ++ (BZ ++ (BS ++ Z)))))))) Tf1ab ?_ (fun hS375 => ?_)
   ·
    intro vs μ wq hM
    clear hs g4
    subst hX213
    obtain ⟨bb1, vZ, BZc, rfl, hoZ, hs⟩ := hM
    refine zB0 ⟨zCn rfl ?_, zCn rfl ?_, zCn rfl ?_⟩
    ·
     refine zBu (X := (_ :: [])) (B := BZc) (rows := [[_]]) (sz := 1) (bytes := 8) zAb underlying34 zCk rfl rfl rfl rfl rfl rfl rfl rfl rfl hs hoZ (zBp (i := 0) rfl (by simp) rfl) rfl (by simp) (by simp [Value.oneCell']) (by simp only [maxLen]; omega) (by omega) (fun jB y8 gN sj gO => ?_)
     replace gO := (show St _ _ (_ :: gN ++ (_ :: _ :: BG ++ (BZ ++ (BS ++ (Z))))) from gO)
     have hA381 : Rt.Own jB 3 1 (i + 1) (iv (List.replicate (i + 1) 0)) gN := own_zer sj
     refine zAe (qn ⟨gO.tail.drop, ?_⟩)
     refine d_w rfl (fun _ => zAd (o := 4) (i := 4) underlying43 rfl sizeOf34 rfl rfl rfl) rfl ?_
     have sk : St _ _ (gN ++ (_ :: _ :: BG ++ (BZ ++ (BS ++ (Z))))) := gO.tail
     exact hS322 _ _ (Md.intro (by repeat (first | exact zA3 | exact zA6 | refine zA5 rfl ?_ | refine zAw rfl ?_ _ | refine zAr rfl ?_)) ⟨jB, gN, rfl, hA381, sk⟩)
    ·
     refine zA0 (ps := []) (pv := []) (cs := []) zAb rfl rfl (fun w => zB7  w) hs (fun sm y9 jC => ?_)
     refine zAe (qn ⟨jC.tail.tail.drop, ?_⟩)
     have sn : St _ _ (_ :: _ :: BZc ++ (_ :: _ :: BG ++ (BZ ++ (BS ++ (Z))))) := St.perm (show St _ _ (_ :: _ :: BZc ++ (_ :: _ :: BG ++ (BZ ++ (BS ++ (Z))))) from jC) (zAq [_] [_] _)
     exact hS293 _ _ (Md.intro (by repeat (first | exact zA3 | exact zA6 | refine zA5 rfl ?_ | refine zAw rfl ?_ _ | refine zAr rfl ?_)) ⟨bb1, sm, vZ, BZc, rfl, hoZ, sn⟩)
    refine zA0 (ps := [(0, _)]) (pv := [(0, .int _ _)]) (cs := [_]) zAb rfl rfl (fun w => zBt _ w) hs (fun so yc jD => ?_)
    refine zAe (qn ⟨jD.tail.tail.drop, ?_⟩)
    have sq : St _ _ (_ :: _ :: BZc ++ (_ :: _ :: BG ++ (BZ ++ (BS ++ (Z))))) := St.perm (show St _ _ (_ :: _ :: BZc ++ (_ :: _ :: BG ++ (BZ ++ (BS ++ (Z))))) from jD) (zAq [_] [_] _)
    exact hS306 _ _ (Md.intro (by repeat (first | exact zA3 | exact zA6 | refine zA5 rfl ?_ | refine zAw rfl ?_ _ | refine zAr rfl ?_)) ⟨bb1, so, vZ, BZc, rfl, hoZ, sq⟩)
   refine zB9 [129,130,131,132,133,134,135,136,137,138,139,140,141,142,143] [131,137,139,135,132] (fun vs w => ∃ (bb2 : Nat) (vZ : Value) (BZc : List (Nat × Obj)), vs = [.slice aZ i cZ, .slice aS i cS, .int .i64 (shP p.farms (Ca.anyC p.farms.length y) x (p.clo + d % (p.chi - p.clo + 1)) (i + 1)), .slice (some ⟨bb2,0, none⟩) 0 0, vZ] ∧ Rt.Own vZ 3 1 i (iv (List.replicate i 0)) BZc ∧ St w0 w ((bb2, blk 3 []) :: (BZc ++ (((g0, blk 43 [.string nmC, .int .i64 0, .int .i64 0, .int .i64 0, .slice aZ (i) cZ, .slice aS (i) cS]) :: (g5, blk 41 [.int .i64 1, .slice aG (i + 1) cG, .slice none 0 0]) :: (BG ++ (BZ ++ (BS ++ Z)))))))) Tf1ac ?_ (fun hS391 => ?_)
   ·
    intro vs μ wq hM
    clear hs g4
    subst hX213
    obtain ⟨bb2, vZ, BZc, rfl, hoZ, hs⟩ := hM
    refine zB0 ⟨zCn rfl ?_, zCn rfl ?_⟩
    ·
     refine zA0 (ps := [(0, _)]) (pv := [(0, .int _ _)]) (cs := [_]) zAb rfl rfl (fun w => zBt _ w) hs (fun sr yd jE => ?_)
     refine zAe (qn ⟨jE.tail.tail.drop, ?_⟩)
     exact hS293 _ _ (Md.intro (by repeat (first | exact zA3 | exact zA6 | refine zA5 rfl ?_ | refine zAw rfl ?_ _ | refine zAr rfl ?_)) ⟨sr, bb2, vZ, BZc, rfl, hoZ, jE⟩)
    refine zA0 (ps := [(0, _)]) (pv := [(0, .int _ _)]) (cs := [_]) zAb rfl rfl (fun w => zBt _ w) hs (fun st ye jF => ?_)
    refine zAe (qn ⟨jF.tail.tail.drop, ?_⟩)
    have su : St _ _ (_ :: _ :: BZc ++ (_ :: _ :: BG ++ (BZ ++ (BS ++ (Z))))) := St.perm (show St _ _ (_ :: _ :: BZc ++ (_ :: _ :: BG ++ (BZ ++ (BS ++ (Z))))) from jF) (zAq [_] [_] _)
    exact hS318 _ _ (Md.intro (by repeat (first | exact zA3 | exact zA6 | refine zA5 rfl ?_ | refine zAw rfl ?_ _ | refine zAr rfl ?_)) ⟨bb2, st, vZ, BZc, rfl, hoZ, su⟩)
   refine zB9 [129,130,131,132,133,134,135,136,137,138,139,140,141,142,143] [131,137,139,140,132] (fun vs w => ∃ (bb3 : Nat) (vZ : Value) (BZc : List (Nat × Obj)), vs = [.slice aZ i cZ, .slice aS i cS, .int .i64 (shP p.farms (Ca.anyC p.farms.length y) x (p.clo + d % (p.chi - p.clo + 1)) (i + 1)), .slice (some ⟨bb3,0, none⟩) 1 1, vZ] ∧ Rt.Own vZ 3 1 i (iv (List.replicate i 0)) BZc ∧ St w0 w ((bb3, blk 3 [.int .i64 (shP p.farms (Ca.anyC p.farms.length y) x (p.clo + d % (p.chi - p.clo + 1)) (i + 1))]) :: (BZc ++ (((g0, blk 43 [.string nmC, .int .i64 0, .int .i64 0, .int .i64 0, .slice aZ (i) cZ, .slice aS (i) cS]) :: (g5, blk 41 [.int .i64 1, .slice aG (i + 1) cG, .slice none 0 0]) :: (BG ++ (BZ ++ (BS ++ Z)))))))) Tf1ad ?_ (fun hS399 => ?_)
   ·
    intro vs μ wq hM
    clear hs g4
    subst hX213
    obtain ⟨bb3, vZ, BZc, rfl, hoZ, hs⟩ := hM
    refine zB0 ⟨zCn rfl ?_, zCn rfl ?_⟩
    ·
     refine zA0 (ps := [(0, _)]) (pv := [(0, .int _ _)]) (cs := [_]) zAb rfl rfl (fun w => zBt _ w) hs (fun sw yg jG => ?_)
     refine zAe (qn ⟨jG.tail.tail.drop, ?_⟩)
     exact hS306 _ _ (Md.intro (by repeat (first | exact zA3 | exact zA6 | refine zA5 rfl ?_ | refine zAw rfl ?_ _ | refine zAr rfl ?_)) ⟨sw, bb3, vZ, BZc, rfl, hoZ, jG⟩)
    refine zA0 (ps := []) (pv := []) (cs := []) zAb rfl rfl (fun w => zB7  w) hs (fun sx yh jH => ?_)
    refine zAe (qn ⟨jH.tail.tail.drop, ?_⟩)
    exact hS318 _ _ (Md.intro (by repeat (first | exact zA3 | exact zA6 | refine zA5 rfl ?_ | refine zAw rfl ?_ _ | refine zAr rfl ?_)) ⟨sx, bb3, vZ, BZc, rfl, hoZ, jH⟩)
   refine zB9 [129,130,131,132,133,134,135,136,137,138,139,140,141,142,143] [131,137,139,129,133] (fun vs w => ∃ (bb0 : Nat) (bb1 : Nat), vs = [.slice aZ i cZ, .slice aS i cS, .int .i64 (shP p.farms (Ca.anyC p.farms.length y) x (p.clo + d % (p.chi - p.clo + 1)) (i + 1)), .slice (some ⟨bb0,0, none⟩) 0 0, .slice (some ⟨bb1,0, none⟩) 1 1] ∧ St w0 w ((bb0, blk 3 []) :: (bb1, blk 3 [.int .i64 0]) :: (((g0, blk 43 [.string nmC, .int .i64 0, .int .i64 0, .int .i64 0, .slice aZ (i) cZ, .slice aS (i) cS]) :: (g5, blk 41 [.int .i64 1, .slice aG (i + 1) cG, .slice none 0 0]) :: (BG ++ (BZ ++ (BS ++ Z))))))) Tf0ab ?_ (fun hS406 => ?_)
   ·
    intro vs μ wq hM
    clear hs g4
    subst hX213
    obtain ⟨bb0, bb1, rfl, hs⟩ := hM
    refine zB0 ⟨zCn rfl ?_, zCn rfl ?_, zCn rfl ?_⟩
    ·
     refine zBu (X := ([])) (B := [_]) (rows := ((List.replicate i (0 : Int)).map fun x => [Value.int .i64 x])) (sz := 1) (bytes := 8) zAb underlying34 zCk rfl rfl rfl rfl rfl rfl rfl rfl rfl hs zDd hslZ.top.app.cons.cons.cons.cons (by rw [List.length_map, List.length_replicate]) hnZ (irow1 _) (by simp only [maxLen]; omega) (by omega) (fun jI yi gg sy gP => ?_)
     replace gP := (show St _ _ (gg ++ (_ :: _ :: _ :: BG ++ (BZ ++ (BS ++ (Z))))) from gP)
     have hA412 : Rt.Own jI 3 1 i (iv (List.replicate i 0)) gg := (by
       have h9 := sy
       rw [Nat.zero_add, List.nil_append, ← zEk] at h9
       exact h9)
     refine zAe (qn ⟨gP.drop.tail, ?_⟩)
     have sA : St _ _ (_ :: gg ++ (_ :: _ :: BG ++ (BZ ++ (BS ++ (Z))))) := St.perm (show St _ _ (gg ++ (_ :: _ :: _ :: BG ++ (BZ ++ (BS ++ (Z))))) from gP) (zAq gg [_] _)
     exact hS375 _ _ (Md.intro (by repeat (first | exact zA3 | exact zA6 | refine zA5 rfl ?_ | refine zAw rfl ?_ _ | refine zAr rfl ?_)) ⟨bb1, jI, gg, rfl, hA412, sA⟩)
    ·
     refine zA0 (ps := []) (pv := []) (cs := []) zAb rfl rfl (fun w => zB7  w) hs (fun sB yj jJ => ?_)
     refine zAe (qn ⟨jJ.tail.tail.tail, ?_⟩)
     have sC : St _ _ (_ :: _ :: _ :: _ :: _ :: BG ++ (BZ ++ (BS ++ (Z)))) := St.perm (show St _ _ (_ :: _ :: _ :: _ :: _ :: BG ++ (BZ ++ (BS ++ (Z)))) from jJ) (zAq [_] [_] _)
     have sD : St _ _ (_ :: _ :: _ :: _ :: _ :: BG ++ (BZ ++ (BS ++ (Z)))) := St.perm (show St _ _ (_ :: _ :: _ :: _ :: _ :: BG ++ (BZ ++ (BS ++ (Z)))) from sC) (List.Perm.cons _ (zAq [_] [_] _))
     exact hS329 _ _ (Md.intro (by repeat (first | exact zA3 | exact zA6 | refine zA5 rfl ?_ | refine zAw rfl ?_ _ | refine zAr rfl ?_)) ⟨bb0, bb1, sB, rfl, sD⟩)
    refine zA0 (ps := [(0, _)]) (pv := [(0, .int _ _)]) (cs := [_]) zAb rfl rfl (fun w => zBt _ w) hs (fun sE yk jK => ?_)
    refine zAe (qn ⟨jK.tail.tail.tail, ?_⟩)
    have sF : St _ _ (_ :: _ :: _ :: _ :: _ :: BG ++ (BZ ++ (BS ++ (Z)))) := St.perm (show St _ _ (_ :: _ :: _ :: _ :: _ :: BG ++ (BZ ++ (BS ++ (Z)))) from jK) (zAq [_] [_] _)
    have sG : St _ _ (_ :: _ :: _ :: _ :: _ :: BG ++ (BZ ++ (BS ++ (Z)))) := St.perm (show St _ _ (_ :: _ :: _ :: _ :: _ :: BG ++ (BZ ++ (BS ++ (Z)))) from sF) (List.Perm.cons _ (zAq [_] [_] _))
    exact hS344 _ _ (Md.intro (by repeat (first | exact zA3 | exact zA6 | refine zA5 rfl ?_ | refine zAw rfl ?_ _ | refine zAr rfl ?_)) ⟨bb0, bb1, sE, rfl, sG⟩)
   refine zB9 [129,130,131,132,133,134,135,136,137,138,139,140,141,142,143] [131,137,139,129,135] (fun vs w => ∃ (bb0 : Nat) (bb2 : Nat), vs = [.slice aZ i cZ, .slice aS i cS, .int .i64 (shP p.farms (Ca.anyC p.farms.length y) x (p.clo + d % (p.chi - p.clo + 1)) (i + 1)), .slice (some ⟨bb0,0, none⟩) 0 0, .slice (some ⟨bb2,0, none⟩) 0 0] ∧ St w0 w ((bb0, blk 3 []) :: (bb2, blk 3 []) :: (((g0, blk 43 [.string nmC, .int .i64 0, .int .i64 0, .int .i64 0, .slice aZ (i) cZ, .slice aS (i) cS]) :: (g5, blk 41 [.int .i64 1, .slice aG (i + 1) cG, .slice none 0 0]) :: (BG ++ (BZ ++ (BS ++ Z))))))) Tf0ac ?_ (fun hS424 => ?_)
   ·
    intro vs μ wq hM
    clear hs g4
    subst hX213
    obtain ⟨bb0, bb2, rfl, hs⟩ := hM
    refine zB0 ⟨zCn rfl ?_, zCn rfl ?_, zCn rfl ?_⟩
    ·
     refine zBu (X := ([])) (B := [_]) (rows := ((List.replicate i (0 : Int)).map fun x => [Value.int .i64 x])) (sz := 1) (bytes := 8) zAb underlying34 zCk rfl rfl rfl rfl rfl rfl rfl rfl rfl hs zDd hslZ.top.app.cons.cons.cons.cons (by rw [List.length_map, List.length_replicate]) hnZ (irow1 _) (by simp only [maxLen]; omega) (by omega) (fun jL ym gh sH gQ => ?_)
     replace gQ := (show St _ _ (gh ++ (_ :: _ :: _ :: BG ++ (BZ ++ (BS ++ (Z))))) from gQ)
     have hA430 : Rt.Own jL 3 1 i (iv (List.replicate i 0)) gh := (by
       have h9 := sH
       rw [Nat.zero_add, List.nil_append, ← zEk] at h9
       exact h9)
     refine zAe (qn ⟨gQ.drop.tail, ?_⟩)
     have sI : St _ _ (_ :: gh ++ (_ :: _ :: BG ++ (BZ ++ (BS ++ (Z))))) := St.perm (show St _ _ (gh ++ (_ :: _ :: _ :: BG ++ (BZ ++ (BS ++ (Z))))) from gQ) (zAq gh [_] _)
     exact hS391 _ _ (Md.intro (by repeat (first | exact zA3 | exact zA6 | refine zA5 rfl ?_ | refine zAw rfl ?_ _ | refine zAr rfl ?_)) ⟨bb2, jL, gh, rfl, hA430, sI⟩)
    ·
     refine zA0 (ps := [(0, _)]) (pv := [(0, .int _ _)]) (cs := [_]) zAb rfl rfl (fun w => zBt _ w) hs (fun sJ yn jM => ?_)
     refine zAe (qn ⟨jM.tail.tail.tail, ?_⟩)
     have sK : St _ _ (_ :: _ :: _ :: _ :: _ :: BG ++ (BZ ++ (BS ++ (Z)))) := St.perm (show St _ _ (_ :: _ :: _ :: _ :: _ :: BG ++ (BZ ++ (BS ++ (Z)))) from jM) (zAq [_] [_] _)
     exact hS329 _ _ (Md.intro (by repeat (first | exact zA3 | exact zA6 | refine zA5 rfl ?_ | refine zAw rfl ?_ _ | refine zAr rfl ?_)) ⟨bb0, sJ, bb2, rfl, sK⟩)
    refine zA0 (ps := [(0, _)]) (pv := [(0, .int _ _)]) (cs := [_]) zAb rfl rfl (fun w => zBt _ w) hs (fun sL yo jN => ?_)
    refine zAe (qn ⟨jN.tail.tail.tail, ?_⟩)
    have sM : St _ _ (_ :: _ :: _ :: _ :: _ :: BG ++ (BZ ++ (BS ++ (Z)))) := St.perm (show St _ _ (_ :: _ :: _ :: _ :: _ :: BG ++ (BZ ++ (BS ++ (Z)))) from jN) (zAq [_] [_] _)
    have sN : St _ _ (_ :: _ :: _ :: _ :: _ :: BG ++ (BZ ++ (BS ++ (Z)))) := St.perm (show St _ _ (_ :: _ :: _ :: _ :: _ :: BG ++ (BZ ++ (BS ++ (Z)))) from sM) (List.Perm.cons _ (zAq [_] [_] _))
    exact hS358 _ _ (Md.intro (by repeat (first | exact zA3 | exact zA6 | refine zA5 rfl ?_ | refine zAw rfl ?_ _ | refine zAr rfl ?_)) ⟨bb0, bb2, sL, rfl, sN⟩)
   refine zB9 [129,130,131,132,133,134,135,136,137,138,139,140,141,142,143] [131,137,139,129,140] (fun vs w => ∃ (bb0 : Nat) (bb3 : Nat), vs = [.slice aZ i cZ, .slice aS i cS, .int .i64 (shP p.farms (Ca.anyC p.farms.length y) x (p.clo + d % (p.chi - p.clo + 1)) (i + 1)), .slice (some ⟨bb0,0, none⟩) 0 0, .slice (some ⟨bb3,0, none⟩) 1 1] ∧ St w0 w ((bb0, blk 3 []) :: (bb3, blk 3 [.int .i64 (shP p.farms (Ca.anyC p.farms.length y) x (p.clo + d % (p.chi - p.clo + 1)) (i + 1))]) :: (((g0, blk 43 [.string nmC, .int .i64 0, .int .i64 0, .int .i64 0, .slice aZ (i) cZ, .slice aS (i) cS]) :: (g5, blk 41 [.int .i64 1, .slice aG (i + 1) cG, .slice none 0 0]) :: (BG ++ (BZ ++ (BS ++ Z))))))) Tf0ad ?_ (fun hS441 => ?_)
   ·
    intro vs μ wq hM
    clear hs g4
    subst hX213
    obtain ⟨bb0, bb3, rfl, hs⟩ := hM
    refine zB0 ⟨zCn rfl ?_, zCn rfl ?_, zCn rfl ?_⟩
    ·
     refine zBu (X := ([])) (B := [_]) (rows := ((List.replicate i (0 : Int)).map fun x => [Value.int .i64 x])) (sz := 1) (bytes := 8) zAb underlying34 zCk rfl rfl rfl rfl rfl rfl rfl rfl rfl hs zDd hslZ.top.app.cons.cons.cons.cons (by rw [List.length_map, List.length_replicate]) hnZ (irow1 _) (by simp only [maxLen]; omega) (by omega) (fun jO yp gi sO gR => ?_)
     replace gR := (show St _ _ (gi ++ (_ :: _ :: _ :: BG ++ (BZ ++ (BS ++ (Z))))) from gR)
     have hA447 : Rt.Own jO 3 1 i (iv (List.replicate i 0)) gi := (by
       have h9 := sO
       rw [Nat.zero_add, List.nil_append, ← zEk] at h9
       exact h9)
     refine zAe (qn ⟨gR.drop.tail, ?_⟩)
     have sP : St _ _ (_ :: gi ++ (_ :: _ :: BG ++ (BZ ++ (BS ++ (Z))))) := St.perm (show St _ _ (gi ++ (_ :: _ :: _ :: BG ++ (BZ ++ (BS ++ (Z))))) from gR) (zAq gi [_] _)
     exact hS399 _ _ (Md.intro (by repeat (first | exact zA3 | exact zA6 | refine zA5 rfl ?_ | refine zAw rfl ?_ _ | refine zAr rfl ?_)) ⟨bb3, jO, gi, rfl, hA447, sP⟩)
    ·
     refine zA0 (ps := [(0, _)]) (pv := [(0, .int _ _)]) (cs := [_]) zAb rfl rfl (fun w => zBt _ w) hs (fun sQ yq jP => ?_)
     refine zAe (qn ⟨jP.tail.tail.tail, ?_⟩)
     have sR : St _ _ (_ :: _ :: _ :: _ :: _ :: BG ++ (BZ ++ (BS ++ (Z)))) := St.perm (show St _ _ (_ :: _ :: _ :: _ :: _ :: BG ++ (BZ ++ (BS ++ (Z)))) from jP) (zAq [_] [_] _)
     exact hS344 _ _ (Md.intro (by repeat (first | exact zA3 | exact zA6 | refine zA5 rfl ?_ | refine zAw rfl ?_ _ | refine zAr rfl ?_)) ⟨bb0, sQ, bb3, rfl, sR⟩)
    refine zA0 (ps := []) (pv := []) (cs := []) zAb rfl rfl (fun w => zB7  w) hs (fun sS yr jQ => ?_)
    refine zAe (qn ⟨jQ.tail.tail.tail, ?_⟩)
    have sT : St _ _ (_ :: _ :: _ :: _ :: _ :: BG ++ (BZ ++ (BS ++ (Z)))) := St.perm (show St _ _ (_ :: _ :: _ :: _ :: _ :: BG ++ (BZ ++ (BS ++ (Z)))) from jQ) (zAq [_] [_] _)
    exact hS358 _ _ (Md.intro (by repeat (first | exact zA3 | exact zA6 | refine zA5 rfl ?_ | refine zAw rfl ?_ _ | refine zAr rfl ?_)) ⟨bb0, sS, bb3, rfl, sT⟩)
   refine zB9 [129,130,131,132,133,134,135,136,137,138,139,140,141,142,143] [131,137,139,133,135] (fun vs w => ∃ (bb1 : Nat) (bb2 : Nat), vs = [.slice aZ i cZ, .slice aS i cS, .int .i64 (shP p.farms (Ca.anyC p.farms.length y) x (p.clo + d % (p.chi - p.clo + 1)) (i + 1)), .slice (some ⟨bb1,0, none⟩) 1 1, .slice (some ⟨bb2,0, none⟩) 0 0] ∧ St w0 w ((bb1, blk 3 [.int .i64 0]) :: (bb2, blk 3 []) :: (((g0, blk 43 [.string nmC, .int .i64 0, .int .i64 0, .int .i64 0, .slice aZ (i) cZ, .slice aS (i) cS]) :: (g5, blk 41 [.int .i64 1, .slice aG (i + 1) cG, .slice none 0 0]) :: (BG ++ (BZ ++ (BS ++ Z))))))) Tf0bc ?_ (fun hS457 => ?_)
   ·
    intro vs μ wq hM
    clear hs g4
    subst hX213
    obtain ⟨bb1, bb2, rfl, hs⟩ := hM
    refine zB0 ⟨zCn rfl ?_, zCn rfl ?_⟩
    ·
     refine zA0 (ps := []) (pv := []) (cs := []) zAb rfl rfl (fun w => zB7  w) hs (fun sU ys jR => ?_)
     refine zAe (qn ⟨jR.tail.tail.tail, ?_⟩)
     exact hS329 _ _ (Md.intro (by repeat (first | exact zA3 | exact zA6 | refine zA5 rfl ?_ | refine zAw rfl ?_ _ | refine zAr rfl ?_)) ⟨sU, bb1, bb2, rfl, jR⟩)
    refine zA0 (ps := [(0, _)]) (pv := [(0, .int _ _)]) (cs := [_]) zAb rfl rfl (fun w => zBt _ w) hs (fun sV yt jS => ?_)
    refine zAe (qn ⟨jS.tail.tail.tail, ?_⟩)
    have sW : St _ _ (_ :: _ :: _ :: _ :: _ :: BG ++ (BZ ++ (BS ++ (Z)))) := St.perm (show St _ _ (_ :: _ :: _ :: _ :: _ :: BG ++ (BZ ++ (BS ++ (Z)))) from jS) (zAq [_] [_] _)
    have sX : St _ _ (_ :: _ :: _ :: _ :: _ :: BG ++ (BZ ++ (BS ++ (Z)))) := St.perm (show St _ _ (_ :: _ :: _ :: _ :: _ :: BG ++ (BZ ++ (BS ++ (Z)))) from sW) (List.Perm.cons _ (zAq [_] [_] _))
    exact hS371 _ _ (Md.intro (by repeat (first | exact zA3 | exact zA6 | refine zA5 rfl ?_ | refine zAw rfl ?_ _ | refine zAr rfl ?_)) ⟨bb1, bb2, sV, rfl, sX⟩)
   refine zB9 [129,130,131,132,133,134,135,136,137,138,139,140,141,142,143] [131,137,139,133,140] (fun vs w => ∃ (bb1 : Nat) (bb3 : Nat), vs = [.slice aZ i cZ, .slice aS i cS, .int .i64 (shP p.farms (Ca.anyC p.farms.length y) x (p.clo + d % (p.chi - p.clo + 1)) (i + 1)), .slice (some ⟨bb1,0, none⟩) 1 1, .slice (some ⟨bb3,0, none⟩) 1 1] ∧ St w0 w ((bb1, blk 3 [.int .i64 0]) :: (bb3, blk 3 [.int .i64 (shP p.farms (Ca.anyC p.farms.length y) x (p.clo + d % (p.chi - p.clo + 1)) (i + 1))]) :: (((g0, blk 43 [.string nmC, .int .i64 0, .int .i64 0, .int .i64 0, .slice aZ (i) cZ, .slice aS (i) cS]) :: (g5, blk 41 [.int .i64 1, .slice aG (i + 1) cG, .slice none 0 0]) :: (BG ++ (BZ ++ (BS ++ Z))))))) Tf0bd ?_ (fun hS466 => ?_)
   ·
    intro vs μ wq hM
    clear hs g4
    subst hX213
    obtain ⟨bb1, bb3, rfl, hs⟩ := hM
    refine zB0 ⟨zCn rfl ?_, zCn rfl ?_⟩
    ·
     refine zA0 (ps := []) (pv := []) (cs := []) zAb rfl rfl (fun w => zB7  w) hs (fun sY yu jT => ?_)
     refine zAe (qn ⟨jT.tail.tail.tail, ?_⟩)
     exact hS344 _ _ (Md.intro (by repeat (first | exact zA3 | exact zA6 | refine zA5 rfl ?_ | refine zAw rfl ?_ _ | refine zAr rfl ?_)) ⟨sY, bb1, bb3, rfl, jT⟩)
    refine zA0 (ps := []) (pv := []) (cs := []) zAb rfl rfl (fun w => zB7  w) hs (fun sZ yw jU => ?_)
    refine zAe (qn ⟨jU.tail.tail.tail, ?_⟩)
    have t0 : St _ _ (_ :: _ :: _ :: _ :: _ :: BG ++ (BZ ++ (BS ++ (Z)))) := St.perm (show St _ _ (_ :: _ :: _ :: _ :: _ :: BG ++ (BZ ++ (BS ++ (Z)))) from jU) (zAq [_] [_] _)
    exact hS371 _ _ (Md.intro (by repeat (first | exact zA3 | exact zA6 | refine zA5 rfl ?_ | refine zAw rfl ?_ _ | refine zAr rfl ?_)) ⟨bb1, sZ, bb3, rfl, t0⟩)
   refine zB9 [129,130,131,132,133,134,135,136,137,138,139,140,141,142,143] [131,137,139,135,140] (fun vs w => ∃ (bb2 : Nat) (bb3 : Nat), vs = [.slice aZ i cZ, .slice aS i cS, .int .i64 (shP p.farms (Ca.anyC p.farms.length y) x (p.clo + d % (p.chi - p.clo + 1)) (i + 1)), .slice (some ⟨bb2,0, none⟩) 0 0, .slice (some ⟨bb3,0, none⟩) 1 1] ∧ St w0 w ((bb2, blk 3 []) :: (bb3, blk 3 [.int .i64 (shP p.farms (Ca.anyC p.farms.length y) x (p.clo + d % (p.chi - p.clo + 1)) (i + 1))]) :: (((g0, blk 43 [.string nmC, .int .i64 0, .int .i64 0, .int .i64 0, .slice aZ (i) cZ, .slice aS (i) cS]) :: (g5, blk 41 [.int .i64 1, .slice aG (i + 1) cG, .slice none 0 0]) :: (BG ++ (BZ ++ (BS ++ Z))))))) Tf0cd ?_ (fun hS474 => ?_)
   ·
    intro vs μ wq hM
    clear hs g4
    subst hX213
    obtain ⟨bb2, bb3, rfl, hs⟩ := hM
    refine zB0 ⟨zCn rfl ?_, zCn rfl ?_⟩
    ·
     refine zA0 (ps := []) (pv := []) (cs := []) zAb rfl rfl (fun w => zB7  w) hs (fun t4 yx jV => ?_)
     refine zAe (qn ⟨jV.tail.tail.tail, ?_⟩)
     exact hS358 _ _ (Md.intro (by repeat (first | exact zA3 | exact zA6 | refine zA5 rfl ?_ | refine zAw rfl ?_ _ | refine zAr rfl ?_)) ⟨t4, bb2, bb3, rfl, jV⟩)
    refine zA0 (ps := [(0, _)]) (pv := [(0, .int _ _)]) (cs := [_]) zAb rfl rfl (fun w => zBt _ w) hs (fun t5 yy jW => ?_)
    refine zAe (qn ⟨jW.tail.tail.tail, ?_⟩)
    exact hS371 _ _ (Md.intro (by repeat (first | exact zA3 | exact zA6 | refine zA5 rfl ?_ | refine zAw rfl ?_ _ | refine zAr rfl ?_)) ⟨t5, bb2, bb3, rfl, jW⟩)
   refine zB9 [129,130,131,132,133,134,135,136,137,138,139,140,141,142,143] [131,137,139,132] (fun vs w => ∃ (vZ : Value) (BZc : List (Nat × Obj)), vs = [.slice aZ i cZ, .slice aS i cS, .int .i64 (shP p.farms (Ca.anyC p.farms.length y) x (p.clo + d % (p.chi - p.clo + 1)) (i + 1)), vZ] ∧ Rt.Own vZ 3 1 i (iv (List.replicate i 0)) BZc ∧ St w0 w ((BZc ++ (((g0, blk 43 [.string nmC, .int .i64 0, .int .i64 0, .int .i64 0, .slice aZ (i) cZ, .slice aS (i) cS]) :: (g5, blk 41 [.int .i64 1, .slice aG (i + 1) cG, .slice none 0 0]) :: (BG ++ (BZ ++ (BS ++ Z)))))))) Tf1a ?_ (fun hS481 => ?_)
   ·
    intro vs μ wq hM
    clear hs g4
    subst hX213
    obtain ⟨vZ, BZc, rfl, hoZ, hs⟩ := hM
    refine zB0 ⟨zCn rfl ?_, zCn rfl ?_, zCn rfl ?_⟩
    ·
     refine zA0 (ps := [(0, _)]) (pv := [(0, .int _ _)]) (cs := [_]) zAb rfl rfl (fun w => zBt _ w) hs (fun t6 yz jX => ?_)
     refine zAe (qn ⟨jX.tail.drop, ?_⟩)
     exact hS375 _ _ (Md.intro (by repeat (first | exact zA3 | exact zA6 | refine zA5 rfl ?_ | refine zAw rfl ?_ _ | refine zAr rfl ?_)) ⟨t6, vZ, BZc, rfl, hoZ, jX⟩)
    ·
     refine zA0 (ps := []) (pv := []) (cs := []) zAb rfl rfl (fun w => zB7  w) hs (fun t7 yA jY => ?_)
     refine zAe (qn ⟨jY.tail.drop, ?_⟩)
     exact hS391 _ _ (Md.intro (by repeat (first | exact zA3 | exact zA6 | refine zA5 rfl ?_ | refine zAw rfl ?_ _ | refine zAr rfl ?_)) ⟨t7, vZ, BZc, rfl, hoZ, jY⟩)
    refine zA0 (ps := [(0, _)]) (pv := [(0, .int _ _)]) (cs := [_]) zAb rfl rfl (fun w => zBt _ w) hs (fun t8 yB jZ => ?_)
    refine zAe (qn ⟨jZ.tail.drop, ?_⟩)
    exact hS399 _ _ (Md.intro (by repeat (first | exact zA3 | exact zA6 | refine zA5 rfl ?_ | refine zAw rfl ?_ _ | refine zAr rfl ?_)) ⟨t8, vZ, BZc, rfl, hoZ, jZ⟩)
   refine zB9 [129,130,131,132,133,134,135,136,137,138,139,140,141,142,143] [131,137,139,129] (fun vs w => ∃ (bb0 : Nat), vs = [.slice aZ i cZ, .slice aS i cS, .int .i64 (shP p.farms (Ca.anyC p.farms.length y) x (p.clo + d % (p.chi - p.clo + 1)) (i + 1)), .slice (some ⟨bb0,0, none⟩) 0 0] ∧ St w0 w ((bb0, blk 3 []) :: (((g0, blk 43 [.string nmC, .int .i64 0, .int .i64 0, .int .i64 0, .slice aZ (i) cZ, .slice aS (i) cS]) :: (g5, blk 41 [.int .i64 1, .slice aG (i + 1) cG, .slice none 0 0]) :: (BG ++ (BZ ++ (BS ++ Z))))))) Tf0a ?_ (fun hS491 => ?_)
   ·
    intro vs μ wq hM
    clear hs g4
    subst hX213
    obtain ⟨bb0, rfl, hs⟩ := hM
    refine zB0 ⟨zCn rfl ?_, zCn rfl ?_, zCn rfl ?_, zCn rfl ?_⟩
    ·
     refine zBu (X := ([])) (B := [_]) (rows := ((List.replicate i (0 : Int)).map fun x => [Value.int .i64 x])) (sz := 1) (bytes := 8) zAb underlying34 zCk rfl rfl rfl rfl rfl rfl rfl rfl rfl hs zDd hslZ.top.app.cons.cons.cons (by rw [List.length_map, List.length_replicate]) hnZ (irow1 _) (by simp only [maxLen]; omega) (by omega) (fun ka yC hX ta gT => ?_)
     replace gT := (show St _ _ (hX ++ (_ :: _ :: BG ++ (BZ ++ (BS ++ (Z))))) from gT)
     have hA497 : Rt.Own ka 3 1 i (iv (List.replicate i 0)) hX := (by
       have h9 := ta
       rw [Nat.zero_add, List.nil_append, ← zEk] at h9
       exact h9)
     refine zAe (qn ⟨gT.drop, ?_⟩)
     exact hS481 _ _ (Md.intro (by repeat (first | exact zA3 | exact zA6 | refine zA5 rfl ?_ | refine zAw rfl ?_ _ | refine zAr rfl ?_)) ⟨ka, hX, rfl, hA497, gT⟩)
    ·
     refine zA0 (ps := [(0, _)]) (pv := [(0, .int _ _)]) (cs := [_]) zAb rfl rfl (fun w => zBt _ w) hs (fun tc yD kb => ?_)
     refine zAe (qn ⟨kb.tail.tail, ?_⟩)
     have td : St _ _ (_ :: _ :: _ :: _ :: BG ++ (BZ ++ (BS ++ (Z)))) := St.perm (show St _ _ (_ :: _ :: _ :: _ :: BG ++ (BZ ++ (BS ++ (Z)))) from kb) (zAq [_] [_] _)
     exact hS406 _ _ (Md.intro (by repeat (first | exact zA3 | exact zA6 | refine zA5 rfl ?_ | refine zAw rfl ?_ _ | refine zAr rfl ?_)) ⟨bb0, tc, rfl, td⟩)
    ·
     refine zA0 (ps := []) (pv := []) (cs := []) zAb rfl rfl (fun w => zB7  w) hs (fun te yE kc => ?_)
     refine zAe (qn ⟨kc.tail.tail, ?_⟩)
     have tf : St _ _ (_ :: _ :: _ :: _ :: BG ++ (BZ ++ (BS ++ (Z)))) := St.perm (show St _ _ (_ :: _ :: _ :: _ :: BG ++ (BZ ++ (BS ++ (Z)))) from kc) (zAq [_] [_] _)
     exact hS424 _ _ (Md.intro (by repeat (first | exact zA3 | exact zA6 | refine zA5 rfl ?_ | refine zAw rfl ?_ _ | refine zAr rfl ?_)) ⟨bb0, te, rfl, tf⟩)
    refine zA0 (ps := [(0, _)]) (pv := [(0, .int _ _)]) (cs := [_]) zAb rfl rfl (fun w => zBt _ w) hs (fun tg yF kd => ?_)
    refine zAe (qn ⟨kd.tail.tail, ?_⟩)
    have th : St _ _ (_ :: _ :: _ :: _ :: BG ++ (BZ ++ (BS ++ (Z)))) := St.perm (show St _ _ (_ :: _ :: _ :: _ :: BG ++ (BZ ++ (BS ++ (Z)))) from kd) (zAq [_] [_] _)
    exact hS441 _ _ (Md.intro (by repeat (first | exact zA3 | exact zA6 | refine zA5 rfl ?_ | refine zAw rfl ?_ _ | refine zAr rfl ?_)) ⟨bb0, tg, rfl, th⟩)
   refine zB9 [129,130,131,132,133,134,135,136,137,138,139,140,141,142,143] [131,137,139,133] (fun vs w => ∃ (bb1 : Nat), vs = [.slice aZ i cZ, .slice aS i cS, .int .i64 (shP p.farms (Ca.anyC p.farms.length y) x (p.clo + d % (p.chi - p.clo + 1)) (i + 1)), .slice (some ⟨bb1,0, none⟩) 1 1] ∧ St w0 w ((bb1, blk 3 [.int .i64 0]) :: (((g0, blk 43 [.string nmC, .int .i64 0, .int .i64 0, .int .i64 0, .slice aZ (i) cZ, .slice aS (i) cS]) :: (g5, blk 41 [.int .i64 1, .slice aG (i + 1) cG, .slice none 0 0]) :: (BG ++ (BZ ++ (BS ++ Z))))))) Tf0b ?_ (fun hS510 => ?_)
   ·
    intro vs μ wq hM
    clear hs g4
    subst hX213
    obtain ⟨bb1, rfl, hs⟩ := hM
    refine zB0 ⟨zCn rfl ?_, zCn rfl ?_, zCn rfl ?_⟩
    ·
     refine zA0 (ps := []) (pv := []) (cs := []) zAb rfl rfl (fun w => zB7  w) hs (fun ti yG ke => ?_)
     refine zAe (qn ⟨ke.tail.tail, ?_⟩)
     exact hS406 _ _ (Md.intro (by repeat (first | exact zA3 | exact zA6 | refine zA5 rfl ?_ | refine zAw rfl ?_ _ | refine zAr rfl ?_)) ⟨ti, bb1, rfl, ke⟩)
    ·
     refine zA0 (ps := []) (pv := []) (cs := []) zAb rfl rfl (fun w => zB7  w) hs (fun tj yH kf => ?_)
     refine zAe (qn ⟨kf.tail.tail, ?_⟩)
     have tk : St _ _ (_ :: _ :: _ :: _ :: BG ++ (BZ ++ (BS ++ (Z)))) := St.perm (show St _ _ (_ :: _ :: _ :: _ :: BG ++ (BZ ++ (BS ++ (Z)))) from kf) (zAq [_] [_] _)
     exact hS457 _ _ (Md.intro (by repeat (first | exact zA3 | exact zA6 | refine zA5 rfl ?_ | refine zAw rfl ?_ _ | refine zAr rfl ?_)) ⟨bb1, tj, rfl, tk⟩)
    refine zA0 (ps := [(0, _)]) (pv := [(0, .int _ _)]) (cs := [_]) zAb rfl rfl (fun w => zBt _ w) hs (fun tl yI kg => ?_)
    refine zAe (qn ⟨kg.tail.tail, ?_⟩)
    have tm : St _ _ (_ :: _ :: _ :: _ :: BG ++ (BZ ++ (BS ++ (Z)))) := St.perm (show St _ _ (_ :: _ :: _ :: _ :: BG ++ (BZ ++ (BS ++ (Z)))) from kg) (zAq [_] [_] _)
    exact hS466 _ _ (Md.intro (by repeat (first | exact zA3 | exact zA6 | refine zA5 rfl ?_ | refine zAw rfl ?_ _ | refine zAr rfl ?_)) ⟨bb1, tl, rfl, tm⟩)
   refine zB9 [129,130,131,132,133,134,135,136,137,138,139,140,141,142,143] [131,137,139,135] (fun vs w => ∃ (bb2 : Nat), vs = [.slice aZ i cZ, .slice aS i cS, .int .i64 (shP p.farms (Ca.anyC p.farms.length y) x (p.clo + d % (p.chi - p.clo + 1)) (i + 1)), .slice (some ⟨bb2,0, none⟩) 0 0] ∧ St w0 w ((bb2, blk 3 []) :: (((g0, blk 43 [.string nmC, .int .i64 0, .int .i64 0, .int .i64 0, .slice aZ (i) cZ, .slice aS (i) cS]) :: (g5, blk 41 [.int .i64 1, .slice aG (i + 1) cG, .slice none 0 0]) :: (BG ++ (BZ ++ (BS ++ Z))))))) Tf0c ?_ (fun hS522 => ?_)
   ·
    intro vs μ wq hM
    clear hs g4
    subst hX213
    obtain ⟨bb2, rfl, hs⟩ := hM
    refine zB0 ⟨zCn rfl ?_, zCn rfl ?_, zCn rfl ?_⟩
    ·
     refine zA0 (ps := []) (pv := []) (cs := []) zAb rfl rfl (fun w => zB7  w) hs (fun tn yJ kh => ?_)
     refine zAe (qn ⟨kh.tail.tail, ?_⟩)
     exact hS424 _ _ (Md.intro (by repeat (first | exact zA3 | exact zA6 | refine zA5 rfl ?_ | refine zAw rfl ?_ _ | refine zAr rfl ?_)) ⟨tn, bb2, rfl, kh⟩)
    ·
     refine zA0 (ps := [(0, _)]) (pv := [(0, .int _ _)]) (cs := [_]) zAb rfl rfl (fun w => zBt _ w) hs (fun tp yK ki => ?_)
     refine zAe (qn ⟨ki.tail.tail, ?_⟩)
     exact hS457 _ _ (Md.intro (by repeat (first | exact zA3 | exact zA6 | refine zA5 rfl ?_ | refine zAw rfl ?_ _ | refine zAr rfl ?_)) ⟨tp, bb2, rfl, ki⟩)
    refine zA0 (ps := [(0, _)]) (pv := [(0, .int _ _)]) (cs := [_]) zAb rfl rfl (fun w => zBt _ w) hs (fun tq yL kj => ?_)
    refine zAe (qn ⟨kj.tail.tail, ?_⟩)
    have tr : St _ _ (_ :: _ :: _ :: _ :: BG ++ (BZ ++ (BS ++ (Z)))) := St.perm (show St _ _ (_ :: _ :: _ :: _ :: BG ++ (BZ ++ (BS ++ (Z)))) from kj) (zAq [_] [_] _)
    exact hS474 _ _ (Md.intro (by repeat (first | exact zA3 | exact zA6 | refine zA5 rfl ?_ | refine zAw rfl ?_ _ | refine zAr rfl ?_)) ⟨bb2, tq, rfl, tr⟩)
   refine zB9 [129,130,131,132,133,134,135,136,137,138,139,140,141,142,143] [131,137,139,140] (fun vs w => ∃ (bb3 : Nat), vs = [.slice aZ i cZ, .slice aS i cS, .int .i64 (shP p.farms (Ca.anyC p.farms.length y) x (p.clo + d % (p.chi - p.clo + 1)) (i + 1)), .slice (some ⟨bb3,0, none⟩) 1 1] ∧ St w0 w ((bb3, blk 3 [.int .i64 (shP p.farms (Ca.anyC p.farms.length y) x (p.clo + d % (p.chi - p.clo + 1)) (i + 1))]) :: (((g0, blk 43 [.string nmC, .int .i64 0, .int .i64 0, .int .i64 0, .slice aZ (i) cZ, .slice aS (i) cS]) :: (g5, blk 41 [.int .i64 1, .slice aG (i + 1) cG, .slice none 0 0]) :: (BG ++ (BZ ++ (BS ++ Z))))))) Tf0d ?_ (fun hS533 => ?_)
   ·
    intro vs μ wq hM
    clear hs g4
    subst hX213
    obtain ⟨bb3, rfl, hs⟩ := hM
    refine zB0 ⟨zCn rfl ?_, zCn rfl ?_, zCn rfl ?_⟩
    ·
     refine zA0 (ps := []) (pv := []) (cs := []) zAb rfl rfl (fun w => zB7  w) hs (fun tt yM km => ?_)
     refine zAe (qn ⟨km.tail.tail, ?_⟩)
     exact hS441 _ _ (Md.intro (by repeat (first | exact zA3 | exact zA6 | refine zA5 rfl ?_ | refine zAw rfl ?_ _ | refine zAr rfl ?_)) ⟨tt, bb3, rfl, km⟩)
    ·
     refine zA0 (ps := [(0, _)]) (pv := [(0, .int _ _)]) (cs := [_]) zAb rfl rfl (fun w => zBt _ w) hs (fun tu yN kn => ?_)
     refine zAe (qn ⟨kn.tail.tail, ?_⟩)
     exact hS466 _ _ (Md.intro (by repeat (first | exact zA3 | exact zA6 | refine zA5 rfl ?_ | refine zAw rfl ?_ _ | refine zAr rfl ?_)) ⟨tu, bb3, rfl, kn⟩)
    refine zA0 (ps := []) (pv := []) (cs := []) zAb rfl rfl (fun w => zB7  w) hs (fun tv yO ko => ?_)
    refine zAe (qn ⟨ko.tail.tail, ?_⟩)
    exact hS474 _ _ (Md.intro (by repeat (first | exact zA3 | exact zA6 | refine zA5 rfl ?_ | refine zAw rfl ?_ _ | refine zAr rfl ?_)) ⟨tv, bb3, rfl, ko⟩)
   subst hX213
   refine d_w rfl (fun _ => zAd (o := 4) (i := 4) underlying43 rfl sizeOf34 rfl rfl rfl) rfl ?_
   refine zBh rfl zAb rfl g4 (fun _ hq => (zAj isAgg34 hq rfl rfl (zAh (i := 0) (vs := [_]) rfl rfl))) ?_
   refine d_w rfl (fun _ => zAd (o := 5) (i := 5) underlying43 rfl sizeOf34 rfl rfl rfl) rfl ?_
   refine zBh rfl zAb rfl g4 (fun _ hq => (zAj isAgg34 hq rfl rfl (zAh (i := 0) (vs := [_]) rfl rfl))) ?_
   refine d_w rfl (fun _ => zA1 rfl rfl) rfl ?_
   refine zB0 ⟨zCn rfl ?_, zCn rfl ?_, zCn rfl ?_, zCn rfl ?_⟩
   ·
    refine zA0 (ps := []) (pv := []) (cs := []) zAb rfl rfl (fun w => zB7  w) g4 (fun tw yP kp => ?_)
    refine zAe (qn ⟨kp.tail, ?_⟩)
    exact hS491 _ _ (Md.intro (by repeat (first | exact zA3 | exact zA6 | refine zA5 rfl ?_ | refine zAw rfl ?_ _ | refine zAr rfl ?_)) ⟨tw, rfl, kp⟩)
   ·
    refine zA0 (ps := [(0, _)]) (pv := [(0, .int _ _)]) (cs := [_]) zAb rfl rfl (fun w => zBt _ w) g4 (fun tx yQ kq => ?_)
    refine zAe (qn ⟨kq.tail, ?_⟩)
    exact hS510 _ _ (Md.intro (by repeat (first | exact zA3 | exact zA6 | refine zA5 rfl ?_ | refine zAw rfl ?_ _ | refine zAr rfl ?_)) ⟨tx, rfl, kq⟩)
   ·
    refine zA0 (ps := []) (pv := []) (cs := []) zAb rfl rfl (fun w => zB7  w) g4 (fun tz yR kr => ?_)
    refine zAe (qn ⟨kr.tail, ?_⟩)
    exact hS522 _ _ (Md.intro (by repeat (first | exact zA3 | exact zA6 | refine zA5 rfl ?_ | refine zAw rfl ?_ _ | refine zAr rfl ?_)) ⟨tz, rfl, kr⟩)
   refine zA0 (ps := [(0, _)]) (pv := [(0, .int _ _)]) (cs := [_]) zAb rfl rfl (fun w => zBt _ w) g4 (fun tA yS ku => ?_)
   refine zAe (qn ⟨ku.tail, ?_⟩)
   exact hS533 _ _ (Md.intro (by repeat (first | exact zA3 | exact zA6 | refine zA5 rfl ?_ | refine zAw rfl ?_ _ | refine zAr rfl ?_)) ⟨tA, rfl, ku⟩)
  try simp only [zS] at gX
  refine zBq (zAo (zAo (zA8 (zAc (kQ _ _ (zAf (fun yT tB => ?_)))))))
  have hin2 : i = p.farms.length := by omega
  subst hin2
  rw [List.take_of_length_le (by rw [zDs]; exact Nat.le_refl _)] at hslH
  have hc0 : (ldB0 p.farms (Ca.anyC p.farms.length y) (p.clo + d % (p.chi - p.clo + 1))).cells (⟨aH, cH, none, 0, fun _ => ⟨none, 0, none, 0⟩⟩ : AtB) = [.int .i64 1, .slice aH (p.farms.length) cH, .slice none 0 0] := by simp [Board.cells, ldB0, zDs]
  have hb14 := ats_castG (ats_of (i := 1) (vs := [.int .i64 1, .slice aH (p.farms.length) cH, .slice none 0 0]) hs rfl rfl) hc0
  have hm0 := ld_bin0 hs hn3 (hslH.top.cons.cons) hcH
  refine zAa (w_p (zA7 (vs := [_,_,_]) isAgg41 sizeOf41 hs rfl rfl hb14) rfl (zAs zAb call10 rfl rfl rfl rfl (c10 (ldB0 p.farms (Ca.anyC p.farms.length y) (p.clo + d % (p.chi - p.clo + 1))) _ hm0 hs) ?_))
  rintro _ yU ⟨rfl, hY⟩
  refine w_p (zAi (v := .tuple _) rfl rfl) rfl (w_p (zAn (v := .int _ _) rfl rfl rfl) rfl (w_p (zAn (v := .int _ _) rfl rfl rfl) rfl (w_p (zAn (v := .int _ _) rfl rfl rfl) rfl (zBl rfl rfl (zBl rfl rfl (zBl rfl rfl ?_))))))
  refine zAe (zAc (tB _ _ (zAf (fun yV tC => (zAf (fun yW tD => (zAa (zBa rfl rfl (w_p (zCt rfl rfl rfl rfl) rfl (zAe (zAc (tD _ _ (zAy rfl rfl (fun j0 => ?_) (fun j0 => ?_))))))))))))))
  ·
   try simp only [zS] at j0
   refine zAf (fun yX tE => (zAa (zAs zAb call5 rfl rfl rfl rfl (Cb.c5 hY) ?_)))
   rintro _ yY ⟨rfl, tF⟩
   refine w_p (zAi (v := .bool _) rfl rfl) rfl (zAs (zAp rfl rfl rfl) call6 rfl rfl rfl rfl (c6 tF) ?_)
   rintro _ yZ ⟨rfl, tG⟩
   refine w_p (zAx (v := .bool _) rfl rfl rfl rfl) rfl (w_p (zAm (v := .bool _) rfl rfl) rfl (zAe (zAc (tE _ _ (zA2 (zAk (zA9 (l := [.tmp 6]) (vs := [_]) rfl ⟨⟨rfl, (rfl : _ = Value.bool _)⟩, trivial⟩ ?_)))))))
   exact ⟨rfl, (St.cast hZ tG.tail.tail.drop.drop.drop).drop.tail.tail⟩
  try simp only [zS] at j0
  refine zAv (zAc (tC _ _ (zAf (fun z0 tH => ?_))))
  have hcB : (check (ldB0 p.farms (Ca.anyC p.farms.length y) (p.clo + d % (p.chi - p.clo + 1)))).2.2 = 0 := by assumption
  have hF := load_facts (x := x) hokp.farm hll hcB
  have hee := Ca.enter_any hcp hll Ca.any_in
  have hql := Ca.quay_len hee hcome.2.1
  have hf2 : (holdP (ldB0 p.farms (Ca.anyC p.farms.length y) (p.clo + d % (p.chi - p.clo + 1))) 0).2 = 0 := by rw [hF.free]
  have hf3 : (holdP (ldB1 p.farms (Ca.anyC p.farms.length y) x (p.clo + d % (p.chi - p.clo + 1))) 0).2 = 0 := by rw [hF.told]
  refine zAa (w_p (zA7 (vs := [_,_,_,_]) isAgg26 sizeOf26 hY.tail.tail.drop.drop.drop rfl rfl hb3) rfl (w_p (zAi (v := .slice _ _ _) rfl rfl) rfl (zAs zAb call11 rfl rfl rfl rfl (Cb.c11b p _ _ (by omega) (by omega) haZ.app.app.app.cons.cons hnm _ _ (Ca.anyC p.farms.length y) (by omega) hAZ.app.app.app.cons.cons hY) ?_)))
  rintro _ z3 ⟨QB, aQ, cQ, rfl, hslQ, gU⟩
  replace gU := (show St _ _ (QB ++ (_ :: _ :: BH ++ (BZ ++ (BS ++ (Z))))) from gU)
  refine w_p (zAi (v := .tuple _) rfl rfl) rfl (w_p (zAn (v := .slice _ _ _) rfl rfl rfl) rfl (w_p (zAn (v := .int _ _) rfl rfl rfl) rfl (w_p (zAm (v := .slice _ _ _) rfl rfl) rfl (zBl rfl rfl (zAe (zAc (tH _ _ (zAf (fun z4 tI => (zAa (w_p (zA7 (vs := [_,_,_]) isAgg41 sizeOf41 gU.drop rfl rfl hb14) rfl ?_)))))))))))
  refine zAs zAb call12 rfl rfl rfl rfl (c12 (ldB0 p.farms (Ca.anyC p.farms.length y) (p.clo + d % (p.chi - p.clo + 1))) _ hm0.app 0 gU) ?_
  rintro _ z5 ⟨rfl, tJ⟩
  refine w_p (zAi (v := .tuple _) rfl rfl) rfl (w_p (zAn (v := .agg _) rfl rfl rfl) rfl (w_p (zAn (v := .int _ _) rfl rfl rfl) rfl (zBb (cs := [_,_]) zAb zeroValue23 rfl tJ (fun tK z6 tL => ?_))))
  refine zA4 (i := 0) (v := .agg #[.int _ _, .int _ _]) (vs := [_,_]) zAb sizeOf23 rfl rfl rfl rfl rfl (by simp [Value.oneCell']) tL rfl (zNl rfl) (fun z7 tM => ?_)
  refine zBl rfl rfl (zAe (zAc (tI _ _ (zAf (fun z8 tN => ?_)))))
  have tO : St _ _ (_ :: _ :: QB ++ (_ :: BH ++ (BZ ++ (BS ++ (Z))))) := St.perm (show St _ _ (_ :: QB ++ (_ :: _ :: BH ++ (BZ ++ (BS ++ (Z))))) from tM) (List.Perm.cons _ (zAq QB [_] _))
  have kw : St _ _ (_ :: _ :: _ :: QB ++ (BH ++ (BZ ++ (BS ++ (Z))))) := St.perm (show St _ _ (_ :: _ :: QB ++ (_ :: BH ++ (BZ ++ (BS ++ (Z))))) from tO) (List.Perm.cons _ (List.Perm.cons _ (zAq QB [_] _)))
  refine zAa (w_p (zA7 (vs := [_,_,_,_,_,_]) isAgg43 sizeOf43 kw rfl rfl (zAh (i := 1) (vs := [_,_,_,_,_,_]) rfl rfl)) rfl (zA0 (ps := [(0, _)]) (pv := [(0, .agg #[.string _, .int _ _, .int _ _, .int _ _, .slice _ _ _, .slice _ _ _])]) (cs := [_,_,_,_,_,_]) zAb rfl rfl (fun w => Try_TB_fb9 _ _ _ _ _ _ _ _ _ _ w) kw (fun gl z9 tP => ?_)))
  refine w_p (zAd (o := 2) (i := 2) underlying41 rfl sizeOf39 rfl rfl rfl) rfl (zA4 (i := 3) (v := .slice _ _ _) (vs := [_]) zAb sizeOf39 rfl rfl rfl rfl rfl (by simp [Value.oneCell']) tP rfl (zNl rfl) (fun za tQ => ?_))
  refine zAe (zAc (tN _ _ (zAf (fun zb tR => ?_))))
  have tS : St _ _ (_ :: _ :: _ :: _ :: QB ++ (BH ++ (BZ ++ (BS ++ (Z))))) := St.perm (show St _ _ (_ :: _ :: _ :: _ :: QB ++ (BH ++ (BZ ++ (BS ++ (Z))))) from tQ) (List.Perm.cons _ (List.Perm.cons _ (zAq [_] [_] _)))
  have tT : St _ _ (_ :: _ :: _ :: _ :: QB ++ (BH ++ (BZ ++ (BS ++ (Z))))) := St.perm (show St _ _ (_ :: _ :: _ :: _ :: QB ++ (BH ++ (BZ ++ (BS ++ (Z))))) from tS) (List.Perm.cons _ (zAq [_] [_] _))
  have j1 : St _ _ (_ :: _ :: _ :: _ :: QB ++ (BH ++ (BZ ++ (BS ++ (Z))))) := St.perm (show St _ _ (_ :: _ :: _ :: _ :: QB ++ (BH ++ (BZ ++ (BS ++ (Z))))) from tT) (zAq [_] [_] _)
  have hc1 : (ldB1 p.farms (Ca.anyC p.farms.length y) x (p.clo + d % (p.chi - p.clo + 1))).cells (⟨aH, cH, some ⟨gl,0, none⟩, 1, fun _ => ⟨aZ, cZ, aS, cS⟩⟩ : AtB) = [.int .i64 1, .slice aH (p.farms.length) cH, .slice (some ⟨gl,0, none⟩) 1 1] := by simp [Board.cells, ldB1, zDs]
  have hcc : (ldC p.farms (Ca.anyC p.farms.length y) x (p.clo + d % (p.chi - p.clo + 1))).cells ⟨aZ, cZ, aS, cS⟩ = [.string nmC, .int .i64 0, .int .i64 0, .int .i64 0, .slice aZ (p.farms.length) cZ, .slice aS (p.farms.length) cS] := by simp [Ctr.cells, ldC, shL]
  obtain ⟨Z2, hZ2, hsZ2⟩ := gen_Z j1
  have hb14z : Ats w0 Z2 g5 0 ((ldB1 p.farms (Ca.anyC p.farms.length y) x (p.clo + d % (p.chi - p.clo + 1))).cells (⟨aH, cH, some ⟨gl,0, none⟩, 1, fun _ => ⟨aZ, cZ, aS, cS⟩⟩ : AtB)) := by rw [hZ2]; exact ats_castG (ats_of (i := 0) (vs := [.int .i64 1, .slice aH (p.farms.length) cH, .slice (some ⟨gl,0, none⟩) 1 1]) j1 rfl rfl) hc1
  have hb29 : Ats w0 Z2 tK 0 [.int .i64 (holdP (ldB0 p.farms (Ca.anyC p.farms.length y) (p.clo + d % (p.chi - p.clo + 1))) 0).1.1, .int .i64 (holdP (ldB0 p.farms (Ca.anyC p.farms.length y) (p.clo + d % (p.chi - p.clo + 1))) 0).1.2] := by rw [hZ2]; exact ats_of (i := 2) (vs := [_,_]) j1 rfl rfl
  have hm1 : BIn w0 Z2 (ldB1 p.farms (Ca.anyC p.farms.length y) x (p.clo + d % (p.chi - p.clo + 1))) (⟨aH, cH, some ⟨gl,0, none⟩, 1, fun _ => ⟨aZ, cZ, aS, cS⟩⟩ : AtB) := by rw [hZ2]; exact ld_bin1 hn3 (hslH.top.app.cons.cons.cons.cons) hcH (by rw [hcc]; exact zBp (i := 1) rfl (by simp) rfl) (hslZ.top.app.app.cons.cons.cons.cons) (hslS.top.app.app.app.cons.cons.cons.cons) hcZ hcS
  have hQZ : Sl w0 Z2 aQ 2 (Cb.sprow (Ca.quayR p (Ca.anyC p.farms.length y))) := by rw [hZ2]; exact hslQ.top.cons.cons.cons.cons
  refine zAa (w_p (zA7 (vs := [_,_,_]) isAgg41 sizeOf41 hsZ2 rfl rfl hb14z) rfl (zAs zAb call12 rfl rfl rfl rfl (c12 (ldB1 p.farms (Ca.anyC p.farms.length y) x (p.clo + d % (p.chi - p.clo + 1))) _ hm1 0 hsZ2) ?_))
  rintro _ zc ⟨rfl, tU⟩
  refine w_p (zAi (v := .tuple _) rfl rfl) rfl (w_p (zAn (v := .agg _) rfl rfl rfl) rfl (w_p (zAn (v := .int _ _) rfl rfl rfl) rfl (zBb (cs := [_,_]) zAb zeroValue23 rfl tU (fun zd ze tV => ?_))))
  refine zA4 (i := 0) (v := .agg #[.int _ _, .int _ _]) (vs := [_,_]) zAb sizeOf23 rfl rfl rfl rfl rfl (by simp [Value.oneCell']) tV rfl (zNl rfl) (fun zf tW => ?_)
  refine zBl rfl rfl (zAe (zAc (tR _ _ (zAf (fun zg tX => (zAf (fun zh tY => ?_)))))))
  have hqi : (d % (p.chi - p.clo + 1)).toNat < (Ca.quayR p (Ca.anyC p.farms.length y)).length := by omega
  obtain ⟨bs, os, hbs, hsp⟩ := Cb.sl_spans hQZ hqi
  subst hbs
  replace hsp := hsp.2
  rw [Ca.quay_get hee hqi, Int.toNat_of_nonneg hq1] at hsp
  have hfr := hF.free
  have hto := hF.told
  refine zCs [] [(0,0),(1,0),(2,0),(3,0),(4,0),(5,0),(6,0),(7,0),(8,0),(9,0),(10,0),(11,0),(12,0),(13,0),(14,0),(15,0),(16,0),(17,1),(18,0),(19,0),(20,0),(21,1),(22,0),(23,0),(24,0),(25,1),(26,0),(27,0),(28,0),(29,0),(30,0)] zCg (zC8 (by kernel_rfl)) tW (fun zi gm => ?_)
  refine d_w rfl (fun _ => zA1 rfl rfl) rfl ?_
  refine d_w rfl (fun _ => zCt rfl rfl rfl rfl) rfl ?_
  refine d_w rfl (fun _ => zAi (v := .bool _) rfl rfl) rfl ?_
  refine zDu (fun j2 => ?_) (fun j2 => ?_)
  ·
   exfalso
   try simp only [zS] at j2
   omega
  try simp only [zS] at j2
  refine zBx rfl (zAp rfl rfl rfl) rfl (fun _ => (zA1 rfl rfl)) ?_
  refine zBx rfl (zAp rfl rfl rfl) rfl (fun _ => (zCt rfl rfl rfl rfl)) ?_
  refine d_w rfl (fun _ => zBd (v := .bool _) rfl rfl rfl rfl) rfl ?_
  refine d_w rfl (fun _ => zAi (v := .bool _) rfl rfl) rfl ?_
  refine zDu (fun j3 => ?_) (fun j3 => ?_)
  ·
   exfalso
   try simp only [zS] at j3
   omega
  try simp only [zS] at j3
  refine zBx rfl (zAp rfl rfl rfl) rfl (fun _ => (zA1 rfl rfl)) ?_
  refine zBx rfl (zAp rfl rfl rfl) rfl (fun _ => (zCt rfl rfl rfl rfl)) ?_
  refine d_w rfl (fun _ => zBd (v := .bool _) rfl rfl rfl rfl) rfl ?_
  refine d_w rfl (fun _ => zAi (v := .bool _) rfl rfl) rfl ?_
  refine zDu (fun j4 => ?_) (fun j4 => ?_)
  ·
   exfalso
   try simp only [zS] at j4
   omega
  try simp only [zS] at j4
  refine zBx rfl (zAp rfl rfl rfl) rfl (fun _ => (zA1 rfl rfl)) ?_
  refine zBx rfl (zAp rfl rfl rfl) rfl (fun _ => (zAi (v := .slice _ _ _) rfl rfl)) ?_
  refine zBx rfl (zAp rfl rfl rfl) rfl (fun _ => (zBm underlying50 rfl rfl)) ?_
  refine zBx rfl (zAp rfl rfl rfl) rfl (fun _ => (zF5 rfl rfl rfl rfl)) ?_
  refine d_w rfl (fun _ => zBd (v := .bool _) rfl rfl rfl rfl) rfl ?_
  refine d_w rfl (fun _ => zAi (v := .bool _) rfl rfl) rfl ?_
  refine zDu (fun j5 => ?_) (fun j5 => ?_)
  ·
   exfalso
   try simp only [zS] at j5
   omega
  try simp only [zS] at j5
  refine zBh rfl (zAp rfl rfl rfl) rfl gm (fun _ hq => (zA7 (vs := [_,_]) isAgg23 sizeOf23 hq.tail rfl rfl hb29)) ?_
  refine zBx rfl (zAp rfl rfl rfl) rfl (fun _ => (zAi (v := .slice _ _ _) rfl rfl)) ?_
  refine zBx rfl (zAp rfl rfl rfl) rfl (fun _ => (zA1 rfl rfl)) ?_
  refine zBx rfl (zAp rfl rfl rfl) rfl (fun _ => (zBc underlying50 sizeOf23 rfl rfl rfl rfl (i := (d % (p.chi - p.clo + 1)).toNat) (by omega) (by omega))) ?_
  refine zBh rfl (zAp rfl rfl rfl) rfl gm (fun _ hq => (zA7 (vs := [_,_]) isAgg23 sizeOf23 hq.tail rfl rfl hsp)) ?_
  refine zBx rfl (zAp rfl rfl rfl) rfl (fun _ => (y_neFlat (l := [_,_]) (m := [_,_]) eqGuardType23 zEd (by first | omega | rfl | (simp only [zIm (by omega), zGe, zL] <;> omega)) (by first | omega | rfl | (simp only [zIm (by omega), zGe, zL] <;> omega)) rfl rfl rfl rfl rfl rfl)) ?_
  refine d_w rfl (fun _ => zBd (v := .bool _) rfl rfl rfl rfl) rfl ?_
  refine d_w rfl (fun _ => zAi (v := .bool _) rfl rfl) rfl ?_
  refine zDu (fun gn => ?_) (fun gn => ?_)
  ·
   exfalso
   try simp only [zS] at gn
   rw [hfr] at gn; simp at gn
  try simp only [zS] at gn
  refine zBh rfl (zAp rfl rfl rfl) rfl gm (fun _ hq => (zA7 (vs := [_,_]) isAgg23 sizeOf23 hq rfl rfl (zAh (i := 0) (vs := [_,_]) rfl rfl))) ?_
  refine zBx rfl (zAp rfl rfl rfl) rfl (fun _ => (zA1 rfl rfl)) ?_
  refine zBx rfl (zAp rfl rfl rfl) rfl (fun _ => (zA1 rfl rfl)) ?_
  refine zBx rfl (zAp rfl rfl rfl) rfl (fun _ => (zBy (ps := [(0, _),(1, _)]) (pv := [(0, .int _ _),(1, .int _ _)]) rfl rfl (fun w => Try_TB_fb11 _ _ w))) ?_
  refine zBx rfl (zAp rfl rfl rfl) rfl (fun _ => (y_neFlat (l := [_,_]) (m := [_,_]) eqGuardType23 zEd (by first | omega | rfl | (simp only [zIm (by omega), zGe, zL] <;> omega)) (by first | omega | rfl | (simp only [zIm (by omega), zGe, zL] <;> omega)) rfl rfl rfl rfl rfl rfl)) ?_
  refine d_w rfl (fun _ => zBd (v := .bool _) rfl rfl rfl rfl) rfl ?_
  refine zB0 ?_
  refine zAc (tY _ _ (zAy rfl rfl (fun go => ?_) (fun go => ?_)))
  ·
   exfalso
   try simp only [zS] at go
   rw [hto] at go; simp at go
  try simp only [zS] at go
  refine zAv (zAc (tX _ _ (zAf (fun zj tZ => (zAa (w_p (zA7 (vs := [_,_,_]) isAgg41 sizeOf41 gm.tail rfl rfl hb14z) rfl (zAs zAb call13 rfl rfl rfl rfl ((c13 (ldB1 p.farms (Ca.anyC p.farms.length y) x (p.clo + d % (p.chi - p.clo + 1))) _ hm1.cons 0 gm).mono (fun v w' h => by rw [hF.right] at h; exact h)) ?_)))))))
  rintro _ zk ⟨rfl, wa⟩
  refine w_p (zAi (v := .tuple _) rfl rfl) rfl (w_p (zAn (v := .int _ _) rfl rfl rfl) rfl (w_p (zAn (v := .int _ _) rfl rfl rfl) rfl (zBl rfl rfl (zBl rfl rfl (zAe (zAc (tZ _ _ (zAf (fun zm wb => (zAa (zBa rfl rfl ?_)))))))))))
  refine w_p (zBw rfl rfl rfl rfl) rfl (w_p (zAi (v := .bool _) rfl rfl) rfl (w_y rfl rfl rfl (zA1 rfl rfl) rfl (w_y rfl rfl rfl (zBw rfl rfl rfl rfl) rfl (w_p (zAx (v := .bool _) rfl rfl rfl rfl) rfl (w_p (zAi (v := .bool _) rfl rfl) rfl ?_)))))
  refine zAs (zAp rfl rfl rfl) call5 rfl rfl rfl rfl (Cb.c5 wa) ?_
  rintro _ zn ⟨rfl, wc⟩
  refine w_p (zAx (v := .bool _) rfl rfl rfl rfl) rfl (w_p (zAi (v := .bool _) rfl rfl) rfl (zAs (zAp rfl rfl rfl) call6 rfl rfl rfl rfl (c6 wc) ?_))
  rintro _ zo ⟨rfl, wd⟩
  refine w_p (zAx (v := .bool _) rfl rfl rfl rfl) rfl (w_p (zAm (v := .bool _) rfl rfl) rfl (zAe (zAc (wb _ _ (zA2 (zA9 (l := [.tmp 6]) (vs := [_]) rfl ⟨⟨rfl, (rfl : _ = Value.bool _)⟩, trivial⟩ ?_))))))
  exact ⟨rfl, (St.cast hZ (St.cast hZ2 wd.tail).tail.tail.tail.tail.drop.drop.drop.drop).drop.tail.tail⟩

end Go.Proofs.Tl
