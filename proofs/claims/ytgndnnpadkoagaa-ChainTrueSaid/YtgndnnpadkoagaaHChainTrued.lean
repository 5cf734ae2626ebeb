/- Own texts of this claim, joined. No conditions. -/
import GoSem.Core.Value
import Derived.Test.YtgndnnpadkoagaaHChainTruea
import Derived.Test.YtgndnnpadkoagaaHChainTrueb
import Derived.Test.YtgndnnpadkoagaaHChainTruec
/- Plain laws of the chain layer: numbers that must be wrong. No program in sight. No conditions. -/
set_option linter.unusedSimpArgs false
set_option linter.unusedVariables false
namespace Go.Rt.Ch
open Go.Rt.Ha
/-! ### The numbers that counters show -/
def subTo (b : Board) : Nat → Nat
  | 0 => 0
  | k + 1 => if shownAt b k = -1 then subTo b k else 2 ^ k + subTo b k
theorem subTo_lt (b : Board) : ∀ k, subTo b k < 2 ^ k
  | 0 => by simp [subTo]
  | k + 1 => by
    have := subTo_lt b k
    unfold subTo; rw [Nat.pow_succ]; split <;> omega
theorem subTo_bit (b : Board) : ∀ {k j : Nat}, j < k → (bit (subTo b k) j = 1 ↔ ¬ shownAt b j = -1)
  | k + 1, j, h => by
    have hl := subTo_lt b k
    unfold subTo
    by_cases e : j = k
    · subst e
      split
      · rename_i hs
        rw [bit_out hl (Nat.le_refl _)]; simp [hs]
      · rename_i hs
        rw [bit_iff, Nat.testBit_two_pow_add_eq, Nat.testBit_lt_two_pow hl]; simp [hs]
    · have ih := subTo_bit b (k := k) (j := j) (by omega)
      split
      · exact ih
      · rw [bit_iff, Nat.testBit_two_pow_add_gt (by omega), ← bit_iff]; exact ih
def mN (b : Board) : Nat := b.hours.length * b.ctrs.length
/-- All numbers shown. -/
def nums (b : Board) : List Int := listL (subTo b (mN b)) (mN b)
def numsTo (b : Board) (k : Nat) : List Int := listL (subTo b k) k
/-! ### With no number there is a truth -/
theorem step_some {c : Ctr} {n k : Nat} {s load : Int} (hok : c.Ok n) (hk : k < n) (hl : 0 ≤ load) (hs : c.shown.getD k 0 = -1) : stepsC c k s load ≠ [] := by
  have key : ∀ z, canZ c k z = true → stepsZ c k s load z ≠ [] := by
    intro z hz
    have h1 := hok.skip
    have h2 := hok.twice
    have : (⟨load + 0, shOf s z (load + 0), z⟩ : Way) ∈ stepsZ c k s load z := by
      unfold stepsZ
      rw [if_pos hz, List.mem_flatMap]
      refine ⟨0, span_mem.2 ⟨by omega, by omega⟩, ?_⟩
      rw [if_pos (by omega)]
      unfold wayR
      rw [if_pos (.inl hs)]
      exact List.mem_singleton.2 rfl
    exact List.ne_nil_of_mem this
  unfold stepsC
  intro h
  rw [List.append_eq_nil_iff] at h
  by_cases hz : c.zero.getD k 0 = 1
  · exact key true (show decide (c.zero.getD k 0 ≠ 0) = true from decide_eq_true (by omega)) h.2
  · exact key false (show decide (c.zero.getD k 0 ≠ 1) = true from decide_eq_true hz) h.1
theorem fare_some {c : Ctr} {n : Nat} {l : List Int} {q : Quest} (hok : c.Ok n) (hl : ∀ k, 0 ≤ ld l k) (hs : ∀ k, k < n → c.shown.getD k 0 = -1) : ∀ k, k ≤ n → fareTo c l q k ≠ []
  | 0, _ => by simp [fareTo]
  | k + 1, h => by
    have ih := fare_some (q := q) hok hl hs k (by omega)
    obtain ⟨x, hx⟩ := List.exists_mem_of_ne_nil _ ih
    obtain ⟨w, hw⟩ := List.exists_mem_of_ne_nil _ (step_some (s := x.1) hok (show k < n by omega) (hl k) (hs k (by omega)))
    refine List.ne_nil_of_mem (a := (w.shows, x.2 || q k (ld l k) w)) ?_
    simp only [fareTo, List.mem_flatMap, List.mem_map]
    exact ⟨x, hx, w, hw, rfl⟩
theorem can_none {b : Board} (hok : b.Ok) {l : List Int} (hl : ∀ k, 0 ≤ ld l k) (hs : ∀ c ∈ b.ctrs, ∀ k, k < b.hours.length → c.shown.getD k 0 = -1) : canL b l = true := by
  unfold canL
  rw [List.all_eq_true]
  intro c hc
  obtain ⟨x, hx⟩ := List.exists_mem_of_ne_nil _ (fare_some (q := slips) (hok.ctr c hc) hl (hs c hc) _ (Nat.le_refl _))
  rw [Bool.or_eq_true]
  cases e : x.2 with
  | false => left; exact List.any_eq_true.2 ⟨x, hx, by rw [e]; rfl⟩
  | true => right; exact List.any_eq_true.2 ⟨x, hx, e⟩
theorem truths_none {b : Board} (hok : b.Ok) (hs : ∀ c ∈ b.ctrs, ∀ k, k < b.hours.length → c.shown.getD k 0 = -1) : truths b ≠ [] := by
  have hf : (b.hours.map fun h => h.lo) ∈ felt (bun b) := by
    refine (felt_in _ _).2 ⟨by simp [bun], fun i hi => ?_⟩
    have hi2 : i < b.hours.length := by simpa [bun] using hi
    have e : at_ (b.hours.map fun h => h.lo) i = b.hours[i].lo := by simp [at_, List.getD, hi2]
    have e2 : (bun b)[i] = ⟨b.hours[i].lo, b.hours[i].hi, 0, 0⟩ := bun_at hi2
    rw [e, e2]
    have := (hok.hour _ (List.getElem_mem hi2)).le
    exact ⟨Int.le_refl _, this⟩
  refine List.ne_nil_of_mem (List.mem_filter.2 ⟨hf, can_none hok (fun k => ?_) hs⟩)
  exact (felt_40 hok hf k).1
theorem but_none {b : Board} (hok : b.Ok) : truths (butB b (subTo b (mN b))) ≠ [] := by
  refine truths_none (butB_ok hok _) fun c hc k hk => ?_
  obtain ⟨i, hi, rfl⟩ := List.getElem_of_mem hc
  have hi2 : i < b.ctrs.length := by rw [butB_len] at hi; exact hi
  rw [butB_get hi2]
  have hk2 : k < b.hours.length := hk
  have hls := (hok.ctr _ (List.getElem_mem hi2)).ls
  have hm : i * b.hours.length + k < mN b := by
    unfold mN
    have : (i + 1) * b.hours.length ≤ b.ctrs.length * b.hours.length := Nat.mul_le_mul_right _ hi2
    rw [Nat.succ_mul] at this
    rw [Nat.mul_comm b.hours.length]; omega
  have hb := subTo_bit b hm
  rw [shown_at hi2 hk2] at hb
  unfold butC
  simp only [List.getD, List.getElem?_map, List.getElem?_range (show k < b.ctrs[i].shown.length by omega), Option.map_some, Option.getD_some]
  split
  · rfl
  · rename_i hne
    by_cases h : b.ctrs[i].shown.getD k 0 = -1
    · simpa [List.getD] using h
    · exact absurd (hb.2 h) hne
/-! ### The first of the fewest -/
def wP (b : Board) (x : List Int) : Bool := !(truths (butB b (numL x))).isEmpty
theorem wrong_do {b : Board} {s : Nat} (hs : s < 2 ^ mN b) : wrongS b s = (decide (Ha.bitDiff s (subTo b (mN b)) = 0) && wP b (listL s (mN b))) := by
  unfold wrongS wP
  rw [numL_listL, Nat.mod_eq_of_lt hs]
  congr 1
  rw [Bool.eq_iff_iff, List.all_eq_true, decide_eq_true_eq, bitDiff_zero]
  constructor
  · intro h i hi
    by_cases hm : i < mN b
    · refine (subTo_bit b hm).2 fun e => ?_
      have := h i (List.mem_range.2 hm)
      simp [hi, e] at this
    · rw [bit_out hs (by omega)] at hi; cases hi
  · intro h k hk
    have hm : k < mN b := List.mem_range.1 hk
    by_cases hb : bit s k = 1
    · have := (subTo_bit b hm).1 (h k hb)
      simp [this]
    · simp [hb]
end Go.Rt.Ch
/- Plain law of the hand layer: a lot that is told by a way denies nothing. No conditions. -/
set_option linter.unusedSimpArgs false
set_option linter.unusedVariables false
namespace Go.Rt.Ha
structure TrueB (l : Lot) (h : List Int) (b : Nat) (s : Int) : Prop where
  hands : (handsP (told l h) b).2 = 0 ∧ (handsP (told l h) b).1.1 ≤ at_ h b ∧ at_ h b ≤ (handsP (told l h) b).1.2
  grade : (gradeP (told l h) b).2 = 0 ∧ hasI (gradeP (told l h) b).1 (ofG l.grades 0 (at_ h b) s) = true
  may : ofG l.grades 0 (at_ h b) s = -1 → hasI (refusedP (told l h)).2.1 b = true
  sure : ofG l.grades 0 (at_ h b) s ≠ -1 → hasI (refusedP (told l h)).1 b = false
/-- How many hands are of a grade. -/
def ofSum (l : Lot) (h : List Int) (sc : Nat → Int) (g : Int) : Nat → Int
  | 0 => 0
  | k + 1 => ofSum l h sc g k + if ofG l.grades 0 (at_ h k) (sc k) = g then at_ h k else 0
def allSum (h : List Int) : Nat → Int
  | 0 => 0
  | k + 1 => allSum h k + at_ h k
def gradeSums (l : Lot) (h : List Int) (sc : Nat → Int) (k : Nat) : Nat → Int
  | 0 => 0
  | n + 1 => gradeSums l h sc k n + ofSum l h sc n k
end Go.Rt.Ha
/- Plain law of the hand layer: one more count. No conditions. -/
set_option linter.unusedSimpArgs false
set_option linter.unusedVariables false
namespace Go.Rt.Ha
def moreL (l : Lot) (c : Count) : Lot := { l with counts := l.counts ++ [c] }
end Go.Rt.Ha
/- Plain law of the hand layer: with one more count nothing is wider. No conditions. -/
set_option linter.unusedSimpArgs false
set_option linter.unusedVariables false
namespace Go.Rt.Ha
/-- What a lot with fewer ways tells. -/
structure LessB (l l' : Lot) (b : Nat) : Prop where
  e1 : (handsP l b).2 = 0
  e2 : (handsP l' b).2 = 0
  e3 : (gradeP l b).2 = 0
  e4 : (gradeP l' b).2 = 0
  hands : (handsP l b).1.1 ≤ (handsP l' b).1.1 ∧ (handsP l' b).1.2 ≤ (handsP l b).1.2
  grade : ∀ z ∈ (gradeP l' b).1, z ∈ (gradeP l b).1
end Go.Rt.Ha
/- Plain law of the hand layer: the fewest counts that must be wrong. No conditions. -/
set_option linter.unusedSimpArgs false
set_option linter.unusedVariables false
namespace Go.Rt.Ha
def butC (but : List Int) : Nat → List Count → List Count
  | _, [] => []
  | i, c :: l => if hasI but i then butC but (i + 1) l else c :: butC but (i + 1) l
def butL (l : Lot) (but : List Int) : Lot := { l with counts := butC but 0 l.counts }
structure FewF (l : Lot) (x : Nat) : Prop where
  e : (wrongP l).2 = 0
  is : ∃ b, b < 2 ^ l.counts.length ∧ (wrongP l).1 = listL b l.counts.length
  f : (refusedP (butL l (wrongP l).1)).2.2 = 0
  g : (refusedP (butL l (listL x l.counts.length))).2.2 = 8 ∨ ((refusedP (butL l (listL x l.counts.length))).2.2 = 0 ∧ before (listL x l.counts.length) (wrongP l).1 = false)
end Go.Rt.Ha
/- Plain help of the hand layer's laws: rising lists, fewer, counts left out. No conditions. -/
set_option linter.unusedSimpArgs false
set_option linter.unusedVariables false
namespace Go.Rt.Ha
def rising (n : Int) : Int → List Int → Bool
  | _, [] => true
  | p, x :: l => !(decide (x ≤ p) || decide (n ≤ x)) && rising n x l
theorem rising_stop {n p : Int} {l : List Int} {i : Nat} (hi : i < l.length) (h : l[i] ≤ p ∨ n ≤ l[i]) : rising n p (l.drop i) = false := by
  rw [List.drop_eq_getElem_cons hi]
  simp only [rising, Bool.and_eq_false_iff, Bool.not_eq_false', Bool.or_eq_true, decide_eq_true_eq]
  exact .inl h
theorem rising_step {n p : Int} {l : List Int} {i : Nat} (hi : i < l.length) (h : p < l[i]) (h2 : l[i] < n) : rising n p (l.drop i) = rising n l[i] (l.drop (i + 1)) := by
  rw [List.drop_eq_getElem_cons hi]
  simp only [rising]
  rw [decide_eq_false (by omega), decide_eq_false (by omega)]; rfl
theorem rising_end {n p : Int} {l : List Int} {i : Nat} (hi : l.length ≤ i) : rising n p (l.drop i) = true := by rw [List.drop_of_length_le hi]; rfl
theorem rising_snoc {n x : Int} : ∀ (l : List Int) (p : Int), (∀ y ∈ l, y < x) → p < x → x < n → rising n p l = true → rising n p (l ++ [x]) = true
  | [], p, _, h1, h2, _ => by
    simp only [List.nil_append, rising, Bool.and_true, Bool.not_eq_true', Bool.or_eq_false_iff, decide_eq_false_iff_not]; omega
  | y :: l, p, h, h1, h2, h3 => by
    simp only [List.cons_append, rising, Bool.and_eq_true] at h3 ⊢
    exact ⟨h3.1, rising_snoc l y (fun z hz => h z (.tail _ hz)) (h y (.head _)) h2 h3.2⟩
theorem listL_lt (b : Nat) : ∀ n, ∀ y ∈ listL b n, 0 ≤ y ∧ y < (n : Int)
  | 0, y, h => by simp [listL] at h
  | n + 1, y, h => by
    rw [listL, List.mem_append] at h
    rcases h with h | h
    · have := listL_lt b n y h; omega
    · split at h
      · simp at h; omega
      · simp at h
theorem list_rising {m : Int} (b : Nat) : ∀ n : Nat, (n : Int) ≤ m → rising m (-1) (listL b n) = true
  | 0, _ => rfl
  | n + 1, h => by
    rw [listL]
    split
    · exact rising_snoc _ _ (fun y hy => (listL_lt b n y hy).2) (by omega) (by omega) (list_rising b n (by omega))
    · rw [List.append_nil]; exact list_rising b n (by omega)
theorem before_fewer (a b : List Int) : (if a.length = b.length then less a b else decide (a.length < b.length)) = before a b := by
  unfold before
  by_cases h : a.length = b.length
  · rw [if_pos h]; simp [h]
  · rw [if_neg h]; simp [h]
end Go.Rt.Ha
/- Plain laws of the chain layer: the fewest numbers that must be wrong. No program in sight. No conditions. -/
set_option maxRecDepth 100000
set_option linter.unusedSimpArgs false
set_option linter.unusedVariables false
namespace Go.Rt.Ch
open Go.Rt.Ha
/-! ### Boards without an error -/
theorem out_ff {lo hi n : Int} (h : lo ≤ n ∧ n ≤ hi) : out lo hi n = false := out_f.2 h
theorem check_iff {b : Board} : (check b).2.2 = 0 ↔ (1 ≤ b.holds ∧ b.holds ≤ 3) ∧ (failE (hourE b.holds) 0 4 b.hours).2 = 0 ∧ (failE (ctrE b.hours.length) 0 2 b.ctrs).2 = 0 := by
  unfold check
  cases h1 : out 1 3 b.holds with
  | true =>
    rw [if_pos rfl]
    constructor
    · intro h; cases h
    · rintro ⟨h, _⟩; rw [out_ff h] at h1; cases h1
  | false =>
    rw [if_neg (by simp)]
    have h1' := out_f.1 h1
    by_cases h2 : (failE (hourE b.holds) 0 4 b.hours).2 = 0
    · rw [if_neg (by simp [h2])]
      by_cases h3 : (failE (ctrE b.hours.length) 0 2 b.ctrs).2 = 0
      · rw [if_neg (by simp [h3])]; exact ⟨fun _ => ⟨h1', h2, h3⟩, fun _ => rfl⟩
      · rw [if_pos h3]; exact ⟨fun h => absurd h h3, fun h => absurd h.2.2 h3⟩
    · rw [if_pos h2]; exact ⟨fun h => absurd h h2, fun h => absurd h.2.1 h2⟩
theorem any_out_f {lo hi : Int} {l : List Int} (h : ∀ z ∈ l, lo ≤ z ∧ z ≤ hi) : l.any (out lo hi) = false := by
  rw [List.any_eq_false]; intro z hz; rw [out_ff (h z hz)]; simp
theorem ctrE_ok {n : Nat} {bf : List Ctr} {c : Ctr} (hn : nameE (bf.map (·.name)) c.name = 0) (ho : c.Ok n) : ctrE n bf c = 0 := by
  unfold ctrE
  rw [if_neg (by simp [hn]), out_ff ho.skip, out_ff ho.twice, out_ff ho.start]
  simp only [Bool.or_self, Bool.false_eq_true, if_false]
  rw [if_neg (by simp [ho.lz, ho.ls]), any_out_f ho.zero, any_out_f ho.shown]; rfl
theorem ctrE_name {n : Nat} {bf : List Ctr} {c : Ctr} (h : ctrE n bf c = 0) : nameE (bf.map (·.name)) c.name = 0 := by
  unfold ctrE at h
  by_cases h0 : nameE (bf.map (·.name)) c.name = 0
  · exact h0
  · rw [if_pos h0] at h; exact absurd h h0
theorem ctrs_ok {n : Nat} {l m : List Ctr} (h : (failE (ctrE n) 0 2 l).2 = 0) (hnm : m.map (·.name) = l.map (·.name)) (hok : ∀ c ∈ m, c.Ok n) : (failE (ctrE n) 0 2 m).2 = 0 := by
  obtain ⟨h1, h2⟩ := failE_iff.1 h
  have hl : m.length = l.length := by have := congrArg List.length hnm; simpa using this
  refine failE_iff.2 ⟨by omega, fun k hk => ctrE_ok ?_ (hok _ (List.getElem_mem hk))⟩
  have h3 := ctrE_name (h2 k (by omega))
  have e1 : (m.take k).map (·.name) = (l.take k).map (·.name) := by rw [List.map_take, List.map_take, hnm]
  have e2 : m[k].name = (l[k]'(by omega)).name := by
    have := congrArg (fun x => x[k]?) hnm
    simpa [hk, show k < l.length by omega] using this
  rw [e1, e2]; exact h3
/-! ### What Wrong tells -/
theorem sub_full {b : Board} (hok : b.Ok) : wrongS b (subTo b (mN b)) = true := by
  rw [wrong_do (subTo_lt b _), decide_eq_true (bitDiff_zero.2 fun _ h => h), Bool.true_and]
  unfold wP
  rw [numL_listL, Nat.mod_eq_of_lt (subTo_lt b _)]
  cases ht : truths (butB b (subTo b (mN b))) with
  | nil => exact absurd ht (but_none hok)
  | cons x y => rfl
structure WrongF (b : Board) (s : Nat) : Prop where
  lt : s < 2 ^ mN b
  is : wrongP b = (listL s (mN b), 0)
  yes : wrongS b s = true
  least : ∀ t, t < 2 ^ mN b → wrongS b t = true → listL t (mN b) = listL s (mN b) ∨ before (listL s (mN b)) (listL t (mN b)) = true
theorem wrong_few {b : Board} (hc : (check b).2.2 = 0) : ∃ s, WrongF b s := by
  have hok := check_ok hc
  have hf := few_min (wrongS b) (mN b) (1 <<< mN b)
  have e2 : 1 <<< mN b = 2 ^ mN b := by rw [Nat.shiftLeft_eq, Nat.one_mul]
  have hw : wrongP b = ((fewTo (wrongS b) (mN b) (1 <<< mN b)).1, 0) := by unfold wrongP; rw [if_neg (by simp [hc])]; rfl
  rw [e2] at hf hw
  cases hy : (fewTo (wrongS b) (mN b) (2 ^ mN b)).2 with
  | false =>
    have := (hf.no hy).2 _ (subTo_lt b (mN b))
    rw [sub_full hok] at this; cases this
  | true =>
    obtain ⟨s, hs, hd, e, hm⟩ := hf.yes hy
    exact ⟨s, hs, by rw [hw, e], hd, fun t ht hdt => by have := hm t ht hdt; rw [e] at this; exact this⟩
/-! ### Any other numbers -/
def otherTo (b : Board) (x i : Nat) : List Int := pickL (nums b) (listL x i)
end Go.Rt.Ch
/- Plain laws of the chain layer: hours that are told. No program in sight. No conditions. -/
set_option linter.unusedSimpArgs false
set_option linter.unusedVariables false
namespace Go.Rt.Ch
open Go.Rt.Ha
structure LookF (b : Board) (hold within : Int) (s : Nat) : Prop where
  lt : s < 2 ^ b.hours.length
  is : looksP b hold within = (listL s b.hours.length, 0)
  yes : tellsS b hold within s = true
  least : ∀ t, t < 2 ^ b.hours.length → tellsS b hold within t = true → listL t b.hours.length = listL s b.hours.length ∨ before (listL s b.hours.length) (listL t b.hours.length) = true
/-! ### A board of which some hours are told -/
def setH (t : List Int) (hs : List Hour) (z : Int) : List Hour := hs.set z.toNat ⟨(hs.getD z.toNat ⟨0, 0, 0⟩).hold, ld t z.toNat, ld t z.toNat⟩
def toldTo (b : Board) (t l : List Int) (i : Nat) : List Hour := (l.take i).foldl (setH t) b.hours
def toldB (b : Board) (t l : List Int) : Board := { b with hours := toldTo b t l l.length }
structure ToldF (b : Board) (t l : List Int) : Prop where
  len : (toldB b t l).hours.length = b.hours.length
  ck : (check (toldB b t l)).2.2 = 0
  is : t ∈ truths (toldB b t l)
  sub : ∀ m ∈ truths (toldB b t l), m ∈ like (truths b) t l
  inn : ∀ hold m, inH (toldB b t l) hold m = inH b hold m
end Go.Rt.Ch
/- Plain laws of the chain layer: a better counter. No program in sight. No conditions. -/
set_option linter.unusedSimpArgs false
set_option linter.unusedVariables false
namespace Go.Rt.Ch
open Go.Rt.Ha
/-- d can go on in no way in which c cannot. -/
structure Finer (n : Nat) (c d : Ctr) : Prop where
  skip : d.skip ≤ c.skip
  twice : d.twice ≤ c.twice
  start : d.start = c.start
  zero : d.zero = c.zero
  shown : ∀ k, k < n → c.shown.getD k 0 = -1 ∨ d.shown.getD k 0 = c.shown.getD k 0
/-- A board of which one counter is another one. -/
def setC (b : Board) (k : Nat) (d : Ctr) : Board := { b with ctrs := b.ctrs.set k d }
/-! ### Less loads that can be: narrower -/
theorem listL_0 : ∀ n, listL 0 n = []
  | 0 => rfl
  | n + 1 => by rw [listL_no (by unfold bit; simp), listL_0 n]
/-! ### The counter that is better -/
def betC (c : Ctr) (e1 e2 : Int) (sh : List Int) : Ctr := ⟨c.name, max 0 (c.skip - e1 % 3), max 0 (c.twice - e2 % 3), c.start, c.zero, sh⟩
structure ShOk (n : Nat) (c : Ctr) (sh : List Int) : Prop where
  len : sh.length = c.shown.length
  inn : ∀ z ∈ sh, -1 ≤ z ∧ z ≤ 99
  old : ∀ k, k < n → c.shown.getD k 0 = -1 ∨ sh.getD k 0 = c.shown.getD k 0
end Go.Rt.Ch
/- Plain words that laws of all layers share: numbers by turns, bits. No conditions. -/
set_option linter.unusedSimpArgs false
set_option linter.unusedVariables false
namespace Go.Rt
def turnOf (x : List Int) (n : Nat) : Int := if x.length = 0 then 0 else x.getD (n % x.length) 0
theorem turn_at {x : List Int} {n : Nat} (h : 0 < x.length) : x[n % x.length]'(Nat.mod_lt _ h) = turnOf x n := by
  unfold turnOf
  rw [if_neg (by omega)]
  simp [List.getD, Nat.mod_lt _ h]
end Go.Rt
/- Plain laws of the chain layer: a counter that tells all loads. No program in sight. No conditions. -/
set_option linter.unusedSimpArgs false
set_option linter.unusedVariables false
namespace Go.Rt.Ch
open Go.Rt.Ha
/-- The load of an hour, by turns. -/
def telLoad (b : Board) (x : List Int) (k : Nat) : Int := (hourOf b k).lo + turnOf x k % ((hourOf b k).hi - (hourOf b k).lo + 1)
/-- What the counter shows before an hour. -/
def telS (b : Board) (x : List Int) (s0 : Int) : Nat → Int
  | 0 => s0
  | k + 1 => (telS b x s0 k + telLoad b x k) % 100
def telLoads (b : Board) (x : List Int) (k : Nat) : List Int := (List.range k).map (telLoad b x)
def telShown (b : Board) (x : List Int) (s0 : Int) (k : Nat) : List Int := (List.range k).map fun j => telS b x s0 (j + 1)
def telC (b : Board) (x : List Int) (c : Ctr) : Ctr := ⟨c.name, 0, 0, c.start, List.replicate b.hours.length 0, telShown b x c.start b.hours.length⟩
theorem turn_nn {x : List Int} (h : ∀ y ∈ x, 0 ≤ y ∧ y ≤ 255) (n : Nat) : 0 ≤ turnOf x n ∧ turnOf x n ≤ 255 := by
  unfold turnOf
  split
  · simp
  · rename_i h0
    by_cases hn : n % x.length < x.length
    · have := h _ (List.getElem_mem hn)
      simp only [List.getD, List.getElem?_eq_getElem hn, Option.getD_some]
      exact this
    · simp [List.getD, List.getElem?_eq_none (by omega : x.length ≤ n % x.length)]
theorem tel_in {b : Board} (hok : b.Ok) {x : List Int} (hx : ∀ y ∈ x, 0 ≤ y ∧ y ≤ 255) {k : Nat} (hk : k < b.hours.length) : b.hours[k].lo ≤ telLoad b x k ∧ telLoad b x k ≤ b.hours[k].hi := by
  have ho := hok.hour _ (List.getElem_mem hk)
  have h1 := ho.le
  unfold telLoad
  rw [hour_at hk]
  have := Int.emod_nonneg (turnOf x k) (show b.hours[k].hi - b.hours[k].lo + 1 ≠ 0 by omega)
  have := Int.emod_lt_of_pos (turnOf x k) (show 0 < b.hours[k].hi - b.hours[k].lo + 1 by omega)
  omega
structure TelF (b z : Board) (x : List Int) (u : Nat) : Prop where
  ck : (check z).2.2 = 0
  went : someB z = true → ∀ k, k < b.hours.length → wentP z (k : Int) = ((telLoad b x k, telLoad b x k), 0)
  right : someB z = true → rightP z (u : Int) = (1, 0)
  bad : someB z = false → rightP z (u : Int) = (0, 8)
end Go.Rt.Ch
/- Plain laws of the chain layer: counters that show what any past makes. No program in sight. No conditions. -/
set_option linter.unusedSimpArgs false
set_option linter.unusedVariables false
namespace Go.Rt.Ch
open Go.Rt.Ha
/-- What was any way: loads, errors, whether a counter was set to 0, by turns. -/
structure Past where
  loads : List Int
  errs : List Int
  zeros : List Int
/-- The number of an hour of a counter among the turns. -/
def turnAt (n i k : Nat) : Nat := i * n + k
def pSet (n : Nat) (x : Past) (c : Ctr) (i k : Nat) : Bool := decide (c.zero.getD k 0 = 1) || (decide (c.zero.getD k 0 = 2) && decide (turnOf x.zeros (turnAt n i k) % 2 = 1))
def pErr0 (n : Nat) (x : Past) (c : Ctr) (i k : Nat) : Int := turnOf x.errs (turnAt n i k) % (c.skip + c.twice + 1) - c.skip
def pErr (b : Board) (x : Past) (c : Ctr) (i k : Nat) : Int := if telLoad b x.loads k + pErr0 b.hours.length x c i k < 0 then 0 else pErr0 b.hours.length x c i k
def pRest (n : Nat) (x : Past) (c : Ctr) (i k : Nat) (s : Int) : Int := if pSet n x c i k then 0 else s
def pShow (b : Board) (x : Past) (c : Ctr) (i : Nat) : Nat → Int
  | 0 => c.start
  | k + 1 => (pRest b.hours.length x c i k (pShow b x c i k) + telLoad b x.loads k + pErr b x c i k) % 100
def pRight (b : Board) (x : Past) (c : Ctr) (i : Nat) : Nat → Bool
  | 0 => true
  | k + 1 => pRight b x c i k && decide (pErr b x c i k = 0)
def pOwn (b : Board) (x : Past) (c : Ctr) (i k : Nat) : Int := if c.shown.getD k 0 = -1 then -1 else pShow b x c i (k + 1)
def pShown (b : Board) (x : Past) (c : Ctr) (i k : Nat) : List Int := (List.range k).map (pOwn b x c i)
def pZero (b : Board) (x : Past) (c : Ctr) (i k : Nat) : List Bool := (List.range k).map (pSet b.hours.length x c i)
def pastC (b : Board) (x : Past) (i : Nat) (c : Ctr) : Ctr := { c with shown := pShown b x c i b.hours.length }
def pastB (b : Board) (x : Past) : Board := { b with ctrs := b.ctrs.mapIdx (pastC b x) }
def pastL (b : Board) (x : Past) : List Int := telLoads b x.loads b.hours.length
def pastR (b : Board) (x : Past) : List Bool := b.ctrs.mapIdx fun i c => pRight b x c i b.hours.length
def pastZ (b : Board) (x : Past) : List (List Bool) := b.ctrs.mapIdx fun i c => pZero b x c i b.hours.length
theorem pastB_len (b : Board) (x : Past) : (pastB b x).ctrs.length = b.ctrs.length := List.length_mapIdx
theorem pastB_get {b : Board} {x : Past} {i : Nat} (h : i < b.ctrs.length) (h2 : i < (pastB b x).ctrs.length) : (pastB b x).ctrs[i] = pastC b x i b.ctrs[i] := List.getElem_mapIdx ..
structure Past.Ok (x : Past) : Prop where
  loads : ∀ y ∈ x.loads, 0 ≤ y ∧ y ≤ 255
  errs : ∀ y ∈ x.errs, 0 ≤ y ∧ y ≤ 255
  zeros : ∀ y ∈ x.zeros, 0 ≤ y ∧ y ≤ 255
theorem pShow_in {b : Board} {x : Past} {c : Ctr} {i : Nat} (h0 : 0 ≤ c.start ∧ c.start ≤ 99) : ∀ k, 0 ≤ pShow b x c i k ∧ pShow b x c i k ≤ 99
  | 0 => h0
  | k + 1 => by simp only [pShow]; omega
theorem pErr0_in {n : Nat} {x : Past} {c : Ctr} {i k : Nat} (h1 : 0 ≤ c.skip) (h2 : 0 ≤ c.twice) : 0 - c.skip ≤ pErr0 n x c i k ∧ pErr0 n x c i k ≤ c.twice := by
  unfold pErr0
  have := Int.emod_nonneg (turnOf x.errs (turnAt n i k)) (show c.skip + c.twice + 1 ≠ 0 by omega)
  have := Int.emod_lt_of_pos (turnOf x.errs (turnAt n i k)) (show 0 < c.skip + c.twice + 1 by omega)
  omega
theorem pastC_ok {b : Board} {x : Past} {i : Nat} {c : Ctr} (h : c.Ok b.hours.length) : (pastC b x i c).Ok b.hours.length := by
  refine ⟨h.skip, h.twice, h.start, h.lz, by simp [pastC, pShown], h.zero, fun z hz => ?_, h.nm⟩
  obtain ⟨k, hk, rfl⟩ := List.mem_map.1 hz
  unfold pOwn
  have := pShow_in (b := b) (x := x) (i := i) h.start (k + 1)
  split <;> omega
theorem pastB_check {b : Board} (hc : (check b).2.2 = 0) (x : Past) : (check (pastB b x)).2.2 = 0 := by
  obtain ⟨h1, h2, h3⟩ := check_iff.1 hc
  refine check_iff.2 ⟨h1, h2, ctrs_ok h3 ?_ fun c hm => ?_⟩
  · apply List.ext_getElem
    · simp [pastB]
    · intro i h1 h2
      simp [pastB, pastC]
  · obtain ⟨i, hi, rfl⟩ := List.getElem_of_mem hm
    have hi2 : i < b.ctrs.length := by rw [pastB_len] at hi; exact hi
    rw [pastB_get hi2 hi]
    exact pastC_ok ((check_ok hc).ctr _ (List.getElem_mem hi2))
/-! ### The past is a truth -/
def pMet (b : Board) (x : Past) (c : Ctr) (i : Nat) (q : Quest) : Nat → Bool
  | 0 => false
  | k + 1 => pMet b x c i q k || q k (telLoad b x.loads k) ⟨telLoad b x.loads k + pErr b x c i k, pShow b x c i (k + 1), pSet b.hours.length x c i k⟩
theorem past_load {b : Board} {x : Past} {k : Nat} (hk : k < b.hours.length) : ld (pastL b x) k = telLoad b x.loads k := by simp [ld, pastL, telLoads, List.getD, hk]
theorem past_step {b : Board} (hok : b.Ok) {x : Past} (hx : x.Ok) {c : Ctr} (hc : c.Ok b.hours.length) {i k : Nat} (hk : k < b.hours.length) : (⟨telLoad b x.loads k + pErr b x c i k, pShow b x c i (k + 1), pSet b.hours.length x c i k⟩ : Way) ∈ stepsC (pastC b x i c) k (pShow b x c i k) (telLoad b x.loads k) := by
  have hl := tel_in hok hx.loads hk
  have hl0 := (hok.hour _ (List.getElem_mem hk)).lo
  have hs := hc.skip; have ht := hc.twice
  have he := pErr0_in (n := b.hours.length) (x := x) (c := c) (i := i) (k := k) hs.1 ht.1
  have he2 : 0 - c.skip ≤ pErr b x c i k ∧ pErr b x c i k ≤ c.twice ∧ 0 ≤ telLoad b x.loads k + pErr b x c i k := by
    unfold pErr; split <;> omega
  have key : ∀ z, pSet b.hours.length x c i k = z → (⟨telLoad b x.loads k + pErr b x c i k, pShow b x c i (k + 1), z⟩ : Way) ∈ stepsZ (pastC b x i c) k (pShow b x c i k) (telLoad b x.loads k) z := by
    intro z hz
    unfold stepsZ
    have hzr := hc.zero
    have hcan : canZ (pastC b x i c) k z = true := by
      show (if z then decide (c.zero.getD k 0 ≠ 0) else decide (c.zero.getD k 0 ≠ 1)) = true
      unfold pSet at hz
      cases z with
      | true =>
        simp only [if_true, decide_eq_true_eq, Bool.or_eq_true, Bool.and_eq_true] at hz ⊢
        omega
      | false =>
        simp only [Bool.false_eq_true, if_false, decide_eq_true_eq, Bool.or_eq_false_iff, decide_eq_false_iff_not] at hz ⊢
        exact hz.1
    rw [if_pos hcan, List.mem_flatMap]
    refine ⟨pErr b x c i k, span_mem.2 ⟨he2.1, he2.2.1⟩, ?_⟩
    rw [if_pos he2.2.2]
    have e : shOf (pShow b x c i k) z (telLoad b x.loads k + pErr b x c i k) = pShow b x c i (k + 1) := by
      unfold shOf
      simp only [pShow, pRest, hz]
      rw [Int.add_assoc]
    unfold wayR
    rw [e]
    have hsh : (pastC b x i c).shown.getD k 0 = pOwn b x c i k := by simp [pastC, pShown, List.getD, hk]
    rw [hsh, if_pos (by unfold pOwn; split; exact .inl rfl; exact .inr rfl)]
    exact List.mem_singleton.2 rfl
  unfold stepsC
  cases hz : pSet b.hours.length x c i k with
  | false => exact List.mem_append_left _ (key false hz)
  | true => exact List.mem_append_right _ (key true hz)
theorem past_fare {b : Board} (hok : b.Ok) {x : Past} (hx : x.Ok) {c : Ctr} (hc : c.Ok b.hours.length) (i : Nat) (q : Quest) : ∀ k, k ≤ b.hours.length → (pShow b x c i k, pMet b x c i q k) ∈ fareTo (pastC b x i c) (pastL b x) q k
  | 0, _ => List.mem_singleton.2 rfl
  | k + 1, hk => by
    simp only [fareTo, List.mem_flatMap, List.mem_map]
    refine ⟨_, past_fare hok hx hc i q k (by omega), _, by rw [past_load (by omega)]; exact past_step hok hx hc (by omega), ?_⟩
    rw [past_load (by omega)]; rfl
theorem past_not {b : Board} (hok : b.Ok) {x : Past} (hx : x.Ok) {c : Ctr} (hc : c.Ok b.hours.length) (i : Nat) (q : Quest) (h : pMet b x c i q b.hours.length = false) : notF (pastC b x i c) (pastL b x) q b.hours.length = true :=
  List.any_eq_true.2 ⟨_, past_fare hok hx hc i q _ (Nat.le_refl _), by rw [h]; rfl⟩
theorem past_met {b : Board} (hok : b.Ok) {x : Past} (hx : x.Ok) {c : Ctr} (hc : c.Ok b.hours.length) (i : Nat) (q : Quest) (h : pMet b x c i q b.hours.length = true) : metF (pastC b x i c) (pastL b x) q b.hours.length = true :=
  List.any_eq_true.2 ⟨_, past_fare hok hx hc i q _ (Nat.le_refl _), h⟩
theorem past_len (b : Board) (x : Past) : (pastL b x).length = b.hours.length := by simp [pastL, telLoads]
theorem past_felt {b : Board} (hok : b.Ok) {x : Past} (hx : x.Ok) : pastL b x ∈ felt (bun b) := by
  refine (felt_in _ _).2 ⟨by rw [past_len, bun_len], fun i hi => ?_⟩
  have hi2 : i < b.hours.length := by rw [bun_len] at hi; exact hi
  have h := tel_in hok hx.loads hi2
  rw [← past_load hi2] at h
  have e : (bun b)[i] = ⟨b.hours[i].lo, b.hours[i].hi, 0, 0⟩ := by simp [bun]
  rw [e]; exact h
theorem past_truth {b : Board} (hok : b.Ok) {x : Past} (hx : x.Ok) : pastL b x ∈ truths (pastB b x) := by
  refine List.mem_filter.2 ⟨past_felt hok hx, ?_⟩
  unfold canL
  rw [List.all_eq_true]
  intro c hm
  obtain ⟨i, hi, rfl⟩ := List.getElem_of_mem hm
  have hi2 : i < b.ctrs.length := by rw [pastB_len] at hi; exact hi
  rw [pastB_get hi2 hi]
  have hc := hok.ctr _ (List.getElem_mem hi2)
  rw [Bool.or_eq_true]
  cases h : pMet b x b.ctrs[i] i slips b.hours.length with
  | false => exact .inl (past_not hok hx hc i slips h)
  | true => exact .inr (past_met hok hx hc i slips h)
theorem past_some {b : Board} (hc : (check b).2.2 = 0) {x : Past} (hx : x.Ok) : someB (pastB b x) = true := by
  unfold someB
  rw [decide_eq_true (pastB_check hc x), Bool.true_and]
  have := past_truth (check_ok hc) hx
  cases ht : truths (pastB b x) with
  | nil => rw [ht] at this; cases this
  | cons y z => rfl
/-! ### Nothing is denied -/
theorem past_went {b : Board} (hc : (check b).2.2 = 0) {x : Past} (hx : x.Ok) {k : Nat} (hk : k < b.hours.length) : (wentP (pastB b x) (k : Int)).2 = 0 ∧ (wentP (pastB b x) (k : Int)).1.1 ≤ telLoad b x.loads k ∧ telLoad b x.loads k ≤ (wentP (pastB b x) (k : Int)).1.2 := by
  have hs := past_some hc hx
  rw [went_at hs (show k < (pastB b x).hours.length from hk)]
  have := (hull_spec (f := fun l => ld l k) (someB_y hs).2.2).2.2 _ (past_truth (check_ok hc) hx)
  rw [past_load hk] at this
  exact ⟨rfl, this⟩
theorem past_hold {b : Board} (hc : (check b).2.2 = 0) {x : Past} (hx : x.Ok) {k : Nat} (hk : (k : Int) < b.holds) : (holdP (pastB b x) (k : Int)).2 = 0 ∧ (holdP (pastB b x) (k : Int)).1.1 ≤ inH (pastB b x) (k : Int) (pastL b x) ∧ inH (pastB b x) (k : Int) (pastL b x) ≤ (holdP (pastB b x) (k : Int)).1.2 := by
  have hs := past_some hc hx
  rw [hold_at hs (show (k : Int) < (pastB b x).holds from hk)]
  exact ⟨rfl, (hull_spec (f := inH (pastB b x) (k : Int)) (someB_y hs).2.2).2.2 _ (past_truth (check_ok hc) hx)⟩
theorem butB_zero {b : Board} (hok : b.Ok) : butB b 0 = b := by
  have h : (butB b 0).ctrs = b.ctrs := by
    apply List.ext_getElem
    · rw [butB_len]
    · intro i h1 h2
      rw [butB_get h2]
      unfold butC
      have e : ((List.range b.ctrs[i].shown.length).map fun k => if bit 0 (i * b.hours.length + k) = 1 then -1 else b.ctrs[i].shown.getD k 0) = b.ctrs[i].shown := by
        apply List.ext_getElem
        · simp
        · intro k h3 h4
          simp [bit, List.getD, h4]
      rw [e]
  have e2 : butB b 0 = { b with ctrs := (butB b 0).ctrs } := rfl
  rw [e2, h]
theorem wrong_none {b : Board} (hs : someB b = true) : (wrongP b).2 = 0 ∧ (wrongP b).1.length = 0 := by
  obtain ⟨hc, hok, hne⟩ := someB_y hs
  obtain ⟨s, hF⟩ := wrong_few hc
  rw [hF.is]
  refine ⟨rfl, ?_⟩
  have h0 : wrongS b 0 = true := by
    rw [wrong_do (Nat.two_pow_pos _), Bool.and_eq_true, decide_eq_true_eq, bitDiff_zero]
    refine ⟨fun i h => by simp [bit] at h, ?_⟩
    unfold wP
    rw [listL_0, show numL [] = 0 from rfl, butB_zero hok]
    cases ht : truths b with
    | nil => exact absurd ht hne
    | cons y z => rfl
  rcases hF.least 0 (Nat.two_pow_pos _) h0 with h1 | h1
  · dsimp only; rw [← h1, listL_0]; rfl
  · rw [listL_0] at h1
    unfold before at h1
    simp only [List.length_nil, Bool.or_eq_true, Bool.and_eq_true, decide_eq_true_eq] at h1
    dsimp only
    omega
def deniesB (how : Int) (was : Bool) : Bool := (decide (how = 1) && !was) || (decide (how = 2) && was)
theorem told_not {not met : Bool} (h : not = true) : deniesB (toldN not met) false = false ∧ toldN not met ≠ 1 := by subst h; cases met <;> exact ⟨rfl, by decide⟩
theorem told_met {not met : Bool} (h : met = true) : deniesB (toldN not met) true = false := by subst h; cases not <;> rfl
theorem past_ctr {b : Board} {x : Past} {c : Nat} (h : c < b.ctrs.length) : ctrOf (pastB b x) c = pastC b x c b.ctrs[c] := by
  have h2 : c < (pastB b x).ctrs.length := by rw [pastB_len]; exact h
  unfold ctrOf
  simp only [List.getD, List.getElem?_eq_getElem h2, Option.getD_some]
  exact pastB_get h h2
theorem past_ask {b : Board} (hc : (check b).2.2 = 0) {x : Past} (hx : x.Ok) {c : Nat} (h : c < b.ctrs.length) (q : Quest) : (pMet b x b.ctrs[c] c q b.hours.length = false → askN (pastB b x) c q = true) ∧ (pMet b x b.ctrs[c] c q b.hours.length = true → askM (pastB b x) c q = true) := by
  have hok := check_ok hc
  have ht := past_truth hok hx
  have ho := hok.ctr _ (List.getElem_mem h)
  unfold askN askM
  rw [past_ctr h]
  exact ⟨fun h1 => List.any_eq_true.2 ⟨_, ht, past_not hok hx ho c q h1⟩, fun h1 => List.any_eq_true.2 ⟨_, ht, past_met hok hx ho c q h1⟩⟩
theorem pMet_slips (b : Board) (x : Past) (c : Ctr) (i : Nat) : ∀ k, pMet b x c i slips k = !pRight b x c i k
  | 0 => rfl
  | k + 1 => by
    simp only [pMet, pRight]
    rw [pMet_slips b x c i k, Bool.not_and]
    congr 1
    unfold slips
    dsimp only
    rw [Bool.eq_iff_iff]
    simp
    omega
theorem pMet_zero (b : Board) (x : Past) (c : Ctr) (i a : Nat) : ∀ k, pMet b x c i (zeroed a) k = (decide (a < k) && pSet b.hours.length x c i a)
  | 0 => by simp [pMet]
  | k + 1 => by
    simp only [pMet]
    rw [pMet_zero b x c i a k]
    unfold zeroed
    dsimp only
    by_cases e : k = a
    · subst e; simp
    · have e2 : decide (a < k + 1) = decide (a < k) := by rw [decide_eq_decide]; omega
      rw [e2, decide_eq_false e]; simp
theorem past_right {b : Board} (hc : (check b).2.2 = 0) {x : Past} (hx : x.Ok) {c : Nat} (h : c < b.ctrs.length) : (rightP (pastB b x) (c : Int)).2 = 0 ∧ deniesB (rightP (pastB b x) (c : Int)).1 (pRight b x b.ctrs[c] c b.hours.length) = false := by
  have hs := past_some hc hx
  obtain ⟨h1, h2, h3⟩ := someB_y hs
  have he : enterE (pastB b x) (idxE (c : Int) (pastB b x).ctrs.length) = 0 := enterE_4 h1 (out_no (by rw [pastB_len]; omega)) h3
  unfold rightP
  rw [if_neg (by rw [he]; simp)]
  refine ⟨rfl, ?_⟩
  have ha := past_ask hc hx h slips
  rw [pMet_slips] at ha
  dsimp only
  rw [Int.toNat_natCast]
  cases hr : pRight b x b.ctrs[c] c b.hours.length with
  | true => rw [hr] at ha; exact told_met (ha.1 rfl)
  | false => rw [hr] at ha; exact (told_not (ha.2 rfl)).1
theorem past_zero {b : Board} (hc : (check b).2.2 = 0) {x : Past} (hx : x.Ok) {c a : Nat} (h : c < b.ctrs.length) (ha : a < b.hours.length) : (zeroP (pastB b x) (c : Int) (a : Int)).2 = 0 ∧ deniesB (zeroP (pastB b x) (c : Int) (a : Int)).1 (pSet b.hours.length x b.ctrs[c] c a) = false := by
  have hs := past_some hc hx
  obtain ⟨h1, h2, h3⟩ := someB_y hs
  have he : enterE (pastB b x) (idx2 (c : Int) (pastB b x).ctrs.length (a : Int) (pastB b x).hours.length) = 0 := by
    refine enterE_4 h1 ?_ h3
    unfold idx2
    rw [out_no (by rw [pastB_len]; omega), if_neg (by simp)]
    exact out_no (by show 0 ≤ (a : Int) ∧ (a : Int) < ((b.hours.length : Nat) : Int); omega)
  unfold zeroP
  rw [if_neg (by rw [he]; simp)]
  refine ⟨rfl, ?_⟩
  have hk := past_ask hc hx h (zeroed a)
  rw [pMet_zero, decide_eq_true ha, Bool.true_and] at hk
  dsimp only
  rw [Int.toNat_natCast, Int.toNat_natCast]
  cases hr : pSet b.hours.length x b.ctrs[c] c a with
  | true => rw [hr] at hk; exact told_met (hk.2 rfl)
  | false => rw [hr] at hk; exact (told_not (hk.1 rfl)).1
/-! ### Step by step -/
theorem pSet_1 {n : Nat} {x : Past} {c : Ctr} {i k : Nat} {z : Int} (e : c.zero.getD k 0 = z) (h : z = 1) : true = pSet n x c i k := by unfold pSet; rw [e, decide_eq_true h]; rfl
theorem pSet_2 {n : Nat} {x : Past} {c : Ctr} {i k : Nat} {z : Int} (e : c.zero.getD k 0 = z) (h1 : ¬ z = 1) (h2 : z = 2) : decide (turnOf x.zeros (i * n + k) % 2 = 1) = pSet n x c i k := by unfold pSet turnAt; rw [e, decide_eq_false h1, decide_eq_true h2]; simp
theorem pSet_0 {n : Nat} {x : Past} {c : Ctr} {i k : Nat} {z : Int} (e : c.zero.getD k 0 = z) (h1 : ¬ z = 1) (h2 : ¬ z = 2) : false = pSet n x c i k := by unfold pSet; rw [e, decide_eq_false h1, decide_eq_false h2]; rfl
theorem pRest_y {n : Nat} {x : Past} {c : Ctr} {i k : Nat} {s : Int} (h : pSet n x c i k = true) : 0 = pRest n x c i k s := by unfold pRest; rw [if_pos h]
theorem pRest_n {n : Nat} {x : Past} {c : Ctr} {i k : Nat} {s : Int} (h : pSet n x c i k = false) : s = pRest n x c i k s := by unfold pRest; rw [if_neg (by rw [h]; simp)]
theorem pRest_in {n : Nat} {x : Past} {c : Ctr} {i k : Nat} {s : Int} (h : 0 ≤ s ∧ s ≤ 99) : 0 ≤ pRest n x c i k s ∧ pRest n x c i k s ≤ 99 := by unfold pRest; split <;> omega
theorem pErr_y {b : Board} {x : Past} {c : Ctr} {i k : Nat} (h : telLoad b x.loads k + pErr0 b.hours.length x c i k < 0) : 0 = pErr b x c i k := by unfold pErr; rw [if_pos h]
theorem pErr_n {b : Board} {x : Past} {c : Ctr} {i k : Nat} (h : ¬ telLoad b x.loads k + pErr0 b.hours.length x c i k < 0) : pErr0 b.hours.length x c i k = pErr b x c i k := by unfold pErr; rw [if_neg h]
theorem pErr_in {b : Board} {x : Past} {c : Ctr} {i k : Nat} (h1 : 0 ≤ c.skip ∧ c.skip ≤ 3) (h2 : 0 ≤ c.twice ∧ c.twice ≤ 3) (h3 : 0 ≤ telLoad b x.loads k) : -3 ≤ pErr b x c i k ∧ pErr b x c i k ≤ 3 ∧ 0 ≤ telLoad b x.loads k + pErr b x c i k := by
  have := pErr0_in (n := b.hours.length) (x := x) (c := c) (i := i) (k := k) h1.1 h2.1
  unfold pErr; split <;> omega
theorem pRight_step {b : Board} {x : Past} {c : Ctr} {i k : Nat} : pRight b x c i (k + 1) = (pRight b x c i k && decide (pErr b x c i k = 0)) := rfl
theorem pOwn_y {b : Board} {x : Past} {c : Ctr} {i k : Nat} {z : Int} (e : c.shown.getD k 0 = z) (h : z = -1) : -1 = pOwn b x c i k := by unfold pOwn; rw [e, if_pos h]
theorem pOwn_n {b : Board} {x : Past} {c : Ctr} {i k : Nat} {z : Int} (e : c.shown.getD k 0 = z) (h : ¬ z = -1) : pShow b x c i (k + 1) = pOwn b x c i k := by unfold pOwn; rw [e, if_neg h]
theorem some_nc {b : Board} (h : ¬ (check b).2.2 = 0) : someB b = false := by unfold someB; rw [decide_eq_false h]; rfl
def pastT (b : Board) (x : Past) (i : Nat) : List Ctr := (pastB b x).ctrs.take i
theorem pastT_len {b : Board} {x : Past} {i : Nat} (h : i ≤ b.ctrs.length) : (pastT b x i).length = i := by unfold pastT; rw [List.length_take, pastB_len]; omega
theorem pastT_next {b : Board} {x : Past} {i : Nat} (h : i < b.ctrs.length) : pastT b x (i + 1) = pastT b x i ++ [pastC b x i b.ctrs[i]] := by
  unfold pastT; rw [List.take_succ_eq_append_getElem (by rw [pastB_len]; exact h), pastB_get h]
theorem pastT_all (b : Board) (x : Past) : pastT b x b.ctrs.length = (pastB b x).ctrs := by unfold pastT; rw [List.take_of_length_le (by rw [pastB_len]; exact Nat.le_refl _)]
theorem pastR_next {b : Board} {x : Past} {i : Nat} (h : i < b.ctrs.length) : (pastR b x).take (i + 1) = (pastR b x).take i ++ [pRight b x b.ctrs[i] i b.hours.length] := by
  rw [List.take_succ_eq_append_getElem (by simpa [pastR] using h)]; simp [pastR]
theorem pastZ_next {b : Board} {x : Past} {i : Nat} (h : i < b.ctrs.length) : (pastZ b x).take (i + 1) = (pastZ b x).take i ++ [pZero b x b.ctrs[i] i b.hours.length] := by
  rw [List.take_succ_eq_append_getElem (by simpa [pastZ] using h)]; simp [pastZ]
end Go.Rt.Ch
/- Openers of arguments: a past of three lists of bytes. No conditions. -/
set_option maxRecDepth 100000
set_option linter.unusedSimpArgs false
set_option linter.unusedVariables false
namespace Go.Proofs.Ytgndnnpadkoagaa
open Go.Rt Go.Rt.Ch Go.RowKit Go.ChangeShapes Go.WideShapes Go.ChangeAt
variable {H : Type} {enc : TypeId × Value → H} {W : World} {sp : Nat → Bool} {held : Bool}
theorem cells49 : Try.prog.cellsOf 49 = 3 := by kernel_rfl
theorem cells47 : Try.prog.cellsOf 47 = 1 := by kernel_rfl
theorem open_past {v : Value} {d : DataW H} {ps : List MemPlace} {r : Reach} {b0 : Nat} (hval : Value.okWide Try.prog W r b0 49 v) (h : DataW.Trod enc Try.prog W 0 sp held 49 v d ps) :
    ∃ (x : Past) (a1 a2 a3 : Option Addr) (c1 c2 c3 : Nat), v = .agg #[.slice a1 x.loads.length c1, .slice a2 x.errs.length c2, .slice a3 x.zeros.length c3] ∧ x.Ok ∧ x.loads.length ≤ 9223372036854775807 ∧ x.errs.length ≤ 9223372036854775807 ∧ x.zeros.length ≤ 9223372036854775807 ∧ Sl W [] a1 1 (x.loads.map fun n => [Value.int .u8 n]) ∧ Sl W [] a2 1 (x.errs.map fun n => [Value.int .u8 n]) ∧ Sl W [] a3 1 (x.zeros.map fun n => [Value.int .u8 n]) := by
  obtain ⟨xs, rfl, hsz⟩ : ∃ xs, v = .agg xs ∧ xs.size = 3 := by
    unfold Value.okWide at hval
    rw [Try.underlying49] at hval
    obtain ⟨cs, h1, h2, _⟩ := hval
    exact ⟨cs, h1, by rw [h2, cells49]⟩
  obtain ⟨fuel, hf⟩ := h
  have hf2 : DataW.trod enc Try.prog W 0 sp held fuel 49 xs.toList = some (d, ps) := hf
  obtain ⟨_, _, h0⟩ := trod_field Try.underlying49 hf2 0 47 0 1 rfl rfl rfl cells47
  obtain ⟨_, _, h1⟩ := trod_field Try.underlying49 hf2 1 47 1 1 rfl rfl rfl cells47
  obtain ⟨_, _, h2⟩ := trod_field Try.underlying49 hf2 2 47 2 1 rfl rfl rfl cells47
  obtain ⟨xl, rfl⟩ : ∃ l : List Value, xs = l.toArray := ⟨xs.toList, by simp⟩
  have hl3 : xl.length = 3 := by simpa using hsz
  match xl, hl3 with
  | [c0, c1, c2], _ =>
    obtain ⟨a1, k1, l1, e1, hs1, hc1, hm1, hr1⟩ := open_rows (row := fun x : Int => [Value.int .u8 x]) (ok := fun x => (0 ≤ x ∧ x ≤ 255)) Try.underlying47 cells5 (by omega) (fun _ => rfl) (fun fuel cs y h => cel5 h) h0
    obtain ⟨a2, k2, l2, e2, hs2, hc2, hm2, hr2⟩ := open_rows (row := fun x : Int => [Value.int .u8 x]) (ok := fun x => (0 ≤ x ∧ x ≤ 255)) Try.underlying47 cells5 (by omega) (fun _ => rfl) (fun fuel cs y h => cel5 h) h1
    obtain ⟨a3, k3, l3, e3, hs3, hc3, hm3, hr3⟩ := open_rows (row := fun x : Int => [Value.int .u8 x]) (ok := fun x => (0 ≤ x ∧ x ≤ 255)) Try.underlying47 cells5 (by omega) (fun _ => rfl) (fun fuel cs y h => cel5 h) h2
    simp at e1 e2 e3
    exact ⟨⟨l1, l2, l3⟩, a1, a2, a3, k1, k2, k3, by rw [e1, e2, e3], ⟨hr1, hr2, hr3⟩, hm1, hm2, hm3, hs1, hs2, hs3⟩
end Go.Proofs.Ytgndnnpadkoagaa
/- Walks of this seat, printed by gen.py over the engine: what each function returns, in whatever world. No conditions but those of each contract. -/
set_option linter.unusedVariables false
set_option linter.unusedSimpArgs false
set_option maxRecDepth 20000
namespace Go.Proofs
open Go.Rt Go.Rt.Ch
open Go.Rt.Ha (firstE firstE_step firstE_stop firstE_end failE nameE felt spanL upto span_mem listL fewest fewTo bit before fewStep drop_lt drop_get drop_next drop_done drop_notin set_take set_zero take_less)
attribute [local irreducible] WL WC Con Yd At Ats Sl Agree DW
theorem Try_S_fb4 (x0 : ByteArray) (w : World) : (Instr.buildSlice 92 1 [(0, .string x0)].toArray).run Try.prog w = .ok (.slice (some ⟨w.heap.size, 0, none⟩) 1 1) (w.alloc (Go.Rt.blk 9 [.string x0])) := by kernel_rfl
theorem Try_info9 : Try.prog.info? 9 = some Try.t9 := by kernel_rfl
theorem ends_ok {a b lo hi : Int} (h : ends a b lo hi = 0) : lo ≤ a ∧ a ≤ hi ∧ lo ≤ b ∧ b ≤ hi ∧ a ≤ b := by
  unfold ends out at h
  split at h
  · cases h
  · rename_i h1
    simp only [Bool.or_eq_true, decide_eq_true_eq, not_or] at h1
    split at h
    · cases h
    · omega
def freshE (s : ByteArray) (l : List ByteArray) : Int := if nmOk s = false then 6 else if has l s then 5 else 0
theorem ctrE_yes {n : Nat} {bf : List Ctr} {c : Ctr} (h : freshE c.name (bf.map (·.name)) = 0) : ctrE n bf c = ctrOwn n c := ctrE_0 h
theorem ctrE_no {n : Nat} {bf : List Ctr} {c : Ctr} (h : ¬ freshE c.name (bf.map (·.name)) = 0) : ctrE n bf c = freshE c.name (bf.map (·.name)) := ctrE_n h
theorem knames_snoc {l : List Ctr} {i : Nat} (hi : i < l.length) : ((l.take i).map (·.name)).map Value.string ++ [Value.string l[i].name] = ((l.take (i + 1)).map (·.name)).map Value.string := by
  rw [List.take_succ_eq_append_getElem hi]; simp only [List.map_append, List.map_cons, List.map_nil]
theorem knames_len {l : List Ctr} {i : Nat} (hi : i ≤ l.length) : ((l.take i).map (·.name)).length = i := by simp; omega
theorem c60 {w0 w : World} {F : List (Nat × Obj)} (b : Board) (p : AtB) (hh : 1 ≤ b.holds ∧ b.holds ≤ 3) (h : Hour) (bf : List Hour) (hs : St w0 w F) :
  Con Try.prog 60 [.agg (b.cells p).toArray, .agg h.cells.toArray] w fun v w' => v = .int .i64 (hourE b.holds bf h) ∧ St w0 w' F := by
  refine con_of_wc (n := 29) Try.func60 rfl rfl (Nat.le_of_ble_eq_true rfl) ?_
  refine w_seq (fun K2 hK1 => ?_)
  refine w_region ?_
  refine w_box (v := .agg #[.int _ _, .slice _ _ _, .slice _ _ _]) (cs := [_, _, _]) want_none rfl rfl rfl hs (fun b3 w4 hs5 => ?_)
  refine w_box (v := .agg #[.int _ _, .int _ _, .int _ _]) (cs := [_, _, _]) want_none rfl rfl rfl hs5 (fun b6 w7 hs8 => ?_)
  refine w_p (y_assign (v := _) rfl rfl) rfl ?_
  refine w_nil ?_
  refine q_then (hK1 _ _ ?_)
  refine w_seq (fun K10 hK9 => ?_)
  refine w_seq (fun K12 hK11 => ?_)
  refine w_region ?_
  refine w_p (y_fieldAddr (o := 0) (i := 0) Try.underlying70 rfl Try.sizeOf3 rfl rfl rfl) rfl ?_
  refine w_p (y_load1 Try.isAgg3 hs8 rfl rfl (ats_own (i := 0) (vs := [_]) rfl rfl)) rfl ?_
  refine w_p (y_fieldAddr (o := 0) (i := 0) Try.underlying25 rfl Try.sizeOf3 rfl rfl rfl) rfl ?_
  refine w_p (y_load1 Try.isAgg3 hs8 rfl rfl (ats_own (i := 1) (vs := [_]) rfl rfl)) rfl ?_
  refine w_p (y_sub rfl rfl rfl rfl (by omega) (by omega)) rfl ?_
  refine w_call want_none Try.call59 rfl rfl rfl rfl (c59 _ _ _ hs8) ?_
  rintro _ w14 ⟨rfl, hs15⟩
  refine w_p (y_not rfl rfl) rfl ?_
  refine w_nil ?_
  refine q_then (hK11 _ _ ?_)
  refine w_cond rfl rfl (fun h16 => ?_) (fun h16 => ?_)
  ·
   try simp only [zA, zB, zC, zD, zE, zF] at h16
   refine w_seq (fun K18 hK17 => ?_)
   refine w_region ?_
   refine w_p (y_assign (v := _) rfl rfl) rfl ?_
   refine w_nil ?_
   refine q_then (hK17 _ _ ?_)
   refine w_ret ?_
   refine q_then_ret ?_
   refine q_ret (l := [.tmp 4]) (vs := [_]) rfl ⟨⟨rfl, show _ = (.int _ _ : Value) from rfl⟩, trivial⟩ ?_
   first
     | exact ⟨congrArg (Value.int .i64) (hour_4 (by assumption)).symm, hs15.tail.tail⟩
     | exact ⟨congrArg (Value.int .i64) (hour_2 (by assumption) (by assumption) (by omega)).symm, hs15.tail.tail⟩
     | exact ⟨congrArg (Value.int .i64) (by rw [hour_0 (by assumption) (by assumption) (by omega)]; assumption), hs15.tail.tail⟩
     | exact ⟨congrArg (Value.int .i64) (hour_e (by assumption) (by assumption)).symm, hs15.tail.tail⟩
  ·
   try simp only [zA, zB, zC, zD, zE, zF] at h16
   refine w_skip ?_
   refine q_then (hK9 _ _ ?_)
   refine w_seq (fun K20 hK19 => ?_)
   refine w_region ?_
   refine w_p (y_fieldAddr (o := 1) (i := 1) Try.underlying70 rfl Try.sizeOf31 rfl rfl rfl) rfl ?_
   refine w_p (y_loadN (vs := [_, _]) Try.isAgg31 Try.sizeOf31 hs15 rfl rfl (ats_own (i := 0) (vs := [_, _]) rfl rfl)) rfl ?_
   refine w_call want_none Try.call96 rfl rfl rfl rfl (c96 _ _ _ _ hs15) ?_
   rintro _ w22 ⟨rfl, hs23⟩
   refine w_p (y_assign (v := .int _ _) rfl rfl) rfl ?_
   refine w_nil ?_
   refine q_then (hK19 _ _ ?_)
   refine w_seq (fun K25 hK24 => ?_)
   refine w_seq (fun K27 hK26 => ?_)
   refine w_region ?_
   refine w_p (y_move (v := .int _ _) rfl rfl) rfl ?_
   refine w_p (y_eql rfl rfl rfl rfl) rfl ?_
   refine w_p (y_move (v := .bool _) rfl rfl) rfl ?_
   refine w_split (fun h28 => ?_) (fun h28 => ?_)
   ·
    try simp only [zA, zB, zC, zD, zE, zF] at h28
    have he1 := ends_ok (by assumption : ends h.lo h.hi 0 40 = 0)
    refine w_y rfl rfl rfl (y_fieldAddr (o := 1) (i := 1) Try.underlying70 rfl Try.sizeOf31 rfl rfl rfl) rfl ?_
    refine w_y rfl rfl rfl (y_fieldAddr (o := 1) (i := 1) Try.underlying31 rfl Try.sizeOf3 rfl rfl rfl) rfl ?_
    refine w_y rfl rfl rfl (y_load1 Try.isAgg3 hs23 rfl rfl (ats_own (i := 0) (vs := [_]) rfl rfl)) rfl ?_
    refine w_y rfl rfl rfl (y_fieldAddr (o := 1) (i := 1) Try.underlying70 rfl Try.sizeOf31 rfl rfl rfl) rfl ?_
    refine w_y rfl rfl rfl (y_fieldAddr (o := 0) (i := 0) Try.underlying31 rfl Try.sizeOf3 rfl rfl rfl) rfl ?_
    refine w_y rfl rfl rfl (y_load1 Try.isAgg3 hs23 rfl rfl (ats_own (i := 0) (vs := [_]) rfl rfl)) rfl ?_
    refine w_y rfl rfl rfl (y_sub rfl rfl rfl rfl (by omega) (by omega)) rfl ?_
    refine w_y rfl rfl rfl (y_gtr rfl rfl rfl rfl) rfl ?_
    refine w_p (y_pickT (v := .bool _) rfl rfl rfl rfl) rfl ?_
    refine w_nil ?_
    refine q_then (hK26 _ _ ?_)
    refine w_cond rfl rfl (fun h29 => ?_) (fun h29 => ?_)
    ·
     try simp only [zA, zB, zC, zD, zE, zF] at h29
     refine w_region ?_
     refine w_p (y_assign (v := _) rfl rfl) rfl ?_
     refine w_nil ?_
     refine q_then (hK24 _ _ ?_)
     refine w_seq (fun K31 hK30 => ?_)
     refine w_region ?_
     refine w_p (y_move (v := .int _ _) rfl rfl) rfl ?_
     refine w_p (y_assign (v := .int _ _) rfl rfl) rfl ?_
     refine w_nil ?_
     refine q_then (hK30 _ _ ?_)
     refine w_ret ?_
     refine q_ret (l := [.tmp 4]) (vs := [_]) rfl ⟨⟨rfl, show _ = (.int _ _ : Value) from rfl⟩, trivial⟩ ?_
     first
       | exact ⟨congrArg (Value.int .i64) (hour_4 (by assumption)).symm, hs23.tail.tail⟩
       | exact ⟨congrArg (Value.int .i64) (hour_2 (by assumption) (by assumption) (by omega)).symm, hs23.tail.tail⟩
       | exact ⟨congrArg (Value.int .i64) (by rw [hour_0 (by assumption) (by assumption) (by omega)]; assumption), hs23.tail.tail⟩
       | exact ⟨congrArg (Value.int .i64) (hour_e (by assumption) (by assumption)).symm, hs23.tail.tail⟩
    ·
     try simp only [zA, zB, zC, zD, zE, zF] at h29
     refine w_skip ?_
     refine q_then (hK24 _ _ ?_)
     refine w_seq (fun K33 hK32 => ?_)
     refine w_region ?_
     refine w_p (y_move (v := .int _ _) rfl rfl) rfl ?_
     refine w_p (y_assign (v := .int _ _) rfl rfl) rfl ?_
     refine w_nil ?_
     refine q_then (hK32 _ _ ?_)
     refine w_ret ?_
     refine q_ret (l := [.tmp 4]) (vs := [_]) rfl ⟨⟨rfl, show _ = (.int _ _ : Value) from rfl⟩, trivial⟩ ?_
     first
       | exact ⟨congrArg (Value.int .i64) (hour_4 (by assumption)).symm, hs23.tail.tail⟩
       | exact ⟨congrArg (Value.int .i64) (hour_2 (by assumption) (by assumption) (by omega)).symm, hs23.tail.tail⟩
       | exact ⟨congrArg (Value.int .i64) (by rw [hour_0 (by assumption) (by assumption) (by omega)]; assumption), hs23.tail.tail⟩
       | exact ⟨congrArg (Value.int .i64) (hour_e (by assumption) (by assumption)).symm, hs23.tail.tail⟩
   ·
    try simp only [zA, zB, zC, zD, zE, zF] at h28
    refine w_skipop rfl rfl rfl ?_
    refine w_skipop rfl rfl rfl ?_
    refine w_skipop rfl rfl rfl ?_
    refine w_skipop rfl rfl rfl ?_
    refine w_skipop rfl rfl rfl ?_
    refine w_skipop rfl rfl rfl ?_
    refine w_skipop rfl rfl rfl ?_
    refine w_skipop rfl rfl rfl ?_
    refine w_p (y_pickF (v := _) rfl rfl rfl rfl) rfl ?_
    refine w_nil ?_
    refine q_then (hK26 _ _ ?_)
    refine w_condF rfl rfl ?_
    refine w_skip ?_
    refine q_then (hK24 _ _ ?_)
    refine w_seq (fun K35 hK34 => ?_)
    refine w_region ?_
    refine w_p (y_move (v := .int _ _) rfl rfl) rfl ?_
    refine w_p (y_assign (v := .int _ _) rfl rfl) rfl ?_
    refine w_nil ?_
    refine q_then (hK34 _ _ ?_)
    refine w_ret ?_
    refine q_ret (l := [.tmp 4]) (vs := [_]) rfl ⟨⟨rfl, show _ = (.int _ _ : Value) from rfl⟩, trivial⟩ ?_
    first
      | exact ⟨congrArg (Value.int .i64) (hour_4 (by assumption)).symm, hs23.tail.tail⟩
      | exact ⟨congrArg (Value.int .i64) (hour_2 (by assumption) (by assumption) (by omega)).symm, hs23.tail.tail⟩
      | exact ⟨congrArg (Value.int .i64) (by rw [hour_0 (by assumption) (by assumption) (by omega)]; assumption), hs23.tail.tail⟩
      | exact ⟨congrArg (Value.int .i64) (hour_e (by assumption) (by assumption)).symm, hs23.tail.tail⟩

theorem c62 {w0 w : World} {F : List (Nat × Obj)} (b : Board) (p : AtB) (c : Ctr) (pc : AtC) (hlh : b.hours.length ≤ 9223372036854775807) (hlz : c.zero.length ≤ 9223372036854775807) (hls : c.shown.length ≤ 9223372036854775807) (hz : Sl w0 F pc.az 1 (c.zero.map fun x => [Value.int .i64 x])) (hw : Sl w0 F pc.as 1 (c.shown.map fun x => [Value.int .i64 x])) (hs : St w0 w F) :
  Con Try.prog 62 [.agg (b.cells p).toArray, .agg (c.cells pc).toArray] w fun v w' => v = .int .i64 (ctrOwn b.hours.length c) ∧ St w0 w' F := by
  refine con_of_wc (n := 61) Try.func62 rfl rfl (Nat.le_of_ble_eq_true rfl) ?_
  refine w_seq (fun K2 hK1 => ?_)
  refine w_region ?_
  refine w_box (v := .agg #[.int _ _, .slice _ _ _, .slice _ _ _]) (cs := [_, _, _]) want_none rfl rfl rfl hs (fun b3 w4 hs5 => ?_)
  refine w_box (v := .agg #[.string _, .int _ _, .int _ _, .int _ _, .slice _ _ _, .slice _ _ _]) (cs := [_, _, _, _, _, _]) want_none rfl rfl rfl hs5 (fun b6 w7 hs8 => ?_)
  refine w_p (y_assign (v := _) rfl rfl) rfl ?_
  refine w_nil ?_
  refine q_then (hK1 _ _ ?_)
  refine w_seq (fun K10 hK9 => ?_)
  refine w_seq (fun K12 hK11 => ?_)
  refine w_region ?_
  refine w_p (y_fieldAddr (o := 1) (i := 1) Try.underlying76 rfl Try.sizeOf3 rfl rfl rfl) rfl ?_
  refine w_p (y_load1 Try.isAgg3 hs8 rfl rfl (ats_own (i := 0) (vs := [_]) rfl rfl)) rfl ?_
  refine w_call want_none Try.call59 rfl rfl rfl rfl (c59 _ _ _ hs8) ?_
  rintro _ w14 ⟨rfl, hs15⟩
  refine w_p (y_not rfl rfl) rfl ?_
  refine w_p (y_move (v := .bool _) rfl rfl) rfl ?_
  refine w_split (fun h16 => ?_) (fun h16 => ?_)
  ·
   try simp only [zA, zB, zC, zD, zE, zF] at h16
   refine w_skipop rfl rfl rfl ?_
   refine w_skipop rfl rfl rfl ?_
   refine w_skipop rfl rfl rfl ?_
   refine w_skipop rfl rfl rfl ?_
   refine w_p (y_pickT (v := _) rfl rfl rfl rfl) rfl ?_
   refine w_p (y_move (v := .bool _) rfl rfl) rfl ?_
   refine w_skipop rfl rfl rfl ?_
   refine w_skipop rfl rfl rfl ?_
   refine w_skipop rfl rfl rfl ?_
   refine w_skipop rfl rfl rfl ?_
   refine w_p (y_pickT (v := _) rfl rfl rfl rfl) rfl ?_
   refine w_nil ?_
   refine q_then (hK11 _ _ ?_)
   refine w_condT rfl rfl ?_
   refine w_seq (fun K18 hK17 => ?_)
   refine w_region ?_
   refine w_p (y_assign (v := _) rfl rfl) rfl ?_
   refine w_nil ?_
   refine q_then (hK17 _ _ ?_)
   refine w_ret ?_
   refine q_then_ret ?_
   refine q_ret (l := [.tmp 4]) (vs := [_]) rfl ⟨⟨rfl, show _ = (.int _ _ : Value) from rfl⟩, trivial⟩ ?_
   first
     | exact ⟨congrArg (Value.int .i64) (own_7 (.inl (by assumption))).symm, hs15.tail.tail⟩
     | exact ⟨congrArg (Value.int .i64) (own_7 (.inr (.inl (by assumption)))).symm, hs15.tail.tail⟩
     | exact ⟨congrArg (Value.int .i64) (own_7 (.inr (.inr (by assumption)))).symm, hs15.tail.tail⟩
     | exact ⟨congrArg (Value.int .i64) (own_3 (by assumption) (by assumption) (by assumption) (by omega)).symm, hs15.tail.tail⟩
     | exact ⟨congrArg (Value.int .i64) (own_b (by assumption) (by assumption) (by assumption) (by omega) (by omega) (i := i) (by omega) (.inl (by assumption))).symm, hs15.tail.tail⟩
     | exact ⟨congrArg (Value.int .i64) (own_b (by assumption) (by assumption) (by assumption) (by omega) (by omega) (i := i) (by omega) (.inr (by assumption))).symm, hs15.tail.tail⟩
     | (have hil : i = b.hours.length := by omega
        subst hil
        exact ⟨congrArg (Value.int .i64) (own_0 (by assumption) (by assumption) (by assumption) (by omega) (by omega) ⟨hnz, hns⟩).symm, hs15.tail.tail⟩)
  ·
   try simp only [zA, zB, zC, zD, zE, zF] at h16
   refine w_y rfl rfl rfl (y_fieldAddr (o := 2) (i := 2) Try.underlying76 rfl Try.sizeOf3 rfl rfl rfl) rfl ?_
   refine w_y rfl rfl rfl (y_load1 Try.isAgg3 hs15 rfl rfl (ats_own (i := 0) (vs := [_]) rfl rfl)) rfl ?_
   refine w_call (want_yes rfl rfl rfl) Try.call59 rfl rfl rfl rfl (c59 _ _ _ hs15) ?_
   rintro _ w20 ⟨rfl, hs21⟩
   refine w_y rfl rfl rfl (y_not rfl rfl) rfl ?_
   refine w_p (y_pickF (v := .bool _) rfl rfl rfl rfl) rfl ?_
   refine w_p (y_move (v := .bool _) rfl rfl) rfl ?_
   refine w_split (fun h22 => ?_) (fun h22 => ?_)
   ·
    try simp only [zA, zB, zC, zD, zE, zF] at h22
    refine w_skipop rfl rfl rfl ?_
    refine w_skipop rfl rfl rfl ?_
    refine w_skipop rfl rfl rfl ?_
    refine w_skipop rfl rfl rfl ?_
    refine w_p (y_pickT (v := _) rfl rfl rfl rfl) rfl ?_
    refine w_nil ?_
    refine q_then (hK11 _ _ ?_)
    refine w_condT rfl rfl ?_
    refine w_seq (fun K24 hK23 => ?_)
    refine w_region ?_
    refine w_p (y_assign (v := _) rfl rfl) rfl ?_
    refine w_nil ?_
    refine q_then (hK23 _ _ ?_)
    refine w_ret ?_
    refine q_then_ret ?_
    refine q_ret (l := [.tmp 4]) (vs := [_]) rfl ⟨⟨rfl, show _ = (.int _ _ : Value) from rfl⟩, trivial⟩ ?_
    first
      | exact ⟨congrArg (Value.int .i64) (own_7 (.inl (by assumption))).symm, hs21.tail.tail⟩
      | exact ⟨congrArg (Value.int .i64) (own_7 (.inr (.inl (by assumption)))).symm, hs21.tail.tail⟩
      | exact ⟨congrArg (Value.int .i64) (own_7 (.inr (.inr (by assumption)))).symm, hs21.tail.tail⟩
      | exact ⟨congrArg (Value.int .i64) (own_3 (by assumption) (by assumption) (by assumption) (by omega)).symm, hs21.tail.tail⟩
      | exact ⟨congrArg (Value.int .i64) (own_b (by assumption) (by assumption) (by assumption) (by omega) (by omega) (i := i) (by omega) (.inl (by assumption))).symm, hs21.tail.tail⟩
      | exact ⟨congrArg (Value.int .i64) (own_b (by assumption) (by assumption) (by assumption) (by omega) (by omega) (i := i) (by omega) (.inr (by assumption))).symm, hs21.tail.tail⟩
      | (have hil : i = b.hours.length := by omega
         subst hil
         exact ⟨congrArg (Value.int .i64) (own_0 (by assumption) (by assumption) (by assumption) (by omega) (by omega) ⟨hnz, hns⟩).symm, hs21.tail.tail⟩)
   ·
    try simp only [zA, zB, zC, zD, zE, zF] at h22
    refine w_y rfl rfl rfl (y_fieldAddr (o := 3) (i := 3) Try.underlying76 rfl Try.sizeOf3 rfl rfl rfl) rfl ?_
    refine w_y rfl rfl rfl (y_load1 Try.isAgg3 hs21 rfl rfl (ats_own (i := 0) (vs := [_]) rfl rfl)) rfl ?_
    refine w_call (want_yes rfl rfl rfl) Try.call59 rfl rfl rfl rfl (c59 _ _ _ hs21) ?_
    rintro _ w26 ⟨rfl, hs27⟩
    refine w_y rfl rfl rfl (y_not rfl rfl) rfl ?_
    refine w_p (y_pickF (v := .bool _) rfl rfl rfl rfl) rfl ?_
    refine w_nil ?_
    refine q_then (hK11 _ _ ?_)
    refine w_cond rfl rfl (fun h28 => ?_) (fun h28 => ?_)
    ·
     try simp only [zA, zB, zC, zD, zE, zF] at h28
     refine w_seq (fun K30 hK29 => ?_)
     refine w_region ?_
     refine w_p (y_assign (v := _) rfl rfl) rfl ?_
     refine w_nil ?_
     refine q_then (hK29 _ _ ?_)
     refine w_ret ?_
     refine q_then_ret ?_
     refine q_ret (l := [.tmp 4]) (vs := [_]) rfl ⟨⟨rfl, show _ = (.int _ _ : Value) from rfl⟩, trivial⟩ ?_
     first
       | exact ⟨congrArg (Value.int .i64) (own_7 (.inl (by assumption))).symm, hs27.tail.tail⟩
       | exact ⟨congrArg (Value.int .i64) (own_7 (.inr (.inl (by assumption)))).symm, hs27.tail.tail⟩
       | exact ⟨congrArg (Value.int .i64) (own_7 (.inr (.inr (by assumption)))).symm, hs27.tail.tail⟩
       | exact ⟨congrArg (Value.int .i64) (own_3 (by assumption) (by assumption) (by assumption) (by omega)).symm, hs27.tail.tail⟩
       | exact ⟨congrArg (Value.int .i64) (own_b (by assumption) (by assumption) (by assumption) (by omega) (by omega) (i := i) (by omega) (.inl (by assumption))).symm, hs27.tail.tail⟩
       | exact ⟨congrArg (Value.int .i64) (own_b (by assumption) (by assumption) (by assumption) (by omega) (by omega) (i := i) (by omega) (.inr (by assumption))).symm, hs27.tail.tail⟩
       | (have hil : i = b.hours.length := by omega
          subst hil
          exact ⟨congrArg (Value.int .i64) (own_0 (by assumption) (by assumption) (by assumption) (by omega) (by omega) ⟨hnz, hns⟩).symm, hs27.tail.tail⟩)
    ·
     try simp only [zA, zB, zC, zD, zE, zF] at h28
     refine w_skip ?_
     refine q_then (hK9 _ _ ?_)
     refine w_seq (fun K32 hK31 => ?_)
     refine w_seq (fun K34 hK33 => ?_)
     refine w_region ?_
     refine w_p (y_fieldAddr (o := 4) (i := 4) Try.underlying76 rfl Try.sizeOf39 rfl rfl rfl) rfl ?_
     refine w_p (y_load1 Try.isAgg39 hs27 rfl rfl (ats_own (i := 0) (vs := [_]) rfl rfl)) rfl ?_
     refine w_p (y_lenS Try.underlying39 rfl rfl) rfl ?_
     refine w_p (y_fieldAddr (o := 1) (i := 1) Try.underlying25 rfl Try.sizeOf22 rfl rfl rfl) rfl ?_
     refine w_p (y_load1 Try.isAgg22 hs27 rfl rfl (ats_own (i := 1) (vs := [_]) rfl rfl)) rfl ?_
     refine w_p (y_lenS Try.underlying22 rfl rfl) rfl ?_
     refine w_p (y_neq rfl rfl rfl rfl) rfl ?_
     refine w_p (y_move (v := .bool _) rfl rfl) rfl ?_
     refine w_split (fun h35 => ?_) (fun h35 => ?_)
     ·
      try simp only [zA, zB, zC, zD, zE, zF] at h35
      refine w_skipop rfl rfl rfl ?_
      refine w_skipop rfl rfl rfl ?_
      refine w_skipop rfl rfl rfl ?_
      refine w_skipop rfl rfl rfl ?_
      refine w_skipop rfl rfl rfl ?_
      refine w_skipop rfl rfl rfl ?_
      refine w_skipop rfl rfl rfl ?_
      refine w_p (y_pickT (v := _) rfl rfl rfl rfl) rfl ?_
      refine w_nil ?_
      refine q_then (hK33 _ _ ?_)
      refine w_condT rfl rfl ?_
      refine w_seq (fun K37 hK36 => ?_)
      refine w_region ?_
      refine w_p (y_assign (v := _) rfl rfl) rfl ?_
      refine w_nil ?_
      refine q_then (hK36 _ _ ?_)
      refine w_ret ?_
      refine q_then_ret ?_
      refine q_ret (l := [.tmp 4]) (vs := [_]) rfl ⟨⟨rfl, show _ = (.int _ _ : Value) from rfl⟩, trivial⟩ ?_
      first
        | exact ⟨congrArg (Value.int .i64) (own_7 (.inl (by assumption))).symm, hs27.tail.tail⟩
        | exact ⟨congrArg (Value.int .i64) (own_7 (.inr (.inl (by assumption)))).symm, hs27.tail.tail⟩
        | exact ⟨congrArg (Value.int .i64) (own_7 (.inr (.inr (by assumption)))).symm, hs27.tail.tail⟩
        | exact ⟨congrArg (Value.int .i64) (own_3 (by assumption) (by assumption) (by assumption) (by omega)).symm, hs27.tail.tail⟩
        | exact ⟨congrArg (Value.int .i64) (own_b (by assumption) (by assumption) (by assumption) (by omega) (by omega) (i := i) (by omega) (.inl (by assumption))).symm, hs27.tail.tail⟩
        | exact ⟨congrArg (Value.int .i64) (own_b (by assumption) (by assumption) (by assumption) (by omega) (by omega) (i := i) (by omega) (.inr (by assumption))).symm, hs27.tail.tail⟩
        | (have hil : i = b.hours.length := by omega
           subst hil
           exact ⟨congrArg (Value.int .i64) (own_0 (by assumption) (by assumption) (by assumption) (by omega) (by omega) ⟨hnz, hns⟩).symm, hs27.tail.tail⟩)
     ·
      try simp only [zA, zB, zC, zD, zE, zF] at h35
      refine w_y rfl rfl rfl (y_fieldAddr (o := 5) (i := 5) Try.underlying76 rfl Try.sizeOf39 rfl rfl rfl) rfl ?_
      refine w_y rfl rfl rfl (y_load1 Try.isAgg39 hs27 rfl rfl (ats_own (i := 0) (vs := [_]) rfl rfl)) rfl ?_
      refine w_y rfl rfl rfl (y_lenS Try.underlying39 rfl rfl) rfl ?_
      refine w_y rfl rfl rfl (y_fieldAddr (o := 1) (i := 1) Try.underlying25 rfl Try.sizeOf22 rfl rfl rfl) rfl ?_
      refine w_y rfl rfl rfl (y_load1 Try.isAgg22 hs27 rfl rfl (ats_own (i := 1) (vs := [_]) rfl rfl)) rfl ?_
      refine w_y rfl rfl rfl (y_lenS Try.underlying22 rfl rfl) rfl ?_
      refine w_y rfl rfl rfl (y_neq rfl rfl rfl rfl) rfl ?_
      refine w_p (y_pickF (v := .bool _) rfl rfl rfl rfl) rfl ?_
      refine w_nil ?_
      refine q_then (hK33 _ _ ?_)
      refine w_cond rfl rfl (fun h38 => ?_) (fun h38 => ?_)
      ·
       try simp only [zA, zB, zC, zD, zE, zF] at h38
       refine w_seq (fun K40 hK39 => ?_)
       refine w_region ?_
       refine w_p (y_assign (v := _) rfl rfl) rfl ?_
       refine w_nil ?_
       refine q_then (hK39 _ _ ?_)
       refine w_ret ?_
       refine q_then_ret ?_
       refine q_ret (l := [.tmp 4]) (vs := [_]) rfl ⟨⟨rfl, show _ = (.int _ _ : Value) from rfl⟩, trivial⟩ ?_
       first
         | exact ⟨congrArg (Value.int .i64) (own_7 (.inl (by assumption))).symm, hs27.tail.tail⟩
         | exact ⟨congrArg (Value.int .i64) (own_7 (.inr (.inl (by assumption)))).symm, hs27.tail.tail⟩
         | exact ⟨congrArg (Value.int .i64) (own_7 (.inr (.inr (by assumption)))).symm, hs27.tail.tail⟩
         | exact ⟨congrArg (Value.int .i64) (own_3 (by assumption) (by assumption) (by assumption) (by omega)).symm, hs27.tail.tail⟩
         | exact ⟨congrArg (Value.int .i64) (own_b (by assumption) (by assumption) (by assumption) (by omega) (by omega) (i := i) (by omega) (.inl (by assumption))).symm, hs27.tail.tail⟩
         | exact ⟨congrArg (Value.int .i64) (own_b (by assumption) (by assumption) (by assumption) (by omega) (by omega) (i := i) (by omega) (.inr (by assumption))).symm, hs27.tail.tail⟩
         | (have hil : i = b.hours.length := by omega
            subst hil
            exact ⟨congrArg (Value.int .i64) (own_0 (by assumption) (by assumption) (by assumption) (by omega) (by omega) ⟨hnz, hns⟩).symm, hs27.tail.tail⟩)
      ·
       try simp only [zA, zB, zC, zD, zE, zF] at h38
       refine w_skip ?_
       refine q_then (hK31 _ _ ?_)
       refine w_seq (fun K42 hK41 => ?_)
       refine w_seq (fun K44 hK43 => ?_)
       refine w_region ?_
       refine w_p (y_assign (v := _) rfl rfl) rfl ?_
       refine w_nil ?_
       refine q_then (hK43 _ _ ?_)
       refine w_block ?_
       refine w_loop [4, 5, 38, 39, 40, 41, 42, 43, 44, 45, 46, 47, 48, 49, 50, 51, 52, 53, 54, 55, 56, 57, 58, 59, 60] [5] (fun k vs w => ∃ i : Nat, vs = [.int .i64 i] ∧ i ≤ c.zero.length ∧ k = c.zero.length - i ∧ (c.zero.take i).any (out 0 2) = false ∧ (c.shown.take i).any (out (-1) 99) = false ∧ St w0 w ((b6, blk 76 (c.cells pc)) :: (b3, blk 25 (b.cells p)) :: F)) (c.zero.length) ?_ ?_
       ·
        exact ⟨0, rfl, by omega, by omega, rfl, rfl, hs27⟩
       ·
        intro k vs μ w47 hI K46 hN45
        obtain ⟨i, rfl, hia, rfl, hnz, hns, hs⟩ := hI
        refine w_seq (fun K49 hK48 => ?_)
        refine w_seq (fun K51 hK50 => ?_)
        refine w_region ?_
        refine w_p (y_move (v := .int _ _) rfl rfl) rfl ?_
        refine w_p (y_fieldAddr (o := 4) (i := 4) Try.underlying76 rfl Try.sizeOf39 rfl rfl rfl) rfl ?_
        refine w_p (y_load1 Try.isAgg39 hs rfl rfl (ats_own (i := 0) (vs := [_]) rfl rfl)) rfl ?_
        refine w_p (y_lenS Try.underlying39 rfl rfl) rfl ?_
        refine w_p (y_lss rfl rfl rfl rfl) rfl ?_
        refine w_nil ?_
        refine q_then (hK50 _ _ ?_)
        refine w_cond rfl rfl (fun h52 => ?_) (fun h52 => ?_)
        ·
         try simp only [zA, zB, zC, zD, zE, zF] at h52
         refine w_skip ?_
         refine q_then (hK48 _ _ ?_)
         refine w_seq (fun K54 hK53 => ?_)
         refine w_block ?_
         refine w_seq (fun K56 hK55 => ?_)
         have hi2 : i < c.zero.length := by omega
         have hi3 : i < c.shown.length := by omega
         obtain ⟨bz, oz, hbz, hxz⟩ := sl_ints hz hi2
         obtain ⟨bw, ow, hbw, hxw⟩ := sl_ints hw hi3
         refine w_region ?_
         refine w_p (y_fieldAddr (o := 4) (i := 4) Try.underlying76 rfl Try.sizeOf39 rfl rfl rfl) rfl ?_
         refine w_p (yd_slice hbz (y_load1 Try.isAgg39 hs rfl rfl (ats_own (i := 0) (vs := [_]) rfl rfl))) rfl ?_
         refine w_p (y_move (v := .int _ _) rfl rfl) rfl ?_
         refine w_p (y_indexS Try.underlying39 Try.sizeOf3 rfl rfl rfl rfl (i := i) rfl hi2) rfl ?_
         refine w_p (y_load1 Try.isAgg3 hs.tail.tail rfl rfl hxz) rfl ?_
         refine w_call want_none Try.call59 rfl rfl rfl rfl (c59 _ _ _ hs) ?_
         rintro _ w58 ⟨rfl, hs59⟩
         refine w_p (y_not rfl rfl) rfl ?_
         refine w_p (y_move (v := .bool _) rfl rfl) rfl ?_
         refine w_split (fun h60 => ?_) (fun h60 => ?_)
         ·
          try simp only [zA, zB, zC, zD, zE, zF] at h60
          refine w_skipop rfl rfl rfl ?_
          refine w_skipop rfl rfl rfl ?_
          refine w_skipop rfl rfl rfl ?_
          refine w_skipop rfl rfl rfl ?_
          refine w_skipop rfl rfl rfl ?_
          refine w_skipop rfl rfl rfl ?_
          refine w_skipop rfl rfl rfl ?_
          refine w_p (y_pickT (v := _) rfl rfl rfl rfl) rfl ?_
          refine w_nil ?_
          refine q_then (hK55 _ _ ?_)
          refine w_condT rfl rfl ?_
          refine w_seq (fun K62 hK61 => ?_)
          refine w_region ?_
          refine w_p (y_assign (v := _) rfl rfl) rfl ?_
          refine w_nil ?_
          refine q_then (hK61 _ _ ?_)
          refine w_ret ?_
          refine q_blk_ret ?_
          refine q_then_ret ?_
          refine q_then_ret ?_
          refine q_blk_ret ?_
          refine q_then_ret ?_
          refine q_ret (l := [.tmp 4]) (vs := [_]) rfl ⟨⟨rfl, show _ = (.int _ _ : Value) from rfl⟩, trivial⟩ ?_
          first
            | exact ⟨congrArg (Value.int .i64) (own_7 (.inl (by assumption))).symm, hs59.tail.tail⟩
            | exact ⟨congrArg (Value.int .i64) (own_7 (.inr (.inl (by assumption)))).symm, hs59.tail.tail⟩
            | exact ⟨congrArg (Value.int .i64) (own_7 (.inr (.inr (by assumption)))).symm, hs59.tail.tail⟩
            | exact ⟨congrArg (Value.int .i64) (own_3 (by assumption) (by assumption) (by assumption) (by omega)).symm, hs59.tail.tail⟩
            | exact ⟨congrArg (Value.int .i64) (own_b (by assumption) (by assumption) (by assumption) (by omega) (by omega) (i := i) (by omega) (.inl (by assumption))).symm, hs59.tail.tail⟩
            | exact ⟨congrArg (Value.int .i64) (own_b (by assumption) (by assumption) (by assumption) (by omega) (by omega) (i := i) (by omega) (.inr (by assumption))).symm, hs59.tail.tail⟩
            | (have hil : i = b.hours.length := by omega
               subst hil
               exact ⟨congrArg (Value.int .i64) (own_0 (by assumption) (by assumption) (by assumption) (by omega) (by omega) ⟨hnz, hns⟩).symm, hs59.tail.tail⟩)
         ·
          try simp only [zA, zB, zC, zD, zE, zF] at h60
          refine w_y rfl rfl rfl (y_fieldAddr (o := 5) (i := 5) Try.underlying76 rfl Try.sizeOf39 rfl rfl rfl) rfl ?_
          refine w_y rfl rfl rfl (yd_slice hbw (y_load1 Try.isAgg39 hs59 rfl rfl (ats_own (i := 0) (vs := [_]) rfl rfl))) rfl ?_
          refine w_y rfl rfl rfl (y_move (v := .int _ _) rfl rfl) rfl ?_
          refine w_y rfl rfl rfl (y_indexS Try.underlying39 Try.sizeOf3 rfl rfl rfl rfl (i := i) rfl hi3) rfl ?_
          refine w_y rfl rfl rfl (y_load1 Try.isAgg3 hs59.tail.tail rfl rfl hxw) rfl ?_
          refine w_call (want_yes rfl rfl rfl) Try.call59 rfl rfl rfl rfl (c59 _ _ _ hs59) ?_
          rintro _ w64 ⟨rfl, hs65⟩
          refine w_y rfl rfl rfl (y_not rfl rfl) rfl ?_
          refine w_p (y_pickF (v := .bool _) rfl rfl rfl rfl) rfl ?_
          refine w_nil ?_
          refine q_then (hK55 _ _ ?_)
          refine w_cond rfl rfl (fun h66 => ?_) (fun h66 => ?_)
          ·
           try simp only [zA, zB, zC, zD, zE, zF] at h66
           refine w_seq (fun K68 hK67 => ?_)
           refine w_region ?_
           refine w_p (y_assign (v := _) rfl rfl) rfl ?_
           refine w_nil ?_
           refine q_then (hK67 _ _ ?_)
           refine w_ret ?_
           refine q_blk_ret ?_
           refine q_then_ret ?_
           refine q_then_ret ?_
           refine q_blk_ret ?_
           refine q_then_ret ?_
           refine q_ret (l := [.tmp 4]) (vs := [_]) rfl ⟨⟨rfl, show _ = (.int _ _ : Value) from rfl⟩, trivial⟩ ?_
           first
             | exact ⟨congrArg (Value.int .i64) (own_7 (.inl (by assumption))).symm, hs65.tail.tail⟩
             | exact ⟨congrArg (Value.int .i64) (own_7 (.inr (.inl (by assumption)))).symm, hs65.tail.tail⟩
             | exact ⟨congrArg (Value.int .i64) (own_7 (.inr (.inr (by assumption)))).symm, hs65.tail.tail⟩
             | exact ⟨congrArg (Value.int .i64) (own_3 (by assumption) (by assumption) (by assumption) (by omega)).symm, hs65.tail.tail⟩
             | exact ⟨congrArg (Value.int .i64) (own_b (by assumption) (by assumption) (by assumption) (by omega) (by omega) (i := i) (by omega) (.inl (by assumption))).symm, hs65.tail.tail⟩
             | exact ⟨congrArg (Value.int .i64) (own_b (by assumption) (by assumption) (by assumption) (by omega) (by omega) (i := i) (by omega) (.inr (by assumption))).symm, hs65.tail.tail⟩
             | (have hil : i = b.hours.length := by omega
                subst hil
                exact ⟨congrArg (Value.int .i64) (own_0 (by assumption) (by assumption) (by assumption) (by omega) (by omega) ⟨hnz, hns⟩).symm, hs65.tail.tail⟩)
          ·
           try simp only [zA, zB, zC, zD, zE, zF] at h66
           refine w_skip ?_
           refine q_blk_normal ?_
           refine q_then (hK53 _ _ ?_)
           refine w_region ?_
           refine w_p (y_move (v := .int _ _) rfl rfl) rfl ?_
           refine w_p (y_add rfl rfl rfl rfl (by omega) (by omega)) rfl ?_
           refine w_p (y_assign (v := .int _ _) rfl rfl) rfl ?_
           refine w_nil ?_
           refine q_then (hN45 _ _ (Nx.intro (c.zero.length - (i + 1)) (by omega) (by repeat (first | exact agree_mix | refine agree_upd rfl ?_ | refine agree_updL rfl ?_ _ | refine agree_mixin rfl ?_)) ?_))
           exact ⟨i + 1, rfl, by omega, rfl, any_snoc hi2 hnz (by assumption), any_snoc hi3 hns (by assumption), hs65⟩
        ·
         try simp only [zA, zB, zC, zD, zE, zF] at h52
         refine w_exit ?_
         refine q_then_exit ?_
         refine q_then_exit ?_
         refine q_blk_this ?_
         refine q_then (hK41 _ _ ?_)
         refine w_seq (fun K70 hK69 => ?_)
         refine w_region ?_
         refine w_p (y_assign (v := _) rfl rfl) rfl ?_
         refine w_nil ?_
         refine q_then (hK69 _ _ ?_)
         refine w_ret ?_
         refine q_ret (l := [.tmp 4]) (vs := [_]) rfl ⟨⟨rfl, show _ = (.int _ _ : Value) from rfl⟩, trivial⟩ ?_
         first
           | exact ⟨congrArg (Value.int .i64) (own_7 (.inl (by assumption))).symm, hs.tail.tail⟩
           | exact ⟨congrArg (Value.int .i64) (own_7 (.inr (.inl (by assumption)))).symm, hs.tail.tail⟩
           | exact ⟨congrArg (Value.int .i64) (own_7 (.inr (.inr (by assumption)))).symm, hs.tail.tail⟩
           | exact ⟨congrArg (Value.int .i64) (own_3 (by assumption) (by assumption) (by assumption) (by omega)).symm, hs.tail.tail⟩
           | exact ⟨congrArg (Value.int .i64) (own_b (by assumption) (by assumption) (by assumption) (by omega) (by omega) (i := i) (by omega) (.inl (by assumption))).symm, hs.tail.tail⟩
           | exact ⟨congrArg (Value.int .i64) (own_b (by assumption) (by assumption) (by assumption) (by omega) (by omega) (i := i) (by omega) (.inr (by assumption))).symm, hs.tail.tail⟩
           | (have hil : i = b.hours.length := by omega
              subst hil
              exact ⟨congrArg (Value.int .i64) (own_0 (by assumption) (by assumption) (by assumption) (by omega) (by omega) ⟨hnz, hns⟩).symm, hs.tail.tail⟩)

theorem c17 {w0 w : World} {F : List (Nat × Obj)} (b : Board) (p : AtB) (hm : BIn w0 F b p)  (hs : St w0 w F) :
  Con Try.prog 17 [.agg (b.cells p).toArray] w fun v w' => v = .tuple #[.int .i64 (check b).1, .int .i64 (check b).2.1, .int .i64 (check b).2.2] ∧ St w0 w' F := by
  refine con_of_wc (n := 77) Try.func17 rfl rfl (Nat.le_of_ble_eq_true rfl) ?_
  have hlh := hm.lh
  have hlc := hm.lc
  refine w_seq (fun K2 hK1 => ?_)
  refine w_region ?_
  refine w_box (v := .agg #[.int _ _, .slice _ _ _, .slice _ _ _]) (cs := [_, _, _]) want_none rfl rfl rfl hs (fun b3 w4 hs5 => ?_)
  refine w_p (y_assign (v := _) rfl rfl) rfl ?_
  refine w_p (y_assign (v := _) rfl rfl) rfl ?_
  refine w_p (y_assign (v := _) rfl rfl) rfl ?_
  refine w_nil ?_
  refine q_then (hK1 _ _ ?_)
  refine w_seq (fun K7 hK6 => ?_)
  refine w_seq (fun K9 hK8 => ?_)
  refine w_region ?_
  refine w_p (y_fieldAddr (o := 0) (i := 0) Try.underlying25 rfl Try.sizeOf3 rfl rfl rfl) rfl ?_
  refine w_p (y_load1 Try.isAgg3 hs5 rfl rfl (ats_own (i := 0) (vs := [_]) rfl rfl)) rfl ?_
  refine w_call want_none Try.call59 rfl rfl rfl rfl (c59 _ _ _ hs5) ?_
  rintro _ w11 ⟨rfl, hs12⟩
  refine w_p (y_not rfl rfl) rfl ?_
  refine w_nil ?_
  refine q_then (hK8 _ _ ?_)
  refine w_cond rfl rfl (fun h13 => ?_) (fun h13 => ?_)
  ·
   try simp only [zA, zB, zC, zD, zE, zF] at h13
   refine w_seq (fun K15 hK14 => ?_)
   refine w_region ?_
   refine w_p (y_assign (v := _) rfl rfl) rfl ?_
   refine w_p (y_assign (v := _) rfl rfl) rfl ?_
   refine w_p (y_assign (v := _) rfl rfl) rfl ?_
   refine w_nil ?_
   refine q_then (hK14 _ _ ?_)
   refine w_ret ?_
   refine q_then_ret ?_
   refine q_ret (l := [.tmp 2, .tmp 3, .tmp 4]) (vs := [_, _, _]) rfl ⟨⟨rfl, show _ = (.int _ _ : Value) from rfl⟩, ⟨rfl, show _ = (.int _ _ : Value) from rfl⟩, ⟨rfl, show _ = (.int _ _ : Value) from rfl⟩, trivial⟩ ?_
   first
     | contradiction
     | exact ⟨tup3 (chk_1 (by assumption)), hs12.tail⟩
     | exact ⟨tup3 (chk_h (by assumption) (fail_most (by omega)) (by decide)), hs12.tail⟩
     | (refine ⟨tup3 (chk_h (by assumption) ((fail_go (by omega)).trans (hinv.trans (firstE_stop hi2 (by assumption)))) (by assumption)), hs12.tail⟩)
     | exact ⟨tup3 (chk_c (by assumption) (by rw [fail_go (by omega), hhe]) (fail_most (by omega)) (by decide)), hs12.tail⟩
     | (refine ⟨tup3 (chk_c (by assumption) (by rw [fail_go (by omega), hhe]) ((fail_go (by omega)).trans (hinv.trans ((firstE_stop hi2 ?_).trans ?_))) ?_), hs12.tail⟩
        · rw [ctrE_no (by assumption)]; assumption
        · rw [ctrE_no (by assumption)]
        · assumption)
     | (refine ⟨tup3 (chk_c (by assumption) (by rw [fail_go (by omega), hhe]) ((fail_go (by omega)).trans (hinv.trans ((firstE_stop hi2 ?_).trans ?_))) ?_), hs12.tail⟩
        · rw [ctrE_yes (by assumption)]; assumption
        · rw [ctrE_yes (by assumption)]
        · assumption)
     | exact ⟨tup3 (chk_0 (by assumption) (by rw [fail_go (by omega), hhe]) (by rw [fail_go (by omega), hinv.trans (firstE_end (by omega) _)])), hs12.tail⟩
  ·
   try simp only [zA, zB, zC, zD, zE, zF] at h13
   refine w_skip ?_
   refine q_then (hK6 _ _ ?_)
   refine w_seq (fun K17 hK16 => ?_)
   refine w_seq (fun K19 hK18 => ?_)
   refine w_region ?_
   refine w_p (y_fieldAddr (o := 1) (i := 1) Try.underlying25 rfl Try.sizeOf22 rfl rfl rfl) rfl ?_
   refine w_p (y_load1 Try.isAgg22 hs12 rfl rfl (ats_own (i := 0) (vs := [_]) rfl rfl)) rfl ?_
   refine w_p (y_lenS Try.underlying22 rfl rfl) rfl ?_
   refine w_p (y_gtr rfl rfl rfl rfl) rfl ?_
   refine w_nil ?_
   refine q_then (hK18 _ _ ?_)
   refine w_cond rfl rfl (fun h20 => ?_) (fun h20 => ?_)
   ·
    try simp only [zA, zB, zC, zD, zE, zF] at h20
    refine w_seq (fun K22 hK21 => ?_)
    refine w_region ?_
    refine w_p (y_assign (v := _) rfl rfl) rfl ?_
    refine w_p (y_assign (v := _) rfl rfl) rfl ?_
    refine w_p (y_assign (v := _) rfl rfl) rfl ?_
    refine w_nil ?_
    refine q_then (hK21 _ _ ?_)
    refine w_ret ?_
    refine q_then_ret ?_
    refine q_ret (l := [.tmp 2, .tmp 3, .tmp 4]) (vs := [_, _, _]) rfl ⟨⟨rfl, show _ = (.int _ _ : Value) from rfl⟩, ⟨rfl, show _ = (.int _ _ : Value) from rfl⟩, ⟨rfl, show _ = (.int _ _ : Value) from rfl⟩, trivial⟩ ?_
    first
      | contradiction
      | exact ⟨tup3 (chk_1 (by assumption)), hs12.tail⟩
      | exact ⟨tup3 (chk_h (by assumption) (fail_most (by omega)) (by decide)), hs12.tail⟩
      | (refine ⟨tup3 (chk_h (by assumption) ((fail_go (by omega)).trans (hinv.trans (firstE_stop hi2 (by assumption)))) (by assumption)), hs12.tail⟩)
      | exact ⟨tup3 (chk_c (by assumption) (by rw [fail_go (by omega), hhe]) (fail_most (by omega)) (by decide)), hs12.tail⟩
      | (refine ⟨tup3 (chk_c (by assumption) (by rw [fail_go (by omega), hhe]) ((fail_go (by omega)).trans (hinv.trans ((firstE_stop hi2 ?_).trans ?_))) ?_), hs12.tail⟩
         · rw [ctrE_no (by assumption)]; assumption
         · rw [ctrE_no (by assumption)]
         · assumption)
      | (refine ⟨tup3 (chk_c (by assumption) (by rw [fail_go (by omega), hhe]) ((fail_go (by omega)).trans (hinv.trans ((firstE_stop hi2 ?_).trans ?_))) ?_), hs12.tail⟩
         · rw [ctrE_yes (by assumption)]; assumption
         · rw [ctrE_yes (by assumption)]
         · assumption)
      | exact ⟨tup3 (chk_0 (by assumption) (by rw [fail_go (by omega), hhe]) (by rw [fail_go (by omega), hinv.trans (firstE_end (by omega) _)])), hs12.tail⟩
   ·
    try simp only [zA, zB, zC, zD, zE, zF] at h20
    refine w_skip ?_
    refine q_then (hK16 _ _ ?_)
    refine w_seq (fun K24 hK23 => ?_)
    refine w_seq (fun K26 hK25 => ?_)
    refine w_region ?_
    refine w_p (y_assign (v := _) rfl rfl) rfl ?_
    refine w_nil ?_
    refine q_then (hK25 _ _ ?_)
    refine w_block ?_
    refine w_loop [2, 3, 4, 5, 6, 18, 19, 20, 21, 22, 23, 24, 25, 26, 27, 28, 29, 30, 31, 32, 33, 34, 35] [5] (fun k vs w => ∃ (i : Nat), vs = [.int .i64 i] ∧ i ≤ b.hours.length ∧ k = b.hours.length - i ∧ firstE (hourE b.holds) [] 0 b.hours = firstE (hourE b.holds) (b.hours.take i) i (b.hours.drop i) ∧ St w0 w ((b3, blk 25 (b.cells p)) :: F)) (b.hours.length) ?_ ?_
    ·
     exact ⟨0, rfl, by omega, by omega, rfl, hs12⟩
    ·
     intro k vs μ w29 hI K28 hN27
     obtain ⟨i, rfl, hia, rfl, hinv, hs⟩ := hI
     refine w_seq (fun K31 hK30 => ?_)
     refine w_seq (fun K33 hK32 => ?_)
     refine w_region ?_
     refine w_p (y_move (v := .int _ _) rfl rfl) rfl ?_
     refine w_p (y_fieldAddr (o := 1) (i := 1) Try.underlying25 rfl Try.sizeOf22 rfl rfl rfl) rfl ?_
     refine w_p (y_load1 Try.isAgg22 hs rfl rfl (ats_own (i := 0) (vs := [_]) rfl rfl)) rfl ?_
     refine w_p (y_lenS Try.underlying22 rfl rfl) rfl ?_
     refine w_p (y_lss rfl rfl rfl rfl) rfl ?_
     refine w_nil ?_
     refine q_then (hK32 _ _ ?_)
     refine w_cond rfl rfl (fun h34 => ?_) (fun h34 => ?_)
     ·
      try simp only [zA, zB, zC, zD, zE, zF] at h34
      refine w_skip ?_
      refine q_then (hK30 _ _ ?_)
      refine w_seq (fun K36 hK35 => ?_)
      refine w_block ?_
      refine w_seq (fun K38 hK37 => ?_)
      have hi2 : i < b.hours.length := by omega
      obtain ⟨bx, ox, hbx, hx⟩ := sl_hrows hm.h hi2
      refine w_draw [] [(0, 1), (1, 0), (2, 1), (3, 0), (4, 0), (5, 1), (6, 2), (7, 0)] Try_mo (drawOK_of (by kernel_rfl)) hs (fun w39 hs40 => ?_)
      refine d_take rfl want_none rfl hs40 (fun _ hq => (y_loadN (vs := [_, _, _]) Try.isAgg25 Try.sizeOf25 hq rfl rfl (ats_own (i := 0) (vs := [_, _, _]) rfl rfl))) ?_
      refine d_any rfl want_none rfl (fun _ => (y_fieldAddr (o := 1) (i := 1) Try.underlying25 rfl Try.sizeOf22 rfl rfl rfl)) ?_
      refine d_take rfl want_none rfl hs40 (fun _ hq => (yd_slice hbx (y_load1 Try.isAgg22 hq rfl rfl (ats_own (i := 0) (vs := [_]) rfl rfl)))) ?_
      refine d_any rfl want_none rfl (fun _ => (y_move (v := .int _ _) rfl rfl)) ?_
      refine d_any rfl want_none rfl (fun _ => (y_indexS Try.underlying22 Try.sizeOf70 rfl rfl rfl rfl (i := i) rfl hi2)) ?_
      refine d_take rfl want_none rfl hs40 (fun _ hq => (y_loadN (vs := [_, _, _]) Try.isAgg70 Try.sizeOf70 hq.tail rfl rfl hx)) ?_
      refine d_eff rfl ?_
      refine w_call want_none Try.call60 rfl rfl rfl rfl (c60 b p (by assumption) b.hours[i] (b.hours.take i) hs40) ?_
      rintro _ w42 ⟨rfl, hs43⟩
      refine w_nil ?_
      refine qn ⟨hs43, ?_⟩
      refine d_any rfl want_none rfl (fun _ => (y_assign (v := .int _ _) rfl rfl)) ?_
      refine d_nil ?_
      refine q_then (hK37 _ _ ?_)
      refine w_seq (fun K45 hK44 => ?_)
      refine w_region ?_
      refine w_p (y_move (v := .int _ _) rfl rfl) rfl ?_
      refine w_p (y_neq rfl rfl rfl rfl) rfl ?_
      refine w_nil ?_
      refine q_then (hK44 _ _ ?_)
      refine w_cond rfl rfl (fun h46 => ?_) (fun h46 => ?_)
      ·
       try simp only [zA, zB, zC, zD, zE, zF] at h46
       refine w_seq (fun K48 hK47 => ?_)
       refine w_region ?_
       refine w_p (y_move (v := .int _ _) rfl rfl) rfl ?_
       refine w_p (y_move (v := .int _ _) rfl rfl) rfl ?_
       refine w_p (y_assign (v := _) rfl rfl) rfl ?_
       refine w_p (y_assign (v := .int _ _) rfl rfl) rfl ?_
       refine w_p (y_assign (v := .int _ _) rfl rfl) rfl ?_
       refine w_nil ?_
       refine q_then (hK47 _ _ ?_)
       refine w_ret ?_
       refine q_blk_ret ?_
       refine q_then_ret ?_
       refine q_then_ret ?_
       refine q_blk_ret ?_
       refine q_then_ret ?_
       refine q_ret (l := [.tmp 2, .tmp 3, .tmp 4]) (vs := [_, _, _]) rfl ⟨⟨rfl, show _ = (.int _ _ : Value) from rfl⟩, ⟨rfl, show _ = (.int _ _ : Value) from rfl⟩, ⟨rfl, show _ = (.int _ _ : Value) from rfl⟩, trivial⟩ ?_
       first
         | contradiction
         | exact ⟨tup3 (chk_1 (by assumption)), hs43.tail⟩
         | exact ⟨tup3 (chk_h (by assumption) (fail_most (by omega)) (by decide)), hs43.tail⟩
         | (refine ⟨tup3 (chk_h (by assumption) ((fail_go (by omega)).trans (hinv.trans (firstE_stop hi2 (by assumption)))) (by assumption)), hs43.tail⟩)
         | exact ⟨tup3 (chk_c (by assumption) (by rw [fail_go (by omega), hhe]) (fail_most (by omega)) (by decide)), hs43.tail⟩
         | (refine ⟨tup3 (chk_c (by assumption) (by rw [fail_go (by omega), hhe]) ((fail_go (by omega)).trans (hinv.trans ((firstE_stop hi2 ?_).trans ?_))) ?_), hs43.tail⟩
            · rw [ctrE_no (by assumption)]; assumption
            · rw [ctrE_no (by assumption)]
            · assumption)
         | (refine ⟨tup3 (chk_c (by assumption) (by rw [fail_go (by omega), hhe]) ((fail_go (by omega)).trans (hinv.trans ((firstE_stop hi2 ?_).trans ?_))) ?_), hs43.tail⟩
            · rw [ctrE_yes (by assumption)]; assumption
            · rw [ctrE_yes (by assumption)]
            · assumption)
         | exact ⟨tup3 (chk_0 (by assumption) (by rw [fail_go (by omega), hhe]) (by rw [fail_go (by omega), hinv.trans (firstE_end (by omega) _)])), hs43.tail⟩
      ·
       try simp only [zA, zB, zC, zD, zE, zF] at h46
       refine w_skip ?_
       refine q_blk_normal ?_
       refine q_then (hK35 _ _ ?_)
       refine w_region ?_
       refine w_p (y_move (v := .int _ _) rfl rfl) rfl ?_
       refine w_p (y_add rfl rfl rfl rfl (by omega) (by omega)) rfl ?_
       refine w_p (y_assign (v := .int _ _) rfl rfl) rfl ?_
       refine w_nil ?_
       refine q_then (hN27 _ _ (Nx.intro (b.hours.length - (i + 1)) (by omega) (by repeat (first | exact agree_mix | refine agree_upd rfl ?_ | refine agree_updL rfl ?_ _ | refine agree_mixin rfl ?_)) ?_))
       exact ⟨i + 1, rfl, by omega, rfl, hinv.trans (firstE_step hi2 (by assumption)), hs43⟩
     ·
      try simp only [zA, zB, zC, zD, zE, zF] at h34
      refine w_exit ?_
      refine q_then_exit ?_
      refine q_then_exit ?_
      refine q_blk_this ?_
      refine q_then (hK23 _ _ ?_)
      refine w_seq (fun K50 hK49 => ?_)
      refine w_seq (fun K52 hK51 => ?_)
      have hhe : firstE (hourE b.holds) [] 0 b.hours = (0, 0) := hinv.trans (firstE_end (by omega) _)
      clear hinv
      refine w_region ?_
      refine w_p (y_fieldAddr (o := 2) (i := 2) Try.underlying25 rfl Try.sizeOf23 rfl rfl rfl) rfl ?_
      refine w_p (y_load1 Try.isAgg23 hs rfl rfl (ats_own (i := 0) (vs := [_]) rfl rfl)) rfl ?_
      refine w_p (y_lenS Try.underlying23 rfl rfl) rfl ?_
      refine w_p (y_gtr rfl rfl rfl rfl) rfl ?_
      refine w_nil ?_
      refine q_then (hK51 _ _ ?_)
      refine w_cond rfl rfl (fun h53 => ?_) (fun h53 => ?_)
      ·
       try simp only [zA, zB, zC, zD, zE, zF] at h53
       refine w_seq (fun K55 hK54 => ?_)
       refine w_region ?_
       refine w_p (y_assign (v := _) rfl rfl) rfl ?_
       refine w_p (y_assign (v := _) rfl rfl) rfl ?_
       refine w_p (y_assign (v := _) rfl rfl) rfl ?_
       refine w_nil ?_
       refine q_then (hK54 _ _ ?_)
       refine w_ret ?_
       refine q_then_ret ?_
       refine q_ret (l := [.tmp 2, .tmp 3, .tmp 4]) (vs := [_, _, _]) rfl ⟨⟨rfl, show _ = (.int _ _ : Value) from rfl⟩, ⟨rfl, show _ = (.int _ _ : Value) from rfl⟩, ⟨rfl, show _ = (.int _ _ : Value) from rfl⟩, trivial⟩ ?_
       first
         | contradiction
         | exact ⟨tup3 (chk_1 (by assumption)), hs.tail⟩
         | exact ⟨tup3 (chk_h (by assumption) (fail_most (by omega)) (by decide)), hs.tail⟩
         | (refine ⟨tup3 (chk_h (by assumption) ((fail_go (by omega)).trans (hinv.trans (firstE_stop hi2 (by assumption)))) (by assumption)), hs.tail⟩)
         | exact ⟨tup3 (chk_c (by assumption) (by rw [fail_go (by omega), hhe]) (fail_most (by omega)) (by decide)), hs.tail⟩
         | (refine ⟨tup3 (chk_c (by assumption) (by rw [fail_go (by omega), hhe]) ((fail_go (by omega)).trans (hinv.trans ((firstE_stop hi2 ?_).trans ?_))) ?_), hs.tail⟩
            · rw [ctrE_no (by assumption)]; assumption
            · rw [ctrE_no (by assumption)]
            · assumption)
         | (refine ⟨tup3 (chk_c (by assumption) (by rw [fail_go (by omega), hhe]) ((fail_go (by omega)).trans (hinv.trans ((firstE_stop hi2 ?_).trans ?_))) ?_), hs.tail⟩
            · rw [ctrE_yes (by assumption)]; assumption
            · rw [ctrE_yes (by assumption)]
            · assumption)
         | exact ⟨tup3 (chk_0 (by assumption) (by rw [fail_go (by omega), hhe]) (by rw [fail_go (by omega), hinv.trans (firstE_end (by omega) _)])), hs.tail⟩
      ·
       try simp only [zA, zB, zC, zD, zE, zF] at h53
       refine w_skip ?_
       refine q_then (hK49 _ _ ?_)
       refine w_seq (fun K57 hK56 => ?_)
       refine w_region ?_
       refine w_p (y_assign (v := _) rfl rfl) rfl ?_
       refine w_nil ?_
       refine q_then (hK56 _ _ ?_)
       refine w_seq (fun K59 hK58 => ?_)
       refine w_seq (fun K61 hK60 => ?_)
       refine w_region ?_
       refine w_p (y_assign (v := _) rfl rfl) rfl ?_
       refine w_nil ?_
       refine q_then (hK60 _ _ ?_)
       refine w_block ?_
       refine w_loop [2, 3, 4, 7, 8, 9, 40, 41, 42, 43, 44, 45, 46, 47, 48, 49, 50, 51, 52, 53, 54, 55, 56, 57, 58, 59, 60, 61, 62, 63, 64, 65, 66, 67, 68, 69, 70, 71, 72, 73, 74, 75, 76] [7, 8] (fun k vs w => ∃ (i : Nat) (v : Value) (B : List (Nat × Obj)), vs = [v, .int .i64 i] ∧ i ≤ b.ctrs.length ∧ k = b.ctrs.length - i ∧ firstE (ctrE b.hours.length) [] 0 b.ctrs = firstE (ctrE b.hours.length) (b.ctrs.take i) i (b.ctrs.drop i) ∧ Rt.Own v 9 1 i (((b.ctrs.take i).map (·.name)).map Value.string) B ∧ St w0 w ((b3, blk 25 (b.cells p)) :: (B ++ F))) (b.ctrs.length) ?_ ?_
       ·
        exact ⟨0, _, [], rfl, by omega, by omega, rfl, own_nil 9 1, hs⟩
       ·
        intro k vs μ w64 hI K63 hN62
        clear hia
        obtain ⟨i, v, B, rfl, hia, rfl, hinv, hown, hs⟩ := hI
        refine w_seq (fun K66 hK65 => ?_)
        refine w_seq (fun K68 hK67 => ?_)
        refine w_region ?_
        refine w_p (y_move (v := .int _ _) rfl rfl) rfl ?_
        refine w_p (y_fieldAddr (o := 2) (i := 2) Try.underlying25 rfl Try.sizeOf23 rfl rfl rfl) rfl ?_
        refine w_p (y_load1 Try.isAgg23 hs rfl rfl (ats_own (i := 0) (vs := [_]) rfl rfl)) rfl ?_
        refine w_p (y_lenS Try.underlying23 rfl rfl) rfl ?_
        refine w_p (y_lss rfl rfl rfl rfl) rfl ?_
        refine w_nil ?_
        refine q_then (hK67 _ _ ?_)
        refine w_cond rfl rfl (fun h69 => ?_) (fun h69 => ?_)
        ·
         try simp only [zA, zB, zC, zD, zE, zF] at h69
         refine w_skip ?_
         refine q_then (hK65 _ _ ?_)
         refine w_seq (fun K71 hK70 => ?_)
         refine w_block ?_
         refine w_seq (fun K73 hK72 => ?_)
         have hi2 : i < b.ctrs.length := by omega
         have hn2 := knames_len hia
         obtain ⟨bx, ox, hbx, hx⟩ := sl_krows hm.c hi2
         obtain ⟨an, cn, rfl, hsn⟩ := own_sl_map (w0 := w0) hown hn2 F
         have hnl : ((b.ctrs.take i).map (·.name)).length ≤ 1000000 := by omega
         refine w_region ?_
         refine w_p (y_fieldAddr (o := 2) (i := 2) Try.underlying25 rfl Try.sizeOf23 rfl rfl rfl) rfl ?_
         refine w_p (yd_slice hbx (y_load1 Try.isAgg23 hs rfl rfl (ats_own (i := 0) (vs := [_]) rfl rfl))) rfl ?_
         refine w_p (y_move (v := .int _ _) rfl rfl) rfl ?_
         refine w_p (y_indexS Try.underlying23 Try.sizeOf76 rfl rfl rfl rfl (i := i) rfl hi2) rfl ?_
         refine w_p (y_fieldAddr (o := 0) (i := 0) Try.underlying76 rfl Try.sizeOf9 rfl rfl rfl) rfl ?_
         refine w_p (y_load1 Try.isAgg9 hs.tail.drop rfl rfl (show Ats _ _ _ _ [_] from Ats.part hx 0 1)) rfl ?_
         refine w_p (y_move (v := .slice _ _ _) rfl rfl) rfl ?_
         refine w_call want_none Try.call61 rfl rfl rfl rfl ((c61 _ _ _ _ (hm.nm _ (List.getElem_mem hi2)) (by omega) hsn.cons hs).mono (fun v w2 h => (show v = .int .i64 (freshE b.ctrs[i].name ((b.ctrs.take i).map (·.name))) ∧ _ from h))) ?_
         rintro _ w75 ⟨rfl, hs76⟩
         refine w_p (y_assign (v := .int _ _) rfl rfl) rfl ?_
         refine w_nil ?_
         refine q_then (hK72 _ _ ?_)
         refine w_seq (fun K78 hK77 => ?_)
         refine w_region ?_
         refine w_p (y_move (v := .slice _ _ _) rfl rfl) rfl ?_
         refine w_p (y_fieldAddr (o := 2) (i := 2) Try.underlying25 rfl Try.sizeOf23 rfl rfl rfl) rfl ?_
         refine w_p (yd_slice hbx (y_load1 Try.isAgg23 hs76 rfl rfl (ats_own (i := 0) (vs := [_]) rfl rfl))) rfl ?_
         refine w_p (y_move (v := .int _ _) rfl rfl) rfl ?_
         refine w_p (y_indexS Try.underlying23 Try.sizeOf76 rfl rfl rfl rfl (i := i) rfl hi2) rfl ?_
         refine w_p (y_fieldAddr (o := 0) (i := 0) Try.underlying76 rfl Try.sizeOf9 rfl rfl rfl) rfl ?_
         refine w_p (y_load1 Try.isAgg9 hs76.tail.drop rfl rfl (show Ats _ _ _ _ [_] from Ats.part hx 0 1)) rfl ?_
         refine w_bslice (ps := [(0, _)]) (pv := [(0, .string _)]) (cs := [_]) want_none rfl rfl (fun w => Try_S_fb4 _ w) hs76 (fun b79 w80 hs81 => ?_)
         refine w_append (X := (_ :: _ :: [])) (B := B) (rows := [[_]]) (sz := 1) (bytes := 16) want_none Try.underlying92 Try_info9 rfl rfl rfl rfl rfl rfl rfl rfl rfl hs81 hown (sl_own (i := 0) rfl (by simp) rfl) rfl (by simp) (by simp [Value.oneCell']) (by simp only [maxLen]; omega) (by omega) (fun v82 w83 B84 ho85 hs86 => ?_)
         replace hs86 := (show St _ _ (_ :: _ :: B84 ++ (F)) from hs86)
         refine w_p (y_assign (v := v82) rfl rfl) rfl ?_
         refine w_nil ?_
         refine q_then (hK77 _ _ ?_)
         refine w_seq (fun K88 hK87 => ?_)
         refine w_seq (fun K90 hK89 => ?_)
         refine w_region ?_
         refine w_p (y_move (v := .int _ _) rfl rfl) rfl ?_
         refine w_p (y_eql rfl rfl rfl rfl) rfl ?_
         refine w_nil ?_
         refine q_then (hK89 _ _ ?_)
         refine w_cond rfl rfl (fun h91 => ?_) (fun h91 => ?_)
         ·
          try simp only [zA, zB, zC, zD, zE, zF] at h91
          refine w_draw [] [(0, 1), (1, 0), (2, 1), (3, 0), (4, 0), (5, 1), (6, 2), (7, 0)] Try_mo (drawOK_of (by kernel_rfl)) hs86 (fun w92 hs93 => ?_)
          refine d_take rfl want_none rfl hs93 (fun _ hq => (y_loadN (vs := [_, _, _]) Try.isAgg25 Try.sizeOf25 hq rfl rfl (ats_own (i := 1) (vs := [_, _, _]) rfl rfl))) ?_
          refine d_any rfl want_none rfl (fun _ => (y_fieldAddr (o := 2) (i := 2) Try.underlying25 rfl Try.sizeOf23 rfl rfl rfl)) ?_
          refine d_take rfl want_none rfl hs93 (fun _ hq => (yd_slice hbx (y_load1 Try.isAgg23 hq rfl rfl (ats_own (i := 1) (vs := [_]) rfl rfl)))) ?_
          refine d_any rfl want_none rfl (fun _ => (y_move (v := .int _ _) rfl rfl)) ?_
          refine d_any rfl want_none rfl (fun _ => (y_indexS Try.underlying23 Try.sizeOf76 rfl rfl rfl rfl (i := i) rfl hi2)) ?_
          refine d_take rfl want_none rfl hs93 (fun _ hq => (y_loadN (vs := [_, _, _, _, _, _]) Try.isAgg76 Try.sizeOf76 hq.tail.tail.drop rfl rfl hx)) ?_
          refine d_eff rfl ?_
          refine w_call want_none Try.call62 rfl rfl rfl rfl (c62 b p b.ctrs[i] (p.pc i) (by omega) (hm.lz i hi2).1 (hm.ls i hi2).1 (hm.z i hi2).app.cons.cons (hm.s i hi2).app.cons.cons hs93) ?_
          rintro _ w95 ⟨rfl, hs96⟩
          refine w_nil ?_
          refine qn ⟨hs96, ?_⟩
          refine d_any rfl want_none rfl (fun _ => (y_assign (v := .int _ _) rfl rfl)) ?_
          refine d_nil ?_
          refine q_then (hK87 _ _ ?_)
          refine w_seq (fun K98 hK97 => ?_)
          refine w_region ?_
          refine w_p (y_move (v := .int _ _) rfl rfl) rfl ?_
          refine w_p (y_neq rfl rfl rfl rfl) rfl ?_
          refine w_nil ?_
          refine q_then (hK97 _ _ ?_)
          refine w_cond rfl rfl (fun h99 => ?_) (fun h99 => ?_)
          ·
           try simp only [zA, zB, zC, zD, zE, zF] at h99
           refine w_seq (fun K101 hK100 => ?_)
           refine w_region ?_
           refine w_p (y_move (v := .int _ _) rfl rfl) rfl ?_
           refine w_p (y_move (v := .int _ _) rfl rfl) rfl ?_
           refine w_p (y_assign (v := _) rfl rfl) rfl ?_
           refine w_p (y_assign (v := .int _ _) rfl rfl) rfl ?_
           refine w_p (y_assign (v := .int _ _) rfl rfl) rfl ?_
           refine w_nil ?_
           refine q_then (hK100 _ _ ?_)
           refine w_ret ?_
           refine q_blk_ret ?_
           refine q_then_ret ?_
           refine q_then_ret ?_
           refine q_blk_ret ?_
           refine q_then_ret ?_
           refine q_ret (l := [.tmp 2, .tmp 3, .tmp 4]) (vs := [_, _, _]) rfl ⟨⟨rfl, show _ = (.int _ _ : Value) from rfl⟩, ⟨rfl, show _ = (.int _ _ : Value) from rfl⟩, ⟨rfl, show _ = (.int _ _ : Value) from rfl⟩, trivial⟩ ?_
           first
             | contradiction
             | exact ⟨tup3 (chk_1 (by assumption)), hs96.tail.tail.drop⟩
             | exact ⟨tup3 (chk_h (by assumption) (fail_most (by omega)) (by decide)), hs96.tail.tail.drop⟩
             | (refine ⟨tup3 (chk_h (by assumption) ((fail_go (by omega)).trans (hinv.trans (firstE_stop hi2 (by assumption)))) (by assumption)), hs96.tail.tail.drop⟩)
             | exact ⟨tup3 (chk_c (by assumption) (by rw [fail_go (by omega), hhe]) (fail_most (by omega)) (by decide)), hs96.tail.tail.drop⟩
             | (refine ⟨tup3 (chk_c (by assumption) (by rw [fail_go (by omega), hhe]) ((fail_go (by omega)).trans (hinv.trans ((firstE_stop hi2 ?_).trans ?_))) ?_), hs96.tail.tail.drop⟩
                · rw [ctrE_no (by assumption)]; assumption
                · rw [ctrE_no (by assumption)]
                · assumption)
             | (refine ⟨tup3 (chk_c (by assumption) (by rw [fail_go (by omega), hhe]) ((fail_go (by omega)).trans (hinv.trans ((firstE_stop hi2 ?_).trans ?_))) ?_), hs96.tail.tail.drop⟩
                · rw [ctrE_yes (by assumption)]; assumption
                · rw [ctrE_yes (by assumption)]
                · assumption)
             | exact ⟨tup3 (chk_0 (by assumption) (by rw [fail_go (by omega), hhe]) (by rw [fail_go (by omega), hinv.trans (firstE_end (by omega) _)])), hs96.tail.tail.drop⟩
          ·
           try simp only [zA, zB, zC, zD, zE, zF] at h99
           refine w_skip ?_
           refine q_blk_normal ?_
           refine q_then (hK70 _ _ ?_)
           refine w_region ?_
           refine w_p (y_move (v := .int _ _) rfl rfl) rfl ?_
           refine w_p (y_add rfl rfl rfl rfl (by omega) (by omega)) rfl ?_
           refine w_p (y_assign (v := .int _ _) rfl rfl) rfl ?_
           refine w_nil ?_
           refine q_then (hN62 _ _ (Nx.intro (b.ctrs.length - (i + 1)) (by omega) (by repeat (first | exact agree_mix | refine agree_upd rfl ?_ | refine agree_updL rfl ?_ _ | refine agree_mixin rfl ?_)) ?_))
           first
             | contradiction
             | exact ⟨i + 1, _, _, rfl, by omega, rfl, hinv.trans (firstE_step hi2 (by rw [ctrE_yes (by assumption)]; assumption)), by rw [← knames_snoc hi2]; exact ho85, hs96.tail⟩
         ·
          try simp only [zA, zB, zC, zD, zE, zF] at h91
          refine w_skip ?_
          refine q_then (hK87 _ _ ?_)
          refine w_seq (fun K103 hK102 => ?_)
          refine w_region ?_
          refine w_p (y_move (v := .int _ _) rfl rfl) rfl ?_
          refine w_p (y_neq rfl rfl rfl rfl) rfl ?_
          refine w_nil ?_
          refine q_then (hK102 _ _ ?_)
          refine w_cond rfl rfl (fun h104 => ?_) (fun h104 => ?_)
          ·
           try simp only [zA, zB, zC, zD, zE, zF] at h104
           refine w_seq (fun K106 hK105 => ?_)
           refine w_region ?_
           refine w_p (y_move (v := .int _ _) rfl rfl) rfl ?_
           refine w_p (y_move (v := .int _ _) rfl rfl) rfl ?_
           refine w_p (y_assign (v := _) rfl rfl) rfl ?_
           refine w_p (y_assign (v := .int _ _) rfl rfl) rfl ?_
           refine w_p (y_assign (v := .int _ _) rfl rfl) rfl ?_
           refine w_nil ?_
           refine q_then (hK105 _ _ ?_)
           refine w_ret ?_
           refine q_blk_ret ?_
           refine q_then_ret ?_
           refine q_then_ret ?_
           refine q_blk_ret ?_
           refine q_then_ret ?_
           refine q_ret (l := [.tmp 2, .tmp 3, .tmp 4]) (vs := [_, _, _]) rfl ⟨⟨rfl, show _ = (.int _ _ : Value) from rfl⟩, ⟨rfl, show _ = (.int _ _ : Value) from rfl⟩, ⟨rfl, show _ = (.int _ _ : Value) from rfl⟩, trivial⟩ ?_
           first
             | contradiction
             | exact ⟨tup3 (chk_1 (by assumption)), hs86.tail.tail.drop⟩
             | exact ⟨tup3 (chk_h (by assumption) (fail_most (by omega)) (by decide)), hs86.tail.tail.drop⟩
             | (refine ⟨tup3 (chk_h (by assumption) ((fail_go (by omega)).trans (hinv.trans (firstE_stop hi2 (by assumption)))) (by assumption)), hs86.tail.tail.drop⟩)
             | exact ⟨tup3 (chk_c (by assumption) (by rw [fail_go (by omega), hhe]) (fail_most (by omega)) (by decide)), hs86.tail.tail.drop⟩
             | (refine ⟨tup3 (chk_c (by assumption) (by rw [fail_go (by omega), hhe]) ((fail_go (by omega)).trans (hinv.trans ((firstE_stop hi2 ?_).trans ?_))) ?_), hs86.tail.tail.drop⟩
                · rw [ctrE_no (by assumption)]; assumption
                · rw [ctrE_no (by assumption)]
                · assumption)
             | (refine ⟨tup3 (chk_c (by assumption) (by rw [fail_go (by omega), hhe]) ((fail_go (by omega)).trans (hinv.trans ((firstE_stop hi2 ?_).trans ?_))) ?_), hs86.tail.tail.drop⟩
                · rw [ctrE_yes (by assumption)]; assumption
                · rw [ctrE_yes (by assumption)]
                · assumption)
             | exact ⟨tup3 (chk_0 (by assumption) (by rw [fail_go (by omega), hhe]) (by rw [fail_go (by omega), hinv.trans (firstE_end (by omega) _)])), hs86.tail.tail.drop⟩
          ·
           try simp only [zA, zB, zC, zD, zE, zF] at h104
           refine w_skip ?_
           refine q_blk_normal ?_
           refine q_then (hK70 _ _ ?_)
           refine w_region ?_
           refine w_p (y_move (v := .int _ _) rfl rfl) rfl ?_
           refine w_p (y_add rfl rfl rfl rfl (by omega) (by omega)) rfl ?_
           refine w_p (y_assign (v := .int _ _) rfl rfl) rfl ?_
           refine w_nil ?_
           refine q_then (hN62 _ _ (Nx.intro (b.ctrs.length - (i + 1)) (by omega) (by repeat (first | exact agree_mix | refine agree_upd rfl ?_ | refine agree_updL rfl ?_ _ | refine agree_mixin rfl ?_)) ?_))
           first
             | contradiction
             | exact ⟨i + 1, _, _, rfl, by omega, rfl, hinv.trans (firstE_step hi2 (by rw [ctrE_yes (by assumption)]; assumption)), by rw [← knames_snoc hi2]; exact ho85, hs86.tail⟩
        ·
         try simp only [zA, zB, zC, zD, zE, zF] at h69
         refine w_exit ?_
         refine q_then_exit ?_
         refine q_then_exit ?_
         refine q_blk_this ?_
         refine q_then (hK58 _ _ ?_)
         refine w_seq (fun K108 hK107 => ?_)
         refine w_region ?_
         refine w_p (y_assign (v := _) rfl rfl) rfl ?_
         refine w_p (y_assign (v := _) rfl rfl) rfl ?_
         refine w_p (y_assign (v := _) rfl rfl) rfl ?_
         refine w_nil ?_
         refine q_then (hK107 _ _ ?_)
         refine w_ret ?_
         refine q_ret (l := [.tmp 2, .tmp 3, .tmp 4]) (vs := [_, _, _]) rfl ⟨⟨rfl, show _ = (.int _ _ : Value) from rfl⟩, ⟨rfl, show _ = (.int _ _ : Value) from rfl⟩, ⟨rfl, show _ = (.int _ _ : Value) from rfl⟩, trivial⟩ ?_
         first
           | contradiction
           | exact ⟨tup3 (chk_1 (by assumption)), hs.tail.drop⟩
           | exact ⟨tup3 (chk_h (by assumption) (fail_most (by omega)) (by decide)), hs.tail.drop⟩
           | (refine ⟨tup3 (chk_h (by assumption) ((fail_go (by omega)).trans (hinv.trans (firstE_stop hi2 (by assumption)))) (by assumption)), hs.tail.drop⟩)
           | exact ⟨tup3 (chk_c (by assumption) (by rw [fail_go (by omega), hhe]) (fail_most (by omega)) (by decide)), hs.tail.drop⟩
           | (refine ⟨tup3 (chk_c (by assumption) (by rw [fail_go (by omega), hhe]) ((fail_go (by omega)).trans (hinv.trans ((firstE_stop hi2 ?_).trans ?_))) ?_), hs.tail.drop⟩
              · rw [ctrE_no (by assumption)]; assumption
              · rw [ctrE_no (by assumption)]
              · assumption)
           | (refine ⟨tup3 (chk_c (by assumption) (by rw [fail_go (by omega), hhe]) ((fail_go (by omega)).trans (hinv.trans ((firstE_stop hi2 ?_).trans ?_))) ?_), hs.tail.drop⟩
              · rw [ctrE_yes (by assumption)]; assumption
              · rw [ctrE_yes (by assumption)]
              · assumption)
           | exact ⟨tup3 (chk_0 (by assumption) (by rw [fail_go (by omega), hhe]) (by rw [fail_go (by omega), hinv.trans (firstE_end (by omega) _)])), hs.tail.drop⟩

end Go.Proofs
/- The walking engine, part 20: lookups in maps whose values are told by their keys. No conditions. -/
set_option linter.unusedSimpArgs false
set_option linter.unusedVariables false
set_option linter.unusedSectionVars false
namespace Go.Rt
open Go.RowKit
variable {P : Program} {n : Nat} {ρ : Nat → Value} {ds : List Deferred} {w w0 : World} {L : List (Nat × Obj)} {d : Option Tmp} {ty : TypeId} {p : String} {e : Array Edge} {g : Option (Nat × Bool)} {α : Type} [DecidableEq α] {kv : α → Value} {ok : α → Prop}
theorem getA_key {a : α} {l : List (α × Value × Nat)} : getA a l = none ↔ a ∉ l.map (·.1) := by
  rw [getA_none]
  constructor
  · intro h hm
    obtain ⟨q, hq, e⟩ := List.mem_map.1 hm
    exact h q hq e
  · intro h q hq e
    exact h (e ▸ List.mem_map_of_mem (f := fun x : α × Value × Nat => x.1) hq)
/-- A lookup in a map whose values are told by their keys, and by the zero where there is none. -/
theorem G_look2V {mt kt el : TypeId} {x y : Operand} {a : α} {l : List (α × Value × Nat)} {m i ck : Nat} (V : α → Value) (hU : P.underlying mt = some (.map kt el)) (hK : KeyG P kt kv ok) (hok : ok a) (hall : ∀ q ∈ l, ok q.1) (hV : ∀ q ∈ l, q.2.1 = V q.1)
    (hz : a ∉ l.map (·.1) → ∀ w, (zeroValue el).run P w = .ok (V a) w) (hst : St w0 w L) (ho : okO n x = true) (ho1 : okO n y = true) (hx : ev ρ x = .map (some m)) (hy : ev ρ y = kv a) (hi : L[i]? = some (m, .map (ents kv l).toArray ck)) :
    Yd P (A n ρ ds) ⟨d, .lookup mt x y true, ty, p, e, g⟩ w (.tuple #[V a, .bool (decide (a ∈ l.map (·.1)))]) := by
  cases hg : getA a l with
  | none =>
    have hn := getA_key.1 hg
    have := G_look2N (d := d) (ty := ty) (p := p) (e := e) (g := g) (ds := ds) hU hK hok hall (hz hn) hst ho ho1 hx hy hi hg
    rw [decide_eq_false hn]; exact this
  | some u =>
    have := G_look2S (d := d) (ty := ty) (p := p) (e := e) (g := g) (ds := ds) hU hK hok hall hst ho ho1 hx hy hi hg
    obtain ⟨q, hq, h1, h2⟩ := getA_in hg
    have hm : a ∈ l.map (·.1) := h1 ▸ List.mem_map_of_mem (f := fun x : α × Value × Nat => x.1) hq
    rw [decide_eq_true hm]
    have h3 := hV q hq
    rw [h1] at h3
    rw [← h3, h2]; exact this
/-- Keys that are arrays of ints. -/
theorem keyTy_array {t el : TypeId} {k : Nat} (hu : P.underlying t = some (.array k el)) (hel : P.underlying el = some (.int .i64)) (hs : ∀ w, (sizeOf el).run P w = .ok 1 w) (hf : flatInts P t k = true) : KeyTy P t k where
  chk := fun em l w hl => by
    unfold ia
    exact run_checkKey (dd := 9998) hu (by first | simpa using hl | omega) hel hs
  eq := fun l m w hl hm => by
    show (Op.equalIn (9998 + 2) t (ia l) (ia m)).run P w = _
    exact run_equal_flat 9998 (by rw [hl]; exact hf) (by rw [hl, hm])
  desc := by
    refine ⟨_, hu, fun l e es => ?_, fun l w => ?_⟩
    · simp [Instr.findNow, Instr.sameNow]
    · simp [Instr.findKey, Sem.run_bind, run_underlying hu, Result.andThen, Instr.findNow]
/-- One cell of one row set anew. -/
theorem flat_set {sz k : Nat} {v : Value} (hk : k < sz) : ∀ {rows : List (List Value)} {i : Nat}, (∀ row ∈ rows, row.length = sz) → (hi : i < rows.length) → rows.flatten.set (i * sz + k) v = (rows.set i (rows[i].set k v)).flatten
  | r :: rows, 0, hr, _ => by
    have h1 := hr r (.head _)
    simp only [List.flatten_cons, List.set_cons_zero, List.getElem_cons_zero, Nat.zero_mul, Nat.zero_add]
    rw [List.set_append_left _ _ (by omega)]
  | r :: rows, i + 1, hr, hi => by
    have h1 := hr r (.head _)
    simp only [List.flatten_cons, List.set_cons_succ, List.getElem_cons_succ]
    rw [List.set_append_right _ _ (by rw [h1, Nat.succ_mul]; omega), h1, show (i + 1) * sz + k - sz = i * sz + k by rw [Nat.succ_mul]; omega]
    rw [flat_set hk (fun x hx => hr x (.tail _ hx)) (by simpa using hi)]
theorem take_cell {cs : List Value} {rows : List (List Value)} {n sz i k : Nat} {v : Value} (hk : k < sz) (hr : ∀ row ∈ rows, row.length = sz) (hi : i < rows.length) (h : cs.take (n * sz) = rows.flatten) : (cs.set (i * sz + k) v).take (n * sz) = (rows.set i (rows[i].set k v)).flatten := by
  rw [List.take_set, h, flat_set hk hr hi]
theorem own_some2 {t : TypeId} {sz n c : Nat} {a : Option Addr} {xs : List Value} {B : List (Nat × Obj)} (h : Own (.slice a n c) t sz n xs B) (hn : 0 < n) : ∃ b cs, a = some ⟨b, 0, none⟩ ∧ B = [(b, blk t cs)] ∧ n ≤ c ∧ c ≤ maxLen ∧ cs.length = c * sz ∧ cs.take (n * sz) = xs := by
  rcases h.2 with ⟨_, h0, _⟩ | ⟨b, cap, cs, h1, h2, h3, h4, h5, h6⟩
  · omega
  · injection h1 with e1 _ e3
    subst e3
    exact ⟨b, cs, e1, h2, h3, h4, h5, h6⟩
theorem own_mk {t : TypeId} {sz n c b : Nat} {xs cs : List Value} (hl : xs.length = n * sz) (h3 : n ≤ c) (h4 : c ≤ maxLen) (h5 : cs.length = c * sz) (h6 : cs.take (n * sz) = xs) : Own (.slice (some ⟨b, 0, none⟩) n c) t sz n xs [(b, blk t cs)] := ⟨hl, .inr ⟨b, c, cs, rfl, rfl, h3, h4, h5, h6⟩⟩
end Go.Rt
/- Walks of this seat, printed by gen.py over the engine: what each function returns, in whatever world. No conditions but those of each contract. -/
set_option linter.unusedVariables false
set_option linter.unusedSimpArgs false
set_option maxRecDepth 20000
namespace Go.Proofs
open Go.Rt Go.Rt.Ch
open Go.Rt.Ha (firstE firstE_step firstE_stop firstE_end failE nameE felt spanL upto span_mem listL fewest fewTo bit before fewStep drop_lt drop_get drop_next drop_done drop_notin set_take set_zero take_less)
attribute [local irreducible] WL WC Con Yd At Ats Sl Agree DW
theorem sl_boolsR {w0 : World} {F : List (Nat × Obj)} {a : Option Addr} {l : List Bool} {i : Nat} (h : Sl w0 F a 1 (l.map fun x => [Value.bool x])) (hi : i < l.length) : ∃ b off, a = some ⟨b, off, none⟩ ∧ Ats w0 F b (off + i * 1) [.bool l[i]] := by
  obtain ⟨b, off, ha, _, hat⟩ := h.at (i := i) (row := [.bool l[i]]) (by simp [hi])
  exact ⟨b, off, ha, hat⟩
end Go.Proofs
/- Walks of this seat, printed by gen.py over the engine: what each function returns, in whatever world. No conditions but those of each contract. -/
set_option linter.unusedVariables false
set_option linter.unusedSimpArgs false
set_option maxRecDepth 20000
namespace Go.Proofs
open Go.Rt Go.Rt.Ch
open Go.Rt.Ha (firstE firstE_step firstE_stop firstE_end failE nameE felt spanL upto span_mem listL fewest fewTo bit before fewStep drop_lt drop_get drop_next drop_done drop_notin set_take set_zero take_less)
attribute [local irreducible] WL WC Con Yd At Ats Sl Agree DW

theorem Try_info4 : Try.prog.info? 4 = some Try.t4 := by kernel_rfl
end Go.Proofs
/- Walks of this seat, printed by gen.py over the engine: what each function returns, in whatever world. No conditions but those of each contract. -/
set_option linter.unusedVariables false
set_option linter.unusedSimpArgs false
set_option maxRecDepth 20000
namespace Go.Proofs
open Go.Rt Go.Rt.Ch
open Go.Rt.Ha (firstE firstE_step firstE_stop firstE_end failE nameE felt spanL upto span_mem listL fewest fewTo bit before fewStep drop_lt drop_get drop_next drop_done drop_notin set_take set_zero take_less Lot Bunch feltTo fTo fPart felt_zero felt_step fTo_succ fTo_len fPart_succ fPart_len fPart_all filt_yes filt_no upto_len at_ someOf choicesTo)
attribute [local irreducible] WL WC Con Yd At Ats Sl Agree DW
/-- Slices of integers, as values: what each reads as. -/
def EL (w0 : World) (L : List (Nat × Obj)) (vs : List Value) (ll : List (List Int)) : Prop :=
  vs.length = ll.length ∧ ∀ k (h : k < ll.length), ∃ b c, vs[k]? = some (.slice b ll[k].length c) ∧ Sl w0 L b 1 (ll[k].map fun x => [Value.int .i64 x]) ∧ (b = none → c = 0)
theorem EL.mono {w0 : World} {L L' : List (Nat × Obj)} {vs : List Value} {ll : List (List Int)} (h : EL w0 L vs ll) (hs : ∀ w, St w0 w L' → St w0 w L) : EL w0 L' vs ll :=
  ⟨h.1, fun k hk => by obtain ⟨b, c, h1, h2, h3⟩ := h.2 k hk; exact ⟨b, c, h1, h2.mono hs, h3⟩⟩
theorem EL.cons {w0 : World} {L : List (Nat × Obj)} {x : Nat × Obj} {vs : List Value} {ll : List (List Int)} (h : EL w0 L vs ll) : EL w0 (x :: L) vs ll := h.mono fun _ h => h.tail
theorem EL.app {w0 : World} {L B : List (Nat × Obj)} {vs : List Value} {ll : List (List Int)} (h : EL w0 L vs ll) : EL w0 (B ++ L) vs ll := h.mono fun _ h => h.drop
theorem EL.top {w0 : World} {B F : List (Nat × Obj)} {vs : List Value} {ll : List (List Int)} (h : EL w0 B vs ll) : EL w0 (B ++ F) vs ll := h.mono fun _ h => h.front
theorem EL.nil (w0 : World) (L : List (Nat × Obj)) : EL w0 L [] [] := ⟨rfl, fun k h => by simp at h⟩
theorem EL.snoc {w0 : World} {L : List (Nat × Obj)} {vs : List Value} {ll : List (List Int)} {b : Option Addr} {c : Nat} {l : List Int} (h : EL w0 L vs ll) (hl : Sl w0 L b 1 (l.map fun x => [Value.int .i64 x])) (hn : b = none → c = 0) : EL w0 L (vs ++ [.slice b l.length c]) (ll ++ [l]) := by
  refine ⟨by simp [h.1], fun k hk => ?_⟩
  rw [List.length_append, List.length_singleton] at hk
  by_cases hkl : k < ll.length
  · obtain ⟨b', c', h1, h2, h3⟩ := h.2 k hkl
    refine ⟨b', c', ?_, ?_, h3⟩
    · rw [List.getElem?_append_left (by rw [h.1]; exact hkl), h1, List.getElem_append_left hkl]
    · rw [List.getElem_append_left hkl]; exact h2
  · have : k = ll.length := by omega
    subst this
    refine ⟨b, c, ?_, ?_, hn⟩
    · rw [List.getElem?_append_right (by rw [h.1]; omega), h.1]; simp
    · simpa using hl
theorem ats_ofK {w0 w : World} {L : List (Nat × Obj)} {i b : Nat} {t : TypeId} {cs vs : List Value} (hs : St w0 w L) (hi : L[i]? = some (b, blk t cs)) (h : (cs.drop 0).take vs.length = vs) : Ats w0 L b 0 vs := ats_own hi h
theorem kq_own {w0 w : World} {B F : List (Nat × Obj)} {a : Nat × Obj} (h : St w0 w (B ++ (a :: F))) : St w0 w (B ++ F) := (h.perm (perm_mid B [a] F)).tail
end Go.Proofs
/- Walks of this seat, printed by gen.py over the engine: what each function returns, in whatever world. No conditions but those of each contract. -/
set_option linter.unusedVariables false
set_option linter.unusedSimpArgs false
set_option maxRecDepth 20000
namespace Go.Proofs
open Go.Rt Go.Rt.Ch
open Go.Rt.Ha (firstE firstE_step firstE_stop firstE_end failE nameE felt spanL upto span_mem listL fewest fewTo bit before fewStep drop_lt drop_get drop_next drop_done drop_notin set_take set_zero take_less Lot Bunch feltTo fTo fPart felt_zero felt_step fTo_succ fTo_len fPart_succ fPart_len fPart_all filt_yes filt_no upto_len at_ someOf choicesTo)
attribute [local irreducible] WL WC Con Yd At Ats Sl Agree DW
theorem c37 {w0 w : World} {F : List (Nat × Obj)} (b : Board) (p : AtB) (hm : BIn w0 F b p) (hlh : b.hours.length ≤ 4) (al : Option Addr) (cl : Nat) (l : List Int) (hll : l.length = b.hours.length) (hl40 : ∀ k, 0 ≤ ld l k ∧ ld l k ≤ 40) (hl : Sl w0 F al 1 (l.map fun x => [Value.int .i64 x])) (hold : Int) (hs : St w0 w F) :
  Con Try.prog 37 [.agg (b.cells p).toArray, .slice al l.length cl, .int .i64 hold] w fun v w' => v = .int .i64 (inH b hold l) ∧ St w0 w' F := by
  refine con_of_wc (n := 30) Try.func37 rfl rfl (Nat.le_of_ble_eq_true rfl) ?_
  refine w_seq (fun K2 hK1 => ?_)
  refine w_region ?_
  refine w_box (v := .agg #[.int _ _, .slice _ _ _, .slice _ _ _]) (cs := [_, _, _]) want_none rfl rfl rfl hs (fun b3 w4 hs5 => ?_)
  refine w_p (y_assign (v := _) rfl rfl) rfl ?_
  refine w_nil ?_
  refine q_then (hK1 _ _ ?_)
  refine w_seq (fun K7 hK6 => ?_)
  refine w_region ?_
  refine w_p (y_assign (v := _) rfl rfl) rfl ?_
  refine w_nil ?_
  refine q_then (hK6 _ _ ?_)
  refine w_seq (fun K9 hK8 => ?_)
  refine w_seq (fun K11 hK10 => ?_)
  refine w_region ?_
  refine w_p (y_assign (v := _) rfl rfl) rfl ?_
  refine w_nil ?_
  refine q_then (hK10 _ _ ?_)
  refine w_block ?_
  refine w_loop [7, 8, 9, 10, 11, 12, 13, 14, 15, 16, 17, 18, 19, 20, 21, 22, 23, 24, 25, 26, 27, 28] [7, 8] (fun kk vs w => ∃ k : Nat, vs = [.int .i64 (inTo b l hold k), .int .i64 k] ∧ k ≤ l.length ∧ kk = l.length - k ∧ St w0 w ((b3, blk 25 (b.cells p)) :: F)) (l.length) ?_ ?_
  ·
   exact ⟨0, rfl, by omega, by omega, hs5⟩
  ·
   intro k vs μ w14 hI K13 hN12
   obtain ⟨k, rfl, hka, rfl, hs⟩ := hI
   refine w_seq (fun K16 hK15 => ?_)
   refine w_seq (fun K18 hK17 => ?_)
   refine w_region ?_
   refine w_p (y_move (v := .int _ _) rfl rfl) rfl ?_
   refine w_p (y_move (v := .slice _ _ _) rfl rfl) rfl ?_
   refine w_p (y_lenS Try.underlying39 rfl rfl) rfl ?_
   refine w_p (y_lss rfl rfl rfl rfl) rfl ?_
   refine w_nil ?_
   refine q_then (hK17 _ _ ?_)
   refine w_cond rfl rfl (fun h19 => ?_) (fun h19 => ?_)
   ·
    try simp only [zA, zB, zC, zD, zE, zF] at h19
    refine w_skip ?_
    refine q_then (hK15 _ _ ?_)
    refine w_seq (fun K21 hK20 => ?_)
    refine w_block ?_
    refine w_seq (fun K23 hK22 => ?_)
    have hk2 : k < b.hours.length := by omega
    obtain ⟨bx, ox, hbx, hx⟩ := sl_hrows hm.h hk2
    have hib := in_bound (h := hold) (b := b) hl40 k
    have hlk := hl40 k
    obtain ⟨bl, ol, hbl, hxl⟩ := sl_ints hl (show k < l.length by omega)
    subst hbl
    rw [← ld_at (show k < l.length by omega)] at hxl
    refine w_region ?_
    refine w_p (y_fieldAddr (o := 1) (i := 1) Try.underlying25 rfl Try.sizeOf22 rfl rfl rfl) rfl ?_
    refine w_p (yd_slice hbx (y_load1 Try.isAgg22 hs rfl rfl (ats_own (i := 0) (vs := [_]) rfl rfl))) rfl ?_
    refine w_p (y_move (v := .int _ _) rfl rfl) rfl ?_
    refine w_p (y_indexS Try.underlying22 Try.sizeOf70 rfl rfl rfl rfl (i := k) rfl hk2) rfl ?_
    refine w_p (y_fieldAddr (o := 0) (i := 0) Try.underlying70 rfl Try.sizeOf3 rfl rfl rfl) rfl ?_
    refine w_p (y_load1 Try.isAgg3 hs.tail rfl rfl (show Ats _ _ _ _ [_] from Ats.part hx 0 1)) rfl ?_
    refine w_p (y_move (v := .int _ _) rfl rfl) rfl ?_
    refine w_p (y_eql rfl rfl rfl rfl) rfl ?_
    refine w_nil ?_
    refine q_then (hK22 _ _ ?_)
    refine w_cond rfl rfl (fun h24 => ?_) (fun h24 => ?_)
    ·
     try simp only [zA, zB, zC, zD, zE, zF] at h24
     refine w_region ?_
     refine w_p (y_move (v := .int _ _) rfl rfl) rfl ?_
     refine w_p (y_move (v := .slice _ _ _) rfl rfl) rfl ?_
     refine w_p (y_move (v := .int _ _) rfl rfl) rfl ?_
     refine w_p (y_indexS Try.underlying39 Try.sizeOf3 rfl rfl rfl rfl (i := k) rfl (by omega)) rfl ?_
     refine w_p (y_load1 Try.isAgg3 hs.tail rfl rfl hxl) rfl ?_
     refine w_p (y_add rfl rfl rfl rfl (by omega) (by omega)) rfl ?_
     refine w_p (y_assign (v := .int _ _) rfl rfl) rfl ?_
     refine w_nil ?_
     refine q_blk_normal ?_
     refine q_then (hK20 _ _ ?_)
     refine w_region ?_
     refine w_p (y_move (v := .int _ _) rfl rfl) rfl ?_
     refine w_p (y_add rfl rfl rfl rfl (by omega) (by omega)) rfl ?_
     refine w_p (y_assign (v := .int _ _) rfl rfl) rfl ?_
     refine w_nil ?_
     refine q_then (hN12 _ _ (Nx.intro (l.length - (k + 1)) (by omega) (by repeat (first | exact agree_mix | refine agree_upd rfl ?_ | refine agree_updL rfl ?_ _ | refine agree_mixin rfl ?_)) ?_))
     first
       | exact ⟨k + 1, iv2 (in_no hk2 (by assumption)).symm rfl, by omega, rfl, hs⟩
       | exact ⟨k + 1, iv2 (in_yes hk2 (by assumption)).symm rfl, by omega, rfl, hs⟩
    ·
     try simp only [zA, zB, zC, zD, zE, zF] at h24
     refine w_skip ?_
     refine q_blk_normal ?_
     refine q_then (hK20 _ _ ?_)
     refine w_region ?_
     refine w_p (y_move (v := .int _ _) rfl rfl) rfl ?_
     refine w_p (y_add rfl rfl rfl rfl (by omega) (by omega)) rfl ?_
     refine w_p (y_assign (v := .int _ _) rfl rfl) rfl ?_
     refine w_nil ?_
     refine q_then (hN12 _ _ (Nx.intro (l.length - (k + 1)) (by omega) (by repeat (first | exact agree_mix | refine agree_upd rfl ?_ | refine agree_updL rfl ?_ _ | refine agree_mixin rfl ?_)) ?_))
     first
       | exact ⟨k + 1, iv2 (in_no hk2 (by assumption)).symm rfl, by omega, rfl, hs⟩
       | exact ⟨k + 1, iv2 (in_yes hk2 (by assumption)).symm rfl, by omega, rfl, hs⟩
   ·
    try simp only [zA, zB, zC, zD, zE, zF] at h19
    refine w_exit ?_
    refine q_then_exit ?_
    refine q_then_exit ?_
    refine q_blk_this ?_
    refine q_then (hK8 _ _ ?_)
    refine w_seq (fun K26 hK25 => ?_)
    refine w_region ?_
    refine w_p (y_move (v := .int _ _) rfl rfl) rfl ?_
    refine w_p (y_assign (v := .int _ _) rfl rfl) rfl ?_
    refine w_nil ?_
    refine q_then (hK25 _ _ ?_)
    refine w_ret ?_
    refine q_ret (l := [.tmp 6]) (vs := [_]) rfl ⟨⟨rfl, show _ = (.int _ _ : Value) from rfl⟩, trivial⟩ ?_
    have hkn : k = b.hours.length := by omega
    subst hkn
    exact ⟨rfl, hs.tail⟩

end Go.Proofs
/- Walks of this seat, printed by gen.py over the engine: what each function returns, in whatever world. No conditions but those of each contract. -/
set_option linter.unusedVariables false
set_option linter.unusedSimpArgs false
set_option maxRecDepth 20000
namespace Go.Proofs
open Go.Rt Go.Rt.Ch
open Go.Rt.Ha (firstE firstE_step firstE_stop firstE_end failE nameE felt spanL upto span_mem listL fewest fewTo bit before fewStep drop_lt drop_get drop_next drop_done drop_notin set_take set_zero take_less Lot Bunch feltTo fTo fPart felt_zero felt_step fTo_succ fTo_len fPart_succ fPart_len fPart_all filt_yes filt_no upto_len at_ someOf choicesTo)
attribute [local irreducible] WL WC Con Yd At Ats Sl Agree DW

end Go.Proofs
/- Walks of this seat, printed by gen.py over the engine: what each function returns, in whatever world. No conditions but those of each contract. -/
set_option linter.unusedVariables false
set_option linter.unusedSimpArgs false
set_option maxRecDepth 20000
namespace Go.Proofs
open Go.Rt Go.Rt.Ch
open Go.Rt.Ha (firstE firstE_step firstE_stop firstE_end failE nameE felt spanL upto span_mem listL fewest fewTo bit before fewStep drop_lt drop_get drop_next drop_done drop_notin set_take set_zero take_less Lot Bunch feltTo fTo fPart felt_zero felt_step fTo_succ fTo_len fPart_succ fPart_len fPart_all filt_yes filt_no upto_len at_ someOf choicesTo)
attribute [local irreducible] WL WC Con Yd At Ats Sl Agree DW
end Go.Proofs
/- Walks of this seat, printed by gen.py over the engine: what each function returns, in whatever world. No conditions but those of each contract. -/
set_option linter.unusedVariables false
set_option linter.unusedSimpArgs false
set_option maxRecDepth 20000
namespace Go.Proofs
open Go.Rt Go.Rt.Ch
open Go.Rt.Ha (firstE firstE_step firstE_stop firstE_end failE nameE felt spanL upto span_mem listL fewest fewTo bit before fewStep drop_lt drop_get drop_next drop_done drop_notin set_take set_zero take_less Lot Bunch feltTo fTo fPart felt_zero felt_step fTo_succ fTo_len fPart_succ fPart_len fPart_all filt_yes filt_no upto_len at_ someOf choicesTo cfind_here cfind_next cfind_on choices_fin pick_idx pickL_in find_on find_next)
attribute [local irreducible] WL WC Con Yd At Ats Sl Agree DW

theorem c34 {w0 w : World} {F : List (Nat × Obj)} (b : Board) (p : AtB) (hm : BIn w0 F b p)  (hs : St w0 w F) :
  Con Try.prog 34 [.agg (b.cells p).toArray] w fun v w' => v = .bool (decide ((check b).2.2 = 0)) ∧ St w0 w' F := by
  refine con_of_wc (n := 14) Try.func34 rfl rfl (Nat.le_of_ble_eq_true rfl) ?_
  refine w_seq (fun K2 hK1 => ?_)
  refine w_region ?_
  refine w_box (v := .agg #[.int _ _, .slice _ _ _, .slice _ _ _]) (cs := [_, _, _]) want_none rfl rfl rfl hs (fun b3 w4 hs5 => ?_)
  refine w_p (y_assign (v := _) rfl rfl) rfl ?_
  refine w_nil ?_
  refine q_then (hK1 _ _ ?_)
  refine w_seq (fun K7 hK6 => ?_)
  refine w_region ?_
  refine w_p (y_loadN (vs := [_, _, _]) Try.isAgg25 Try.sizeOf25 hs5 rfl rfl (ats_own (i := 0) (vs := [_, _, _]) rfl rfl)) rfl ?_
  refine w_call want_none Try.call17 rfl rfl rfl rfl (c17 b p hm.cons hs5) ?_
  rintro _ w9 ⟨rfl, hs10⟩
  refine w_p (y_move (v := .tuple _) rfl rfl) rfl ?_
  refine w_p (y_extract (v := .int _ _) rfl rfl rfl) rfl ?_
  refine w_p (y_extract (v := .int _ _) rfl rfl rfl) rfl ?_
  refine w_p (y_extract (v := .int _ _) rfl rfl rfl) rfl ?_
  refine w_p (y_assign (v := .int _ _) rfl rfl) rfl ?_
  refine w_p (y_assign (v := .int _ _) rfl rfl) rfl ?_
  refine w_p (y_assign (v := .int _ _) rfl rfl) rfl ?_
  refine w_nil ?_
  refine q_then (hK6 _ _ ?_)
  refine w_seq (fun K12 hK11 => ?_)
  refine w_region ?_
  refine w_p (y_move (v := .int _ _) rfl rfl) rfl ?_
  refine w_p (y_eql rfl rfl rfl rfl) rfl ?_
  refine w_p (y_assign (v := .bool _) rfl rfl) rfl ?_
  refine w_nil ?_
  refine q_then (hK11 _ _ ?_)
  refine w_ret ?_
  refine q_ret (l := [.tmp 2]) (vs := [_]) rfl ⟨⟨rfl, show _ = (.bool _ : Value) from rfl⟩, trivial⟩ ?_
  exact ⟨rfl, hs10.tail⟩

end Go.Proofs
/- Walks of this seat, printed by gen.py over the engine: what each function returns, in whatever world. No conditions but those of each contract. -/
set_option linter.unusedVariables false
set_option linter.unusedSimpArgs false
set_option maxRecDepth 20000
namespace Go.Proofs
open Go.Rt Go.Rt.Ch
open Go.Rt.Ha (firstE firstE_step firstE_stop firstE_end failE nameE felt spanL upto span_mem listL fewest fewTo bit)
attribute [local irreducible] WL WC Con Yd At Ats Sl Agree DW
theorem Try_D_fb1 (x0 : Int) (w : World) : (Instr.buildSlice 39 1 [(0, .int .i64 x0)].toArray).run Try.prog w = .ok (.slice (some ⟨w.heap.size, 0, none⟩) 1 1) (w.alloc (Go.Rt.blk 3 [.int .i64 x0])) := by kernel_rfl
theorem ats_of {w0 w : World} {L : List (Nat × Obj)} {i b : Nat} {t : TypeId} {cs vs : List Value} (hs : St w0 w L) (hi : L[i]? = some (b, blk t cs)) (h : (cs.drop 0).take vs.length = vs) : Ats w0 L b 0 vs := ats_own hi h
theorem c16 {w0 w : World} {F : List (Nat × Obj)} (b : Board) (p : AtB) (hm : BIn w0 F b p)  (hs : St w0 w F) :
  Con Try.prog 16 [.agg (b.cells p).toArray] w fun v w' => v = .tuple #[.int .i64 (check b).1, .int .i64 (check b).2.1, .int .i64 (check b).2.2] ∧ St w0 w' F := by
  refine con_of_wc (n := 45) Try.func16 rfl rfl (Nat.le_of_ble_eq_true rfl) ?_
  have hlh := hm.lh
  have hlc := hm.lc
  refine w_seq (fun K2 hK1 => ?_)
  refine w_region ?_
  refine w_box (v := .agg #[.int _ _, .slice _ _ _, .slice _ _ _]) (cs := [_, _, _]) want_none rfl rfl rfl hs (fun b3 w4 hs5 => ?_)
  refine w_p (y_assign (v := _) rfl rfl) rfl ?_
  refine w_p (y_assign (v := _) rfl rfl) rfl ?_
  refine w_p (y_assign (v := _) rfl rfl) rfl ?_
  refine w_nil ?_
  refine q_then (hK1 _ _ ?_)
  refine w_seq (fun K7 hK6 => ?_)
  refine w_region ?_
  refine w_p (y_fieldAddr (o := 1) (i := 1) Try.underlying25 rfl Try.sizeOf22 rfl rfl rfl) rfl ?_
  refine w_p (y_load1 Try.isAgg22 hs5 rfl rfl (ats_own (i := 0) (vs := [_]) rfl rfl)) rfl ?_
  refine w_p (y_lenS Try.underlying22 rfl rfl) rfl ?_
  refine w_alloc (cs := [_]) want_none Try.zeroValue3 rfl hs5 (fun b8 w9 hs10 => ?_)
  refine w_store (i := 0) (v := .int _ _) (vs := [_]) want_none Try.sizeOf3 rfl rfl rfl rfl rfl (by simp [Value.oneCell']) hs10 rfl (Nat.le_of_ble_eq_true rfl) (fun w11 hs12 => ?_)
  refine w_nil ?_
  refine q_then (hK6 _ _ ?_)
  refine w_seq (fun K14 hK13 => ?_)
  refine w_block ?_
  refine w_seq (fun K16 hK15 => ?_)
  have hbx := ats_of (i := 1) (vs := b.cells p) hs12 rfl rfl
  have hbn := ats_of (i := 0) (vs := [.int .i64 (b.hours.length : Int)]) hs12 rfl rfl
  refine w_region ?_
  refine w_p (y_fieldAddr (o := 0) (i := 0) Try.underlying25 rfl Try.sizeOf3 rfl rfl rfl) rfl ?_
  refine w_p (y_load1 Try.isAgg3 hs12 rfl rfl (show Ats _ _ _ _ [_] from Ats.part hbx 0 1)) rfl ?_
  refine w_bslice (ps := [(0, _)]) (pv := [(0, .int _ _)]) (cs := [_]) want_none rfl rfl (fun w => Try_D_fb1 _ w) hs12 (fun b17 w18 hs19 => ?_)
  refine w_call want_none Try.call51 rfl rfl rfl rfl (c51 _ _ _ [_] _ (by simp) (sl_own (i := 0) (rows := [[_]]) rfl (by simp) rfl) hs19) ?_
  rintro _ w21 ⟨rfl, hs22⟩
  refine w_p (y_assign (v := .bool _) rfl rfl) rfl ?_
  refine w_nil ?_
  refine q_then (hK15 _ _ ?_)
  refine w_cond rfl rfl (fun h23 => ?_) (fun h23 => ?_)
  ·
   try simp only [zA, zB, zC, zD, zE, zF] at h23
   refine w_seq (fun K25 hK24 => ?_)
   refine w_region ?_
   refine w_p (y_assign (v := _) rfl rfl) rfl ?_
   refine w_p (y_assign (v := _) rfl rfl) rfl ?_
   refine w_p (y_assign (v := _) rfl rfl) rfl ?_
   refine w_nil ?_
   refine q_then (hK24 _ _ ?_)
   refine w_ret ?_
   refine q_blk_ret ?_
   refine q_then_ret ?_
   refine q_ret (l := [.tmp 2, .tmp 3, .tmp 4]) (vs := [_, _, _]) rfl ⟨⟨rfl, show _ = (.int _ _ : Value) from rfl⟩, ⟨rfl, show _ = (.int _ _ : Value) from rfl⟩, ⟨rfl, show _ = (.int _ _ : Value) from rfl⟩, trivial⟩ ?_
   try simp only [List.any_cons, List.any_nil, Bool.or_false, Bool.or_eq_false_iff] at h23
   refine ⟨tup3 ?_, hs22.tail.tail.tail⟩; unfold check failE
   try have e1 : ¬ ((4:Int) < (b.hours.length : Int)) := by omega
   try have e2 : ¬ ((2:Int) < (b.ctrs.length : Int)) := by omega
   first
     | (simp [out_nat, h23, e1, e2]; done)
     | (simp [out_nat, h23, e1]; done)
     | (simp [out_nat, h23]; done)
  ·
   try simp only [zA, zB, zC, zD, zE, zF] at h23
   refine w_seq (fun K27 hK26 => ?_)
   refine w_region ?_
   refine w_p (y_load1 Try.isAgg3 hs22.tail rfl rfl hbn) rfl ?_
   refine w_p (y_gtr rfl rfl rfl rfl) rfl ?_
   refine w_p (y_assign (v := .bool _) rfl rfl) rfl ?_
   refine w_nil ?_
   refine q_then (hK26 _ _ ?_)
   refine w_cond rfl rfl (fun h28 => ?_) (fun h28 => ?_)
   ·
    try simp only [zA, zB, zC, zD, zE, zF] at h28
    refine w_seq (fun K30 hK29 => ?_)
    refine w_region ?_
    refine w_p (y_assign (v := _) rfl rfl) rfl ?_
    refine w_p (y_assign (v := _) rfl rfl) rfl ?_
    refine w_p (y_assign (v := _) rfl rfl) rfl ?_
    refine w_nil ?_
    refine q_then (hK29 _ _ ?_)
    refine w_ret ?_
    refine q_blk_ret ?_
    refine q_then_ret ?_
    refine q_ret (l := [.tmp 2, .tmp 3, .tmp 4]) (vs := [_, _, _]) rfl ⟨⟨rfl, show _ = (.int _ _ : Value) from rfl⟩, ⟨rfl, show _ = (.int _ _ : Value) from rfl⟩, ⟨rfl, show _ = (.int _ _ : Value) from rfl⟩, trivial⟩ ?_
    try simp only [List.any_cons, List.any_nil, Bool.or_false, Bool.or_eq_false_iff] at h23 h28
    refine ⟨tup3 ?_, hs22.tail.tail.tail⟩; unfold check failE
    try have e1 : ¬ ((4:Int) < (b.hours.length : Int)) := by omega
    try have e2 : ¬ ((2:Int) < (b.ctrs.length : Int)) := by omega
    first
      | (simp [out_nat, h23, h28, e1, e2]; done)
      | (simp [out_nat, h23, h28, e1]; done)
      | (simp [out_nat, h23, h28]; done)
   ·
    try simp only [zA, zB, zC, zD, zE, zF] at h28
    refine w_skip ?_
    refine q_blk_normal ?_
    refine q_then (hK13 _ _ ?_)
    refine w_seq (fun K32 hK31 => ?_)
    have hho : 1 ≤ b.holds ∧ b.holds ≤ 3 := by
      have hq : [b.holds].any (out 1 3) = false := by assumption
      simp [out] at hq; omega
    refine w_region ?_
    refine w_p (y_fieldAddr (o := 1) (i := 1) Try.underlying25 rfl Try.sizeOf22 rfl rfl rfl) rfl ?_
    refine w_p (y_load1 Try.isAgg22 hs22.tail rfl rfl (show Ats _ _ _ _ [_] from Ats.part hbx 1 1)) rfl ?_
    refine w_p (y_makeFunc (fv := []) (cv := [_]) rfl rfl rfl rfl) rfl ?_
    refine w_call want_none Try.call52 rfl rfl rfl rfl (c52 _ _ b.hours hlh hm.h.cons.cons.cons (.func (.func 53) #[] #[.pointer (some ⟨b3, 0, none⟩)]) (hourE b.holds) (fun i hi X w hs => fcon_fn Try.call53 (c53 b p hho i b.hours[i] _ b3 (Ats.app hbx.cons) hs)) hs22) ?_
    rintro _ w34 ⟨rfl, hs35⟩
    refine w_p (y_move (v := .tuple _) rfl rfl) rfl ?_
    refine w_p (y_extract (v := .int _ _) rfl rfl rfl) rfl ?_
    refine w_p (y_extract (v := .int _ _) rfl rfl rfl) rfl ?_
    refine w_p (y_assign (v := .int _ _) rfl rfl) rfl ?_
    refine w_p (y_assign (v := .int _ _) rfl rfl) rfl ?_
    refine w_nil ?_
    refine q_then (hK31 _ _ ?_)
    refine w_seq (fun K37 hK36 => ?_)
    refine w_block ?_
    refine w_seq (fun K39 hK38 => ?_)
    refine w_region ?_
    refine w_p (y_move (v := .int _ _) rfl rfl) rfl ?_
    refine w_p (y_neq rfl rfl rfl rfl) rfl ?_
    refine w_p (y_assign (v := .bool _) rfl rfl) rfl ?_
    refine w_nil ?_
    refine q_then (hK38 _ _ ?_)
    refine w_cond rfl rfl (fun h40 => ?_) (fun h40 => ?_)
    ·
     try simp only [zA, zB, zC, zD, zE, zF] at h40
     refine w_seq (fun K42 hK41 => ?_)
     refine w_region ?_
     refine w_p (y_move (v := .int _ _) rfl rfl) rfl ?_
     refine w_p (y_move (v := .int _ _) rfl rfl) rfl ?_
     refine w_p (y_assign (v := _) rfl rfl) rfl ?_
     refine w_p (y_assign (v := .int _ _) rfl rfl) rfl ?_
     refine w_p (y_assign (v := .int _ _) rfl rfl) rfl ?_
     refine w_nil ?_
     refine q_then (hK41 _ _ ?_)
     refine w_ret ?_
     refine q_blk_ret ?_
     refine q_then_ret ?_
     refine q_ret (l := [.tmp 2, .tmp 3, .tmp 4]) (vs := [_, _, _]) rfl ⟨⟨rfl, show _ = (.int _ _ : Value) from rfl⟩, ⟨rfl, show _ = (.int _ _ : Value) from rfl⟩, ⟨rfl, show _ = (.int _ _ : Value) from rfl⟩, trivial⟩ ?_
     try simp only [List.any_cons, List.any_nil, Bool.or_false, Bool.or_eq_false_iff] at h23 h28 h40
     refine ⟨tup3 ?_, hs35.tail.tail.tail⟩; unfold check failE
     try have e1 : ¬ ((4:Int) < (b.hours.length : Int)) := by omega
     try have e2 : ¬ ((2:Int) < (b.ctrs.length : Int)) := by omega
     first
       | (simp [out_nat, h23, h28, h40, e1, e2]; done)
       | (simp [out_nat, h23, h28, h40, e1]; done)
       | (simp [out_nat, h23, h28, h40]; done)
    ·
     try simp only [zA, zB, zC, zD, zE, zF] at h40
     refine w_seq (fun K44 hK43 => ?_)
     refine w_region ?_
     refine w_p (y_fieldAddr (o := 2) (i := 2) Try.underlying25 rfl Try.sizeOf23 rfl rfl rfl) rfl ?_
     refine w_p (y_load1 Try.isAgg23 hs35.tail rfl rfl (show Ats _ _ _ _ [_] from Ats.part hbx 2 1)) rfl ?_
     refine w_p (y_lenS Try.underlying23 rfl rfl) rfl ?_
     refine w_p (y_gtr rfl rfl rfl rfl) rfl ?_
     refine w_p (y_assign (v := .bool _) rfl rfl) rfl ?_
     refine w_nil ?_
     refine q_then (hK43 _ _ ?_)
     refine w_cond rfl rfl (fun h45 => ?_) (fun h45 => ?_)
     ·
      try simp only [zA, zB, zC, zD, zE, zF] at h45
      refine w_seq (fun K47 hK46 => ?_)
      refine w_region ?_
      refine w_p (y_assign (v := _) rfl rfl) rfl ?_
      refine w_p (y_assign (v := _) rfl rfl) rfl ?_
      refine w_p (y_assign (v := _) rfl rfl) rfl ?_
      refine w_nil ?_
      refine q_then (hK46 _ _ ?_)
      refine w_ret ?_
      refine q_blk_ret ?_
      refine q_then_ret ?_
      refine q_ret (l := [.tmp 2, .tmp 3, .tmp 4]) (vs := [_, _, _]) rfl ⟨⟨rfl, show _ = (.int _ _ : Value) from rfl⟩, ⟨rfl, show _ = (.int _ _ : Value) from rfl⟩, ⟨rfl, show _ = (.int _ _ : Value) from rfl⟩, trivial⟩ ?_
      try simp only [List.any_cons, List.any_nil, Bool.or_false, Bool.or_eq_false_iff] at h23 h28 h40 h45
      refine ⟨tup3 ?_, hs35.tail.tail.tail⟩; unfold check failE
      try have e1 : ¬ ((4:Int) < (b.hours.length : Int)) := by omega
      try have e2 : ¬ ((2:Int) < (b.ctrs.length : Int)) := by omega
      first
        | (simp [out_nat, h23, h28, h40, h45, e1, e2]; done)
        | (simp [out_nat, h23, h28, h40, h45, e1]; done)
        | (simp [out_nat, h23, h28, h40, h45]; done)
     ·
      try simp only [zA, zB, zC, zD, zE, zF] at h45
      refine w_skip ?_
      refine q_blk_normal ?_
      refine q_then (hK36 _ _ ?_)
      refine w_seq (fun K49 hK48 => ?_)
      refine w_region ?_
      refine w_p (y_fieldAddr (o := 2) (i := 2) Try.underlying25 rfl Try.sizeOf23 rfl rfl rfl) rfl ?_
      refine w_p (y_load1 Try.isAgg23 hs35.tail rfl rfl (show Ats _ _ _ _ [_] from Ats.part hbx 2 1)) rfl ?_
      refine w_p (y_makeFunc (fv := []) (cv := [_, _]) rfl rfl rfl rfl) rfl ?_
      refine w_call want_none Try.call54 rfl rfl rfl rfl (c54 _ _ b.ctrs p.pc hlc hm.c.cons.cons.cons (.func (.func 55) #[] #[.pointer (some ⟨b3, 0, none⟩), .pointer (some ⟨b8, 0, none⟩)]) (ctrE b.hours.length) (fun i hi X w hs => fcon_fn Try.call55 (c55 b p (BIn.app hm.cons.cons.cons) i hi b3 b8 (Ats.app hbx.cons) (Ats.app hbn.cons) hs)) hs35) ?_
      rintro _ w51 ⟨rfl, hs52⟩
      refine w_p (y_move (v := .tuple _) rfl rfl) rfl ?_
      refine w_p (y_extract (v := .int _ _) rfl rfl rfl) rfl ?_
      refine w_p (y_extract (v := .int _ _) rfl rfl rfl) rfl ?_
      refine w_p (y_assign (v := .int _ _) rfl rfl) rfl ?_
      refine w_p (y_assign (v := .int _ _) rfl rfl) rfl ?_
      refine w_nil ?_
      refine q_then (hK48 _ _ ?_)
      refine w_seq (fun K54 hK53 => ?_)
      refine w_seq (fun K56 hK55 => ?_)
      refine w_region ?_
      refine w_p (y_move (v := .int _ _) rfl rfl) rfl ?_
      refine w_p (y_neq rfl rfl rfl rfl) rfl ?_
      refine w_nil ?_
      refine q_then (hK55 _ _ ?_)
      refine w_cond rfl rfl (fun h57 => ?_) (fun h57 => ?_)
      ·
       try simp only [zA, zB, zC, zD, zE, zF] at h57
       refine w_seq (fun K59 hK58 => ?_)
       refine w_region ?_
       refine w_p (y_move (v := .int _ _) rfl rfl) rfl ?_
       refine w_p (y_move (v := .int _ _) rfl rfl) rfl ?_
       refine w_p (y_assign (v := _) rfl rfl) rfl ?_
       refine w_p (y_assign (v := .int _ _) rfl rfl) rfl ?_
       refine w_p (y_assign (v := .int _ _) rfl rfl) rfl ?_
       refine w_nil ?_
       refine q_then (hK58 _ _ ?_)
       refine w_ret ?_
       refine q_then_ret ?_
       refine q_ret (l := [.tmp 2, .tmp 3, .tmp 4]) (vs := [_, _, _]) rfl ⟨⟨rfl, show _ = (.int _ _ : Value) from rfl⟩, ⟨rfl, show _ = (.int _ _ : Value) from rfl⟩, ⟨rfl, show _ = (.int _ _ : Value) from rfl⟩, trivial⟩ ?_
       try simp only [List.any_cons, List.any_nil, Bool.or_false, Bool.or_eq_false_iff] at h23 h28 h40 h45 h57
       refine ⟨tup3 ?_, hs52.tail.tail.tail⟩; unfold check failE
       try have e1 : ¬ ((4:Int) < (b.hours.length : Int)) := by omega
       try have e2 : ¬ ((2:Int) < (b.ctrs.length : Int)) := by omega
       first
         | (simp [out_nat, h23, h28, h40, h45, h57, e1, e2]; done)
         | (simp [out_nat, h23, h28, h40, h45, h57, e1]; done)
         | (simp [out_nat, h23, h28, h40, h45, h57]; done)
      ·
       try simp only [zA, zB, zC, zD, zE, zF] at h57
       refine w_skip ?_
       refine q_then (hK53 _ _ ?_)
       refine w_seq (fun K61 hK60 => ?_)
       refine w_region ?_
       refine w_p (y_assign (v := _) rfl rfl) rfl ?_
       refine w_p (y_assign (v := _) rfl rfl) rfl ?_
       refine w_p (y_assign (v := _) rfl rfl) rfl ?_
       refine w_nil ?_
       refine q_then (hK60 _ _ ?_)
       refine w_ret ?_
       refine q_ret (l := [.tmp 2, .tmp 3, .tmp 4]) (vs := [_, _, _]) rfl ⟨⟨rfl, show _ = (.int _ _ : Value) from rfl⟩, ⟨rfl, show _ = (.int _ _ : Value) from rfl⟩, ⟨rfl, show _ = (.int _ _ : Value) from rfl⟩, trivial⟩ ?_
       try simp only [List.any_cons, List.any_nil, Bool.or_false, Bool.or_eq_false_iff] at h23 h28 h40 h45 h57
       refine ⟨tup3 ?_, hs52.tail.tail.tail⟩; unfold check failE
       try have e1 : ¬ ((4:Int) < (b.hours.length : Int)) := by omega
       try have e2 : ¬ ((2:Int) < (b.ctrs.length : Int)) := by omega
       first
         | (simp [out_nat, h23, h28, h40, h45, h57, e1, e2]; done)
         | (simp [out_nat, h23, h28, h40, h45, h57, e1]; done)
         | (simp [out_nat, h23, h28, h40, h45, h57]; done)

end Go.Proofs
