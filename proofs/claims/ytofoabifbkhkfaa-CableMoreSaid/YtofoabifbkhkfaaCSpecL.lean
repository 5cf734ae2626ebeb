/- Plain words of the cable layer: the reference and the laws (joined texts). No conditions. -/
import Derived.Test.YtofoabifbkhkfaaCSpec11
import Derived.Test.YtofoabifbkhkfaaCSpecEx
set_option linter.unusedSimpArgs false
set_option linter.unusedVariables false
namespace Go.Rt
theorem beforeL_asymm : ∀ (a b : List Int), beforeL a b = true → beforeL b a = false
  | [], _, h => by simp [beforeL] at h
  | _ :: _, [], h => by simp [beforeL] at h
  | x :: a, y :: b, h => by
    simp only [beforeL] at h ⊢
    by_cases e : x = y
    · subst e
      simp only [if_true] at h ⊢
      exact beforeL_asymm a b h
    · rw [if_neg e] at h
      rw [if_neg (Ne.symm e)]
      simp only [Bool.or_eq_true, Bool.and_eq_true, decide_eq_true_eq, Bool.not_eq_true', decide_eq_false_iff_not] at h
      simp only [Bool.or_eq_false_iff, Bool.and_eq_false_iff, decide_eq_false_iff_not, Bool.not_eq_false', decide_eq_true_eq]
      omega
theorem beforeL_first {pre : List Int} {x y a b : List Int} {d e : Int} (hx : x = pre ++ d :: a) (hy : y = pre ++ e :: b) (h : (decide (e = -1) || (!decide (d = -1) && decide (d < e))) = true) (hde : d ≠ e) : beforeL x y = true := by
  subst hx hy
  induction pre with
  | nil => simp only [List.nil_append, beforeL]; rw [if_neg hde]; exact h
  | cons z pre ih => simp only [List.cons_append, beforeL, if_true]; exact ih
theorem pair_flat {α β : Type} {R : β → β → Prop} {f : α → List β} {S : α → α → Prop} : ∀ (l : List α), l.Pairwise S → (∀ a ∈ l, (f a).Pairwise R) → (∀ a ∈ l, ∀ b ∈ l, S a b → ∀ x ∈ f a, ∀ y ∈ f b, R x y) → (l.flatMap f).Pairwise R
  | [], _, _, _ => by simp
  | a :: l, hn, h1, h2 => by
    rw [List.flatMap_cons, List.pairwise_append]
    rw [List.pairwise_cons] at hn
    refine ⟨h1 a (.head _), pair_flat l hn.2 (fun b hb => h1 b (.tail _ hb)) (fun b hb c hc => h2 b (.tail _ hb) c (.tail _ hc)), ?_⟩
    intro x hx y hy
    obtain ⟨b, hb, hyb⟩ := List.mem_flatMap.1 hy
    exact h2 a (.head _) b (.tail _ hb) (hn.1 b hb) x hx y hyb
def dayLt (d e : Int) : Prop := d ≠ e ∧ (decide (e = -1) || (!decide (d = -1) && decide (d < e))) = true
theorem dys_sorted (below : Nat) : (dys below).Pairwise dayLt := by
  unfold dys
  rw [List.pairwise_append]
  refine ⟨?_, by simp, ?_⟩
  · rw [List.pairwise_map]
    refine List.pairwise_lt_range.imp fun h => ?_
    unfold dayLt
    simp only [Bool.or_eq_true, Bool.and_eq_true, decide_eq_true_eq, Bool.not_eq_true', decide_eq_false_iff_not]
    omega
  · intro a ha b hb
    obtain ⟨k, _, rfl⟩ := List.mem_map.1 ha
    rw [List.mem_singleton] at hb
    subst hb
    refine ⟨by omega, by simp⟩
theorem seg_split {ds : List Int} {n : Nat} {pre x : List Int} (h : x ∈ seg ds n pre) : ∃ a, x = pre ++ a := ⟨x.drop pre.length, by
  have := seg_take n _ _ h
  conv => lhs; rw [← List.take_append_drop pre.length x, this]⟩
theorem seg_sorted {ds : List Int} (hd : ds.Pairwise dayLt) : ∀ (n : Nat) (pre : List Int), (seg ds n pre).Pairwise fun a b => beforeL a b = true
  | 0, pre => by simp [seg]
  | n + 1, pre => by
    simp only [seg]
    refine pair_flat ds hd (fun d _ => seg_sorted hd n _) ?_
    intro d _ e _ hde x hx y hy
    obtain ⟨a, rfl⟩ := seg_split hx
    obtain ⟨b, rfl⟩ := seg_split hy
    exact beforeL_first (pre := pre) (d := d) (e := e) (a := a) (b := b) (by simp) (by simp) hde.2 hde.1
theorem allC_sorted (below n : Nat) : (allC below n).Pairwise fun a b => beforeL a b = true := seg_sorted (dys_sorted below) n []
theorem doC_sorted (p : Port) : (doC p).Pairwise fun a b => beforeL a b = true := (allC_sorted _ _).sublist List.filter_sublist
/-- The reference's best cables. -/
def rsel (p : Port) (b l : List Int) : List Int := if before p l b then l else b
def rbUpto (p : Port) (L : List (List Int)) (i : Nat) : List Int := (L.take i).tail.foldl (rsel p) (L.headD [])
theorem rb_one {p : Port} {L : List (List Int)} (h : 0 < L.length) : rbUpto p L 1 = L[0] := by
  cases L with
  | nil => simp at h
  | cons x L => rfl
theorem rb_succ {p : Port} {L : List (List Int)} {i : Nat} (h1 : 1 ≤ i) (hi : i < L.length) : rbUpto p L (i + 1) = rsel p (rbUpto p L i) L[i] := by
  unfold rbUpto
  have : (L.take (i + 1)).tail = (L.take i).tail ++ [L[i]] := by
    rw [List.take_succ_eq_append_getElem hi]
    cases L with
    | nil => simp at hi
    | cons x L =>
      match i, h1 with
      | i + 1, _ => simp
  rw [this, List.foldl_append]; rfl
theorem rb_mem {p : Port} {L : List (List Int)} : ∀ {i : Nat}, 1 ≤ i → i ≤ L.length → ∃ j, j < i ∧ ∃ h : j < L.length, rbUpto p L i = L[j]
  | 1, _, hi => ⟨0, by omega, by omega, rb_one (by omega)⟩
  | i + 2, _, hi => by
    obtain ⟨j, h1, h2, h3⟩ := rb_mem (i := i + 1) (p := p) (L := L) (by omega) (by omega)
    rw [rb_succ (by omega) (by omega)]
    unfold rsel
    split
    · exact ⟨i + 1, by omega, by omega, rfl⟩
    · exact ⟨j, by omega, h2, h3⟩
theorem rb_in {p : Port} {L : List (List Int)} {i : Nat} (h : 1 ≤ i) (hi : i ≤ L.length) : rbUpto p L i ∈ L := by
  obtain ⟨j, _, h2, h3⟩ := rb_mem (p := p) h hi
  rw [h3]; exact List.getElem_mem h2
theorem cut_pad {fs : List Farm} {l : List Int} (h : l.length = fs.length) (h3 : fs.length ≤ 3) : cut fs (pad l) = cut fs l := by unfold cut; rw [zip_pad h h3]
theorem before_less {p : Port} {l b : List Int} (h : beforeL b l = true) : before p l b = less [vain p l, cut p.farms l] [vain p b, cut p.farms b] := by
  unfold before
  simp only [less]
  by_cases h1 : vain p l = vain p b
  · rw [if_pos h1, if_pos h1]
    by_cases h2 : cut p.farms l = cut p.farms b
    · rw [if_pos h2, if_pos h2, beforeL_asymm _ _ h]
    · rw [if_neg h2, if_neg h2]
  · rw [if_neg h1, if_neg h1]
theorem doP_length (p : Port) : (doP p).length = (doC p).length := by simp [doP]
theorem best_rb {p : Port} (hok : p.Ok) : ∀ {i : Nat}, 1 ≤ i → i ≤ (doC p).length → bestUpto p (doP p) i = ⟨true, pad (rbUpto p (doC p) i), vain p (rbUpto p (doC p) i), cut p.farms (rbUpto p (doC p) i)⟩
  | 1, _, hi => by
    have h0 : 0 < (doP p).length := by rw [doP_length]; omega
    have e : (doP p)[0] = pad (doC p)[0] := by simp [doP]
    have hl := do_len (List.getElem_mem (show 0 < (doC p).length by omega))
    rw [bestUpto_succ h0, rb_one (by omega), e, bstep_take (.inl rfl), vain_pad hl hok.len, cut_pad hl hok.len]
  | i + 2, _, hi => by
    have ih := best_rb hok (i := i + 1) (by omega) (by omega)
    have h0 : i + 1 < (doP p).length := by rw [doP_length]; omega
    have e : (doP p)[i + 1] = pad (doC p)[i + 1] := by simp [doP]
    have hl := do_len (List.getElem_mem (show i + 1 < (doC p).length by omega))
    obtain ⟨j, hj, hj2, hb⟩ := rb_mem (p := p) (L := doC p) (i := i + 1) (by omega) (by omega)
    have hi1 : i + 1 < (doC p).length := by omega
    have hbl : beforeL (rbUpto p (doC p) (i + 1)) (doC p)[i + 1] = true := by
      rw [hb]; exact List.pairwise_iff_getElem.1 (doC_sorted p) j (i + 1) hj2 hi1 hj
    rw [bestUpto_succ h0, ih, show rbUpto p (doC p) (i + 2) = _ from rb_succ (i := i + 1) (by omega) hi1, e]
    generalize rbUpto p (doC p) (i + 1) = z at hbl ⊢
    unfold bstep rsel
    rw [before_less hbl, vain_pad hl hok.len, cut_pad hl hok.len]
    simp only [Bool.true_eq_false, false_or]
    split <;> rfl
theorem best_all {p : Port} (hok : p.Ok) (h : 0 < (doC p).length) : best p (doP p) = ⟨true, pad (rbUpto p (doC p) (doC p).length), vain p (rbUpto p (doC p) (doC p).length), cut p.farms (rbUpto p (doC p) (doC p).length)⟩ := by
  rw [← best_rb hok h (Nat.le_refl _), bestUpto_all (by simp [doP])]
theorem plan_rb {p : Port} (hck : (check p).2.2 = 0) (h : 0 < (doC p).length) : planL p = rbUpto p (doC p) (doC p).length ∧ planV p = vain p (rbUpto p (doC p) (doC p).length) ∧ planE p = 0 := by
  have hok := check_ok hck
  have hb := best_all hok h
  obtain ⟨h1, h2, h3⟩ := plan_ok hck (by rw [hb])
  have hl := do_len (rb_in (p := p) (L := doC p) h (Nat.le_refl _))
  refine ⟨?_, ?_, h3⟩
  · rw [h1, hb, ← hl]
    exact pad_take (by rw [hl]; exact hok.len)
  · rw [h2, hb]; exact vain_pad hl hok.len
theorem best_none {p : Port} (h : (doC p).length = 0) : (best p (doP p)).found = false := by
  have : doC p = [] := List.length_eq_zero_iff.1 h
  unfold best doP; rw [this]; rfl
/-- Held, over the lists as they are. -/
theorem pad_get {l : List Int} {f : Nat} (hl : l.length ≤ 3) (hf : f < l.length) : (pad l).getD f 0 = l[f] := by
  unfold pad
  rw [List.take_of_length_le hl]
  simp [List.getD, List.getElem?_append_left hf, hf]
theorem doP_get {p : Port} (hok : p.Ok) {i f : Nat} (hi : i < (doC p).length) (hi2 : i < (doP p).length) (hf : f < ((doC p)[i]).length) : ((doP p)[i]).getD f 0 = ((doC p)[i])[f] := by
  have hl := do_len (List.getElem_mem hi)
  have e : (doP p)[i] = pad (doC p)[i] := by simp [doP]
  rw [e, pad_get (by rw [hl]; exact hok.len) hf]
/-- Told: whether bunches can be fresh, by any cable from some day on. -/
def canUpto (f : Farm) (start day : Int) (k : Nat) : Bool := (List.range k).any fun (j : Nat) => fresh f (start + (j : Int)) day
theorem canUpto_succ (f : Farm) (start day : Int) (k : Nat) : canUpto f start day (k + 1) = (canUpto f start day k || fresh f (start + (k : Int)) day) := by
  unfold canUpto; rw [List.range_succ, List.any_append]; simp
theorem can_late {f : Farm} {start day : Int} (h0 : 0 ≤ start) : canUpto f start day (11 - start).toNat = canLate f start day := by
  rw [Bool.eq_iff_iff]
  unfold canUpto canLate
  simp only [List.any_eq_true, List.mem_range, Bool.and_eq_true, decide_eq_true_eq, fresh, out, Bool.not_eq_true', Bool.or_eq_false_iff, decide_eq_false_iff_not]
  constructor
  · rintro ⟨j, hj, h1, h2⟩
    omega
  · rintro ⟨h1, h2, h3⟩
    refine ⟨((min 10 (day - f.way - f.notice)) - start).toNat, by omega, by omega, ?_⟩
    omega
def thenR (p : Port) (g : List Int) (start day : Int) : Int := if leastT p.farms g start day < p.hold then -1 else (on p.farms g day).vain
theorem leastT_pad {fs : List Farm} {l : List Int} (start day : Int) (h : l.length = fs.length) (h3 : fs.length ≤ 3) : leastT fs (pad l) start day = leastT fs l start day := by
  unfold leastT; rw [zip_pad h h3, on_pad day h h3]
theorem worst_pad {p : Port} {l : List Int} (start : Int) (h : l.length = p.farms.length) (h3 : p.farms.length ≤ 3) : worst p (pad l) start = worst p l start := by
  unfold worst
  rw [vain_pad h h3]
  have : fullT p (pad l) start = fullT p l start := by unfold fullT; congr 1; funext d; rw [leastT_pad start d h h3]
  rw [this]
theorem vain_nn {p : Port} (hok : p.Ok) (l : List Int) : 0 ≤ vain p l := by
  unfold vain
  have : ∀ (L : List Load) (n : Int), 0 ≤ n → 0 ≤ L.foldl (fun n x => max n x.vain) n := by
    intro L
    induction L with
    | nil => intro n h; exact h
    | cons x L ih => intro n h; exact ih _ (show 0 ≤ max n x.vain by omega)
  exact this _ _ (by omega)
/-- A list's number, by turns. -/
def turnOf (x : List Int) (n : Nat) : Int := if x.length = 0 then 0 else x.getD (n % x.length) 0
theorem turn_in {x : List Int} (h : ∀ z ∈ x, 0 ≤ z ∧ z ≤ 255) (n : Nat) : 0 ≤ turnOf x n ∧ turnOf x n ≤ 255 := by
  unfold turnOf
  split
  · omega
  · rename_i h0
    have hl : n % x.length < x.length := Nat.mod_lt _ (by omega)
    simp only [List.getD, List.getElem?_eq_getElem hl, Option.getD_some]
    exact h _ (List.getElem_mem hl)
def anyC (n : Nat) (x : List Int) : List Int := (List.range n).map fun i => turnOf x i % 12 - 1
theorem any_len (n : Nat) (x : List Int) : (anyC n x).length = n := by simp [anyC]
theorem any_succ (n : Nat) (x : List Int) : anyC (n + 1) x = anyC n x ++ [turnOf x n % 12 - 1] := by simp [anyC, List.range_succ]
theorem any_in {n : Nat} {x : List Int} : ∀ z ∈ anyC n x, -1 ≤ z ∧ z ≤ 10 := by
  intro z hz
  obtain ⟨i, _, rfl⟩ := List.mem_map.1 hz
  omega
theorem any_all (n : Nat) (x : List Int) : anyC n x ∈ allC 11 n := by
  have := seg_all (ds := dys 11) n [] (anyC n x) ?_ (any_len n x)
  · simpa [allC] using this
  · intro z hz
    have := any_in z hz
    unfold dys
    by_cases h : z = -1
    · simp [h]
    · refine List.mem_append.2 (.inl (List.mem_map.2 ⟨z.toNat, List.mem_range.2 (by omega), by omega⟩))
/-- What is fresh and what is in vain in a truth, behind some farms. -/
def ownH (f : Farm) (t : Int) : Int := f.lo + t % (f.hi - f.lo + 1)
def trU (fs : List Farm) (l x : List Int) (day : Int) : Nat → Int × Int
  | 0 => (0, 0)
  | i + 1 => match fs[i]? with
    | some f => if l.getD i 0 = -1 then trU fs l x day i else if fresh f (l.getD i 0) day then ((trU fs l x day i).1 + ownH f (turnOf x i), (trU fs l x day i).2) else ((trU fs l x day i).1, (trU fs l x day i).2 + ownH f (turnOf x i))
    | none => trU fs l x day i
theorem ownH_in {f : Farm} (hf : f.Ok) {t : Int} : f.lo ≤ ownH f t ∧ ownH f t ≤ f.hi := by
  unfold Farm.Ok at hf
  unfold ownH
  have h1 := Int.emod_nonneg t (show f.hi - f.lo + 1 ≠ 0 by omega)
  have h2 := Int.emod_lt_of_pos t (show 0 < f.hi - f.lo + 1 by omega)
  omega
theorem tr_bound {fs : List Farm} {l x : List Int} {day : Int} (hok : ∀ f ∈ fs, f.Ok) (hl : l.length = fs.length) : ∀ i, i ≤ fs.length →
    (onUpto fs l day i).least ≤ (trU fs l x day i).1 ∧ (trU fs l x day i).1 ≤ (onUpto fs l day i).most ∧ 0 ≤ (trU fs l x day i).2 ∧ (trU fs l x day i).2 ≤ (onUpto fs l day i).vain
  | 0, _ => by simp [onUpto, trU]
  | i + 1, hi => by
    have ih := tr_bound (x := x) (day := day) hok hl i (by omega)
    have hi2 : i < fs.length := by omega
    have ho := ownH_in (hok _ (List.getElem_mem hi2)) (t := turnOf x i)
    have hf := hok _ (List.getElem_mem hi2)
    unfold Farm.Ok at hf
    rw [onUpto_succ day hi2 (by omega)]
    simp only [trU, List.getElem?_eq_getElem hi2, step]
    split
    · exact ih
    · split
      · dsimp only; omega
      · dsimp only; omega
theorem tr_all {fs : List Farm} {l x : List Int} {day : Int} (hok : ∀ f ∈ fs, f.Ok) (hl : l.length = fs.length) :
    (on fs l day).least ≤ (trU fs l x day fs.length).1 ∧ (trU fs l x day fs.length).1 ≤ (on fs l day).most ∧ 0 ≤ (trU fs l x day fs.length).2 ∧ (trU fs l x day fs.length).2 ≤ (on fs l day).vain := by
  have := tr_bound (x := x) (day := day) hok hl fs.length (Nat.le_refl _)
  rwa [onUpto_all (i := fs.length) day (Nat.le_refl _)] at this
theorem trU_never {fs : List Farm} {l x : List Int} {day : Int} {i : Nat} (hi : i < fs.length) (h : l.getD i 0 = -1) : trU fs l x day (i + 1) = trU fs l x day i := by
  simp only [trU, List.getElem?_eq_getElem hi, if_pos h]
theorem trU_fresh {fs : List Farm} {l x : List Int} {day : Int} {i : Nat} (hi : i < fs.length) (h : ¬ l.getD i 0 = -1) (h2 : fresh fs[i] (l.getD i 0) day = true) : trU fs l x day (i + 1) = ((trU fs l x day i).1 + ownH fs[i] (turnOf x i), (trU fs l x day i).2) := by
  simp only [trU, List.getElem?_eq_getElem hi, if_neg h, h2, if_true]
theorem trU_vain {fs : List Farm} {l x : List Int} {day : Int} {i : Nat} (hi : i < fs.length) (h : ¬ l.getD i 0 = -1) (h2 : fresh fs[i] (l.getD i 0) day = false) : trU fs l x day (i + 1) = ((trU fs l x day i).1, (trU fs l x day i).2 + ownH fs[i] (turnOf x i)) := by
  simp only [trU, List.getElem?_eq_getElem hi, if_neg h, h2, Bool.false_eq_true, if_false]
theorem tr_small {p : Port} (hok : p.Ok) {l x : List Int} {day : Int} (hl : l.length = p.farms.length) (i : Nat) (hi : i ≤ p.farms.length) : 0 ≤ (trU p.farms l x day i).1 ∧ (trU p.farms l x day i).1 ≤ 180 ∧ 0 ≤ (trU p.farms l x day i).2 ∧ (trU p.farms l x day i).2 ≤ 180 := by
  have h1 := tr_bound (x := x) (day := day) hok.farm hl i hi
  have h2 := onUpto_bound (l := l) day i (by have := hok.len; omega) hok.farm
  omega
theorem beforeL_trans : ∀ (a b c : List Int), beforeL a b = true → beforeL b c = true → beforeL a c = true
  | [], _, _, h, _ => by simp [beforeL] at h
  | _ :: _, [], _, h, _ => by simp [beforeL] at h
  | _ :: _, _ :: _, [], _, h => by simp [beforeL] at h
  | x :: a, y :: b, z :: c, h1, h2 => by
    simp only [beforeL] at h1 h2 ⊢
    by_cases e1 : x = y
    · subst e1
      simp only [if_true] at h1
      by_cases e2 : x = z
      · subst e2
        simp only [if_true] at h2 ⊢
        exact beforeL_trans a b c h1 h2
      · rw [if_neg e2] at h2 ⊢; exact h2
    · rw [if_neg e1] at h1
      by_cases e2 : y = z
      · subst e2; rw [if_neg e1]; exact h1
      · rw [if_neg e2] at h2
        simp only [Bool.or_eq_true, Bool.and_eq_true, decide_eq_true_eq, Bool.not_eq_true', decide_eq_false_iff_not] at h1 h2
        rw [if_neg (by omega)]
        simp only [Bool.or_eq_true, Bool.and_eq_true, decide_eq_true_eq, Bool.not_eq_true', decide_eq_false_iff_not]
        omega
theorem beforeL_irrefl : ∀ a : List Int, beforeL a a = false
  | [] => rfl
  | x :: a => by simp only [beforeL, if_true]; exact beforeL_irrefl a
theorem before_iff {p : Port} {a b : List Int} : before p a b = true ↔ vain p a < vain p b ∨ (vain p a = vain p b ∧ (cut p.farms a < cut p.farms b ∨ (cut p.farms a = cut p.farms b ∧ beforeL a b = true))) := by
  unfold before
  split
  · rename_i h
    split
    · rename_i h2; simp [h, h2]
    · rename_i h2; simp only [decide_eq_true_eq]; omega
  · rename_i h; simp only [decide_eq_true_eq]; omega
theorem before_trans {p : Port} {a b c : List Int} (h1 : before p a b = true) (h2 : before p b c = true) : before p a c = true := by
  rw [before_iff] at h1 h2 ⊢
  rcases h1 with h1 | ⟨h1, h1' | ⟨h1', h1''⟩⟩ <;> rcases h2 with h2 | ⟨h2, h2' | ⟨h2', h2''⟩⟩
  · exact .inl (by omega)
  · exact .inl (by omega)
  · exact .inl (by omega)
  · exact .inl (by omega)
  · exact .inr ⟨by omega, .inl (by omega)⟩
  · exact .inr ⟨by omega, .inl (by omega)⟩
  · exact .inl (by omega)
  · exact .inr ⟨by omega, .inl (by omega)⟩
  · exact .inr ⟨by omega, .inr ⟨by omega, beforeL_trans _ _ _ h1'' h2''⟩⟩
theorem before_irrefl {p : Port} {a : List Int} : before p a a = false := by
  unfold before; simp [beforeL_irrefl]
theorem rb_least {p : Port} {L : List (List Int)} : ∀ {i : Nat}, 1 ≤ i → i ≤ L.length → ∀ j (h : j < L.length), j < i → before p L[j] (rbUpto p L i) = false
  | 1, _, hi, j, h, hj => by
    have : j = 0 := by omega
    subst this
    rw [rb_one (by omega)]; exact before_irrefl
  | i + 2, _, hi, j, h, hj => by
    have hi1 : i + 1 < L.length := by omega
    have ih := rb_least (p := p) (L := L) (i := i + 1) (by omega) (by omega)
    rw [show rbUpto p L (i + 2) = _ from rb_succ (i := i + 1) (by omega) hi1]
    unfold rsel
    split
    · rename_i hb
      by_cases hji : j = i + 1
      · subst hji; exact before_irrefl
      · cases hc : before p L[j] L[i + 1] with
        | false => rfl
        | true =>
          have := before_trans hc hb
          rw [ih j h (by omega)] at this; cases this
    · rename_i hb
      by_cases hji : j = i + 1
      · subst hji; simpa using hb
      · exact ih j h (by omega)
theorem do_mem {p : Port} {l : List Int} (h : l ∈ allC 11 p.farms.length) (hf : full p l = true) : l ∈ doC p := List.mem_filter.2 ⟨h, hf⟩
theorem plan_e09 {p : Port} (h : (check p).2.2 = 0) : planE p = 0 ∨ planE p = 9 := by
  unfold planE
  rw [if_pos h]; split <;> simp
theorem plan_iff {p : Port} (h : (check p).2.2 = 0) : planE p = 0 ↔ 0 < (doC p).length := by
  constructor
  · intro h0
    rcases Nat.eq_zero_or_pos (doC p).length with hz | hz
    · have := (plan_e2 h (best_none hz)).2.2; omega
    · exact hz
  · intro hz; exact (plan_rb h hz).2.2
/-- What Plan has, if there are cables that do. -/
theorem plan_has {p : Port} (h : (check p).2.2 = 0) (h0 : planE p = 0) : planL p ∈ doC p ∧ planV p = vain p (planL p) ∧ ∀ l ∈ doC p, before p l (planL p) = false := by
  have hz := (plan_iff h).1 h0
  obtain ⟨e1, e2, _⟩ := plan_rb h hz
  refine ⟨by rw [e1]; exact rb_in hz (Nat.le_refl _), by rw [e1, e2], ?_⟩
  intro l hl
  obtain ⟨j, hj, rfl⟩ := List.getElem_of_mem hl
  rw [e1]; exact rb_least hz (Nat.le_refl _) j hj hj
theorem plan_not {p : Port} (h : (check p).2.2 = 0) (h0 : ¬ planE p = 0) : doC p = [] ∧ planL p = [] := by
  have hz : (doC p).length = 0 := by
    rcases Nat.eq_zero_or_pos (doC p).length with hz | hz
    · exact hz
    · exact absurd ((plan_iff h).2 hz) h0
  exact ⟨List.length_eq_zero_iff.1 hz, (plan_e2 h (best_none hz)).1⟩
theorem does_one {p : Port} {l : List Int} : does p l = 1 ↔ full p l = true := by
  unfold does
  split
  · simp [*]
  · rename_i h
    split <;> simp [h]
theorem does_two {p : Port} {l : List Int} (h : does p l = 2) : never p l = true := by
  unfold does at h
  split at h
  · omega
  · split at h
    · assumption
    · omega
theorem enter_any {p : Port} (h : (check p).2.2 = 0) {l : List Int} (hl : l.length = p.farms.length) (hi : ∀ z ∈ l, -1 ≤ z ∧ z ≤ 10) : enterErr p l = 0 := by
  unfold enterErr
  rw [if_neg (by simp [h]), if_neg (by simp [hl]), if_neg]
  intro ha
  rw [List.any_eq_true] at ha
  obtain ⟨z, hz, hz2⟩ := ha
  have := hi z hz
  simp only [out, Bool.or_eq_true, decide_eq_true_eq] at hz2
  omega
theorem day_mem {p : Port} {day : Int} (h1 : p.clo ≤ day) (h2 : day ≤ p.chi) : day ∈ p.days := by
  unfold Port.days
  refine List.mem_map.2 ⟨(day - p.clo).toNat, List.mem_range.2 (by omega), by omega⟩
theorem mem_day {p : Port} {day : Int} (h : day ∈ p.days) : p.clo ≤ day ∧ day ≤ p.chi := by
  unfold Port.days at h
  obtain ⟨k, hk, rfl⟩ := List.mem_map.1 h
  rw [List.mem_range] at hk
  omega
theorem full_day {p : Port} {l : List Int} (h : full p l = true) {day : Int} (h1 : p.clo ≤ day) (h2 : day ≤ p.chi) : p.hold ≤ (on p.farms l day).least := by
  unfold full at h
  simpa using List.all_eq_true.1 h day (day_mem h1 h2)
theorem full_of {p : Port} {l : List Int} (h : ∀ day, p.clo ≤ day → day ≤ p.chi → p.hold ≤ (on p.farms l day).least) : full p l = true := by
  unfold full
  refine List.all_eq_true.2 fun day hd => ?_
  have := mem_day hd
  simpa using h day this.1 this.2
theorem never_day {p : Port} {l : List Int} (h : never p l = true) {day : Int} (h1 : p.clo ≤ day) (h2 : day ≤ p.chi) : (on p.farms l day).most < p.hold := by
  unfold never at h
  simpa using List.all_eq_true.1 h day (day_mem h1 h2)
theorem max_fold (L : List Load) : ∀ n : Int, n ≤ L.foldl (fun n x => max n x.vain) n ∧ ∀ x ∈ L, x.vain ≤ L.foldl (fun n x => max n x.vain) n := by
  induction L with
  | nil => intro n; simp
  | cons y L ih =>
    intro n
    have := ih (max n y.vain)
    simp only [List.foldl_cons]
    refine ⟨by omega, fun x hx => ?_⟩
    cases hx with
    | head => omega
    | tail _ hx => exact this.2 x hx
theorem max_le (L : List Load) : ∀ n m : Int, n ≤ m → (∀ x ∈ L, x.vain ≤ m) → L.foldl (fun n x => max n x.vain) n ≤ m := by
  induction L with
  | nil => intro n m h _; exact h
  | cons y L ih =>
    intro n m h hx
    have := hx y (.head _)
    exact ih _ m (by show max n y.vain ≤ m; omega) fun x h => hx x (.tail _ h)
theorem vain_day {p : Port} {l : List Int} {day : Int} (h1 : p.clo ≤ day) (h2 : day ≤ p.chi) : (on p.farms l day).vain ≤ vain p l :=
  (max_fold (loads p l) 0).2 _ (List.mem_map.2 ⟨day, day_mem h1 h2, rfl⟩)
theorem vain_of {p : Port} {l : List Int} {m : Int} (h0 : 0 ≤ m) (h : ∀ day, p.clo ≤ day → day ≤ p.chi → (on p.farms l day).vain ≤ m) : vain p l ≤ m := by
  refine max_le _ 0 m h0 fun x hx => ?_
  obtain ⟨day, hd, rfl⟩ := List.mem_map.1 hx
  have := mem_day hd
  exact h day this.1 this.2
theorem quay_get {p : Port} {l : List Int} (h : enterErr p l = 0) {k : Nat} (hk : k < (quayR p l).length) : (quayR p l)[k] = [(on p.farms l (p.clo + k)).least, (on p.farms l (p.clo + k)).most] := by
  have e : quayR p l = quay p l := by unfold quayR; rw [if_pos h]
  have hk2 : k < (quay p l).length := by rw [← e]; exact hk
  have : (quayR p l)[k] = (quay p l)[k] := by simp [e]
  rw [this]
  simp [quay, loads, Port.days]
theorem quay_len {p : Port} {l : List Int} (h : enterErr p l = 0) (hc : p.clo ≤ p.chi) : ((quayR p l).length : Int) = p.chi - p.clo + 1 := by
  have e : quayR p l = quay p l := by unfold quayR; rw [if_pos h]
  rw [e]; unfold quay; rw [List.length_map, loads_len]; omega
theorem fullR_eq {p : Port} {l : List Int} (h : enterErr p l = 0) : fullR p l = does p l := by unfold fullR; rw [if_pos h]
theorem vainR_eq {p : Port} {l : List Int} (h : enterErr p l = 0) : vainR p l = vain p l := by unfold vainR; rw [if_pos h]
/-- A truth of the full law: what is fresh and in vain on its day. -/
theorem truth_full {p : Port} (hok : p.Ok) {l x : List Int} (hl : l.length = p.farms.length) {d : Int} :
    (full p l = true → p.hold ≤ (trU p.farms l x (p.clo + d % (p.chi - p.clo + 1)) p.farms.length).1) ∧ (never p l = true → (trU p.farms l x (p.clo + d % (p.chi - p.clo + 1)) p.farms.length).1 < p.hold) ∧
    (trU p.farms l x (p.clo + d % (p.chi - p.clo + 1)) p.farms.length).2 ≤ vain p l ∧ (on p.farms l (p.clo + d % (p.chi - p.clo + 1))).least ≤ (trU p.farms l x (p.clo + d % (p.chi - p.clo + 1)) p.farms.length).1 ∧
    (trU p.farms l x (p.clo + d % (p.chi - p.clo + 1)) p.farms.length).1 ≤ (on p.farms l (p.clo + d % (p.chi - p.clo + 1))).most := by
  have hc := hok.come
  have hq1 := Int.emod_nonneg d (show p.chi - p.clo + 1 ≠ 0 by omega)
  have hq2 := Int.emod_lt_of_pos d (show 0 < p.chi - p.clo + 1 by omega)
  generalize d % (p.chi - p.clo + 1) = q at hq1 hq2 ⊢
  have ht := tr_all (x := x) (day := p.clo + q) hok.farm hl
  have hv := vain_day (p := p) (l := l) (day := p.clo + q) (by omega) (by omega)
  refine ⟨fun h => ?_, fun h => ?_, by omega, ht.1, ht.2.1⟩
  · have := full_day h (day := p.clo + q) (by omega) (by omega); omega
  · have := never_day h (day := p.clo + q) (by omega) (by omega); omega
def namesOk : List ByteArray → List ByteArray → Bool
  | _, [] => true
  | b, n :: l => nmOk n && !has b n && namesOk (b ++ [n]) l
theorem farmErr_iff {f : Farm} : farmErr f = 0 ↔ f.Ok := by
  unfold farmErr ends Farm.Ok out
  simp only [Bool.or_eq_true, decide_eq_true_eq]
  constructor
  · intro h
    split at h
    · omega
    · split at h
      · omega
      · split at h <;> omega
  · intro h
    rw [if_neg (by omega), if_neg (by omega), if_neg (by omega)]
theorem fErr_iff {b : List ByteArray} {f : Farm} : fErr b f = 0 ↔ (nmOk f.name && !has b f.name) = true ∧ f.Ok := by
  unfold fErr
  split
  · rename_i h
    split
    · rename_i h2; simp [h, h2]
    · rename_i h2; rw [farmErr_iff]; simp [h, h2]
  · rename_i h; simp [h]
theorem farmsErr_iff : ∀ (l : List Farm) (b : List ByteArray) (j : Int), (farmsErr b j l).2.2 = 0 ↔ namesOk b (names l) = true ∧ ∀ f ∈ l, f.Ok
  | [], b, j => by simp [farmsErr, names, namesOk]
  | f :: l, b, j => by
    have e : names (f :: l) = f.name :: names l := rfl
    rw [e]
    simp only [farmsErr, namesOk]
    split
    · rename_i h
      have h2 := fErr_iff.1 h
      rw [farmsErr_iff l, h2.1, Bool.true_and]
      constructor
      · rintro ⟨h3, h4⟩
        refine ⟨h3, fun g hg => ?_⟩
        cases hg with
        | head => exact h2.2
        | tail _ hg => exact h4 g hg
      · rintro ⟨h3, h4⟩; exact ⟨h3, fun g hg => h4 g (.tail _ hg)⟩
    · rename_i h
      constructor
      · intro h2; exact absurd h2 h
      · rintro ⟨h3, h4⟩
        rw [Bool.and_eq_true] at h3
        exact absurd (fErr_iff.2 ⟨h3.1, h4 f (.head _)⟩) h
theorem check_iff {p : Port} : (check p).2.2 = 0 ↔ p.Ok ∧ namesOk [] (names p.farms) = true := by
  constructor
  · intro h
    refine ⟨check_ok h, ?_⟩
    unfold check at h
    split at h
    · simp at h
    · split at h
      · simp at h
      · split at h
        · simp at h
        · exact ((farmsErr_iff _ _ _).1 h).1
  · rintro ⟨hok, hn⟩
    have h1 := hok.hold
    have h2 := hok.come
    have h3 := hok.len
    unfold check
    rw [if_neg (by simp only [out, Bool.or_eq_true, decide_eq_true_eq]; omega), if_neg (by omega), if_neg (by omega)]
    exact (farmsErr_iff _ _ _).2 ⟨hn, hok.farm⟩
theorem names_setKeep (l : List Farm) (i : Nat) (k : Int) : names (setKeep l i k) = names l := by
  unfold names setKeep
  apply List.ext_getElem?
  intro j
  simp only [List.getElem?_map, List.getElem?_modify]
  cases h : l[j]? with
  | none => rfl
  | some f => simp; split <;> rfl
theorem check_kept {p : Port} (h : (check p).2.2 = 0) {i : Nat} {k : Int} (hi : i < p.farms.length) (h1 : p.farms[i].keep ≤ k) (h2 : k ≤ 9) : (check (kept p i k)).2.2 = 0 := by
  have hc := check_iff.1 h
  refine check_iff.2 ⟨kept_ok hc.1 hi h1 h2, ?_⟩
  show namesOk [] (names (setKeep p.farms i k)) = true
  rw [names_setKeep]; exact hc.2
theorem kept_names {p : Port} (h : ∀ f ∈ p.farms, f.name.size ≤ 9223372036854775807) (i : Nat) (k : Int) : ∀ f ∈ (kept p i k).farms, f.name.size ≤ 9223372036854775807 := by
  intro f hf
  have hm : f.name ∈ names (setKeep p.farms i k) := List.mem_map.2 ⟨f, hf, rfl⟩
  rw [names_setKeep] at hm
  obtain ⟨g, hg, e⟩ := List.mem_map.1 hm
  rw [← e]; exact h g hg
theorem kept_len (p : Port) (i : Nat) (k : Int) : (kept p i k).farms.length = p.farms.length := setKeep_len _ _ _
theorem kept_same {p : Port} {i : Nat} (hi : i < p.farms.length) : kept p i p.farms[i].keep = p := by
  unfold kept; rw [setKeep_same hi]
theorem can_plan {p : Port} (h : (check p).2.2 = 0) {i : Nat} {k : Int} (hi : i < p.farms.length) (h1 : p.farms[i].keep ≤ k) (h2 : k ≤ 9) : planE (kept p i k) = if canAt p i k = true then 0 else 9 := by
  have hc := check_kept h hi h1 h2
  have he := plan_e09 hc
  have hi2 := plan_iff hc
  unfold canAt
  cases hd : doC (kept p i k) with
  | nil => rw [hd] at hi2; simp at hi2 ⊢; omega
  | cons x l => rw [hd] at hi2; simp at hi2 ⊢; exact hi2
theorem earlyK_spec (p : Port) (i : Nat) : ∀ (n : Nat) (k : Int), match earlyK p i k n with
    | some k' => k ≤ k' ∧ k' < k + n ∧ canAt p i k' = true ∧ ∀ k'', k ≤ k'' → k'' < k' → canAt p i k'' = false
    | none => ∀ k'', k ≤ k'' → k'' < k + n → canAt p i k'' = false
  | 0, k => by simp only [earlyK]; intro k'' h1 h2; omega
  | n + 1, k => by
    unfold earlyK
    by_cases h : canAt p i k = true
    · rw [if_pos h]; exact ⟨by omega, by omega, h, fun k'' h1 h2 => by omega⟩
    · rw [if_neg h]
      have ih := earlyK_spec p i n (k + 1)
      have hf : canAt p i k = false := by simpa using h
      cases he : earlyK p i (k + 1) n with
      | some k' =>
        rw [he] at ih
        refine ⟨by omega, by omega, ih.2.2.1, fun k'' h1 h2 => ?_⟩
        by_cases e : k'' = k
        · rw [e]; exact hf
        · exact ih.2.2.2 k'' (by omega) h2
      | none =>
        rw [he] at ih
        intro k'' h1 h2
        by_cases e : k'' = k
        · rw [e]; exact hf
        · exact ih k'' (by omega) (by omega)
theorem can_none {p : Port} (h : doC p = []) {i : Nat} (hi : i < p.farms.length) : canAt p i p.farms[i].keep = false := by
  unfold canAt; rw [kept_same hi, h]; rfl
/-- What Early has, from some farm on. -/
theorem earlyFrom_spec {p : Port} (hck : (check p).2.2 = 0) (hd : doC p = []) : ∀ (m i : Nat), i + m = p.farms.length →
    ((earlyFrom p i (p.farms.drop i)).2.2 = 0 ∧ ∃ (f : Nat) (hf : f < p.farms.length), i ≤ f ∧ (earlyFrom p i (p.farms.drop i)).1 = f ∧ 1 ≤ (earlyFrom p i (p.farms.drop i)).2.1 ∧ (earlyFrom p i (p.farms.drop i)).2.1 ≤ 9 - p.farms[f].keep ∧
      planE (kept p f (p.farms[f].keep + (earlyFrom p i (p.farms.drop i)).2.1)) = 0 ∧ planE (kept p f (p.farms[f].keep + (earlyFrom p i (p.farms.drop i)).2.1 - 1)) = 9 ∧ ∀ j, i ≤ j → j < f → planE (kept p j 9) = 9) ∨
    ((earlyFrom p i (p.farms.drop i)).2.2 = 9 ∧ ∀ j, i ≤ j → j < p.farms.length → planE (kept p j 9) = 9)
  | 0, i, h => by
    right
    rw [List.drop_of_length_le (by omega)]
    exact ⟨rfl, fun j h1 h2 => by omega⟩
  | m + 1, i, h => by
    have hi : i < p.farms.length := by omega
    have hok := (check_ok hck).farm _ (List.getElem_mem hi)
    unfold Farm.Ok at hok
    rw [early_here hi]
    have hs := earlyK_spec p i (9 - p.farms[i].keep).toNat (p.farms[i].keep + 1)
    have h0 := can_none hd hi
    cases he : earlyK p i (p.farms[i].keep + 1) (9 - p.farms[i].keep).toNat with
    | some k =>
      rw [he] at hs
      obtain ⟨h1, h2, h3, h4⟩ := hs
      left
      refine ⟨rfl, i, hi, Nat.le_refl _, rfl, by dsimp only; omega, by dsimp only; omega, ?_, ?_, fun j h1 h2 => by omega⟩
      · dsimp only
        rw [show p.farms[i].keep + (k - p.farms[i].keep) = k by omega, can_plan hck hi (by omega) (by omega), h3]; rfl
      · dsimp only
        rw [show p.farms[i].keep + (k - p.farms[i].keep) - 1 = k - 1 by omega, can_plan hck hi (by omega) (by omega)]
        have : canAt p i (k - 1) = false := by
          by_cases e : k - 1 = p.farms[i].keep
          · rw [e]; exact h0
          · exact h4 _ (by omega) (by omega)
        rw [this]; rfl
    | none =>
      rw [he] at hs
      have h9 : planE (kept p i 9) = 9 := by
        rw [can_plan hck hi (by omega) (by omega)]
        have : canAt p i 9 = false := by
          by_cases e : p.farms[i].keep = 9
          · rw [← e]; exact h0
          · exact hs 9 (by omega) (by omega)
        rw [this]; rfl
      rcases earlyFrom_spec hck hd m (i + 1) (by omega) with ⟨g1, f, hf, g2, g3, g4, g5, g6, g7, g8⟩ | ⟨g1, g2⟩
      · left
        refine ⟨g1, f, hf, by omega, g3, g4, g5, g6, g7, fun j h1 h2 => ?_⟩
        by_cases e : j = i
        · rw [e]; exact h9
        · exact g8 j (by omega) h2
      · right
        refine ⟨g1, fun j h1 h2 => ?_⟩
        by_cases e : j = i
        · rw [e]; exact h9
        · exact g2 j (by omega) h2
theorem early_spec {p : Port} (hck : (check p).2.2 = 0) (hd : doC p = []) {e1 e2 e3 : Int} (he : earlyD p = (e1, e2, e3)) :
    (e3 = 0 ∧ ∃ (f : Nat) (hf : f < p.farms.length), e1 = f ∧ 1 ≤ e2 ∧ e2 ≤ 9 - p.farms[f].keep ∧ planE (kept p f (p.farms[f].keep + e2)) = 0 ∧ planE (kept p f (p.farms[f].keep + e2 - 1)) = 9 ∧ ∀ j, j < f → planE (kept p j 9) = 9) ∨
    (e3 = 9 ∧ ∀ j, j < p.farms.length → planE (kept p j 9) = 9) := by
  have h1 : earlyD p = earlyFrom p 0 (p.farms.drop 0) := by unfold earlyD; rw [if_pos hck, hd]; rfl
  have := earlyFrom_spec hck hd p.farms.length 0 (by omega)
  rw [← h1, he] at this
  rcases this with ⟨g1, f, hf, _, g3, g4, g5, g6, g7, g8⟩ | ⟨g1, g2⟩
  · exact .inl ⟨g1, f, hf, g3, g4, g5, g6, g7, fun j hj => g8 j (by omega) hj⟩
  · exact .inr ⟨g1, fun j hj => g2 j (by omega) hj⟩
/-- Held: what it is. -/
theorem maxF (g : List Int → Int) (L : List (List Int)) : ∀ n : Int, n ≤ L.foldl (fun n l => max n (g l)) n ∧ (∀ l ∈ L, g l ≤ L.foldl (fun n l => max n (g l)) n) ∧ (L.foldl (fun n l => max n (g l)) n = n ∨ ∃ l ∈ L, g l = L.foldl (fun n l => max n (g l)) n) := by
  induction L with
  | nil => intro n; simp
  | cons y L ih =>
    intro n
    have := ih (max n (g y))
    simp only [List.foldl_cons]
    refine ⟨by omega, fun x hx => ?_, ?_⟩
    · cases hx with
      | head => omega
      | tail _ hx => exact this.2.1 x hx
    · rcases this.2.2 with h | ⟨l, hl, h⟩
      · by_cases hm : g y ≤ n
        · left; rw [h]; omega
        · right; exact ⟨y, .head _, by rw [h]; omega⟩
      · exact .inr ⟨l, .tail _ hl, h⟩
theorem pad_getD {l : List Int} {f : Nat} (hl : l.length ≤ 3) (hf : f < l.length) : (pad l).getD f 0 = l.getD f 0 := by
  rw [pad_get hl hf]; simp [List.getD, hf]
theorem held_eq {p : Port} (hok : p.Ok) {f : Nat} (hf : f < p.farms.length) : held p f = (doC p).foldl (fun n l => max n (l.getD f 0)) 0 := by
  unfold held doP
  rw [List.foldl_map]
  have : ∀ (L : List (List Int)) (n : Int), (∀ l ∈ L, l.length = p.farms.length) → L.foldl (fun n l => max n ((pad l).getD f 0)) n = L.foldl (fun n l => max n (l.getD f 0)) n := by
    intro L
    induction L with
    | nil => intro n _; rfl
    | cons y L ih =>
      intro n h
      have hy := h y (.head _)
      simp only [List.foldl_cons]
      rw [pad_getD (by rw [hy]; exact hok.len) (by rw [hy]; exact hf)]
      exact ih _ fun l hl => h l (.tail _ hl)
  exact this _ _ fun l hl => do_len hl
theorem never_eq {p : Port} (hok : p.Ok) {f : Nat} (hf : f < p.farms.length) : ((doP p).any fun l => decide (l.getD f 0 = -1)) = (doC p).any fun l => decide (l.getD f 0 = -1) := by
  unfold doP
  rw [List.any_map, Bool.eq_iff_iff]
  simp only [List.any_eq_true, Function.comp_def, decide_eq_true_eq]
  constructor
  · rintro ⟨l, hl, h⟩
    have hy := do_len hl
    rw [pad_getD (by rw [hy]; exact hok.len) (by rw [hy]; exact hf)] at h
    exact ⟨l, hl, h⟩
  · rintro ⟨l, hl, h⟩
    have hy := do_len hl
    exact ⟨l, hl, by rw [pad_getD (by rw [hy]; exact hok.len) (by rw [hy]; exact hf)]; exact h⟩
theorem do_getD {p : Port} {l : List Int} (hl : l ∈ doC p) {f : Nat} (hf : f < p.farms.length) : -1 ≤ l.getD f 0 ∧ l.getD f 0 ≤ 10 := by
  have hy := do_len hl
  have : l.getD f 0 = l[f] := by simp [List.getD, hy, hf]
  rw [this]; exact do_in hl _ (List.getElem_mem _)
theorem held_spec {p : Port} (hck : (check p).2.2 = 0) {f : Nat} (hf : f < p.farms.length) :
    (heldE p f = 0 ∨ heldE p f = 9) ∧ (-1 ≤ heldD p f ∧ heldD p f ≤ 10) ∧ (heldE p f ≠ 0 → heldD p f = 0 ∧ doC p = []) ∧
    (heldE p f = 0 → (∃ l ∈ doC p, l.getD f 0 = heldD p f) ∧ (heldD p f ≠ -1 → ∀ l ∈ doC p, l.getD f 0 ≤ heldD p f ∧ l.getD f 0 ≠ -1)) := by
  have hok := check_ok hck
  have ho : out 0 (p.farms.length - 1) (f : Int) = false := by simp [out]; omega
  have hD : heldD p f = if ((doC p).any fun l => decide (l.getD f 0 = -1)) then -1 else (doC p).foldl (fun n l => max n (l.getD f 0)) 0 := by
    unfold heldD
    rw [if_pos ⟨hck, ho⟩, Int.toNat_natCast, never_eq hok hf, held_eq hok hf]
  have hE : heldE p f = if doC p = [] then 9 else 0 := by unfold heldE; rw [if_pos hck, if_pos ho]
  by_cases hd : doC p = []
  · rw [hE, hD, hd]; simp
  · rw [hE, hD, if_neg hd]
    obtain ⟨m1, m2, m3⟩ := maxF (fun l => l.getD f 0) (doC p) 0
    cases ha : (doC p).any fun l => decide (l.getD f 0 = -1) with
    | true =>
      simp only [if_true]
      refine ⟨by simp, by omega, by simp, fun _ => ⟨?_, by simp⟩⟩
      rw [List.any_eq_true] at ha
      obtain ⟨l, hl, h⟩ := ha
      exact ⟨l, hl, by simpa using h⟩
    | false =>
      simp only [Bool.false_eq_true, if_false]
      rw [List.any_eq_false] at ha
      have hnn : ∀ l ∈ doC p, 0 ≤ l.getD f 0 := fun l hl => by
        have h1 := ha l hl
        have h2 := do_getD hl hf
        simp only [decide_eq_true_eq] at h1
        omega
      obtain ⟨l0, hl0⟩ : ∃ l, l ∈ doC p := by
        cases hdd : doC p with
        | nil => exact absurd hdd hd
        | cons x L => exact ⟨x, .head _⟩
      have hatt : ∃ l ∈ doC p, l.getD f 0 = (doC p).foldl (fun n l => max n (l.getD f 0)) 0 := by
        rcases m3 with h | ⟨l, hl, h⟩
        · refine ⟨l0, hl0, ?_⟩
          have h1 := m2 l0 hl0
          have h2 := hnn l0 hl0
          omega
        · exact ⟨l, hl, h⟩
      refine ⟨by simp, ?_, by simp, fun _ => ⟨hatt, fun _ l hl => ⟨m2 l hl, ?_⟩⟩⟩
      · obtain ⟨l, hl, h⟩ := hatt
        have := do_getD hl hf
        omega
      · have := hnn l hl; omega
/-- Sums over farms and their days. -/
def sumC (g : Farm × Int → Int) (l : List (Farm × Int)) : Int := l.foldr (fun q n => g q + n) 0
theorem sumC_nil (g : Farm × Int → Int) : sumC g [] = 0 := rfl
theorem sumC_cons (g : Farm × Int → Int) (q : Farm × Int) (l : List (Farm × Int)) : sumC g (q :: l) = g q + sumC g l := rfl
def cLo (day : Int) (q : Farm × Int) : Int := if q.2 = -1 then 0 else if fresh q.1 q.2 day then q.1.lo else 0
def cHi (day : Int) (q : Farm × Int) : Int := if q.2 = -1 then 0 else if fresh q.1 q.2 day then q.1.hi else 0
def cVain (day : Int) (q : Farm × Int) : Int := if q.2 = -1 then 0 else if fresh q.1 q.2 day then 0 else q.1.hi
def cLate (start day : Int) (q : Farm × Int) : Int := if q.2 = -1 then (if canLate q.1 start day then q.1.lo else 0) else 0
theorem fold_sum (day : Int) : ∀ (l : List (Farm × Int)) (x : Load), l.foldl (step day) x = ⟨x.least + sumC (cLo day) l, x.most + sumC (cHi day) l, x.vain + sumC (cVain day) l⟩
  | [], x => by simp [sumC]
  | q :: l, x => by
    rw [List.foldl_cons, fold_sum day l]
    simp only [sumC_cons]
    unfold step cLo cHi cVain
    by_cases h : q.2 = -1
    · simp [h]
    · by_cases h2 : fresh q.1 q.2 day = true
      · simp [h, h2]; omega
      · simp [h, h2]; omega
theorem on_sum (fs : List Farm) (l : List Int) (day : Int) : on fs l day = ⟨sumC (cLo day) (fs.zip l), sumC (cHi day) (fs.zip l), sumC (cVain day) (fs.zip l)⟩ := by
  unfold on; rw [fold_sum]; simp
theorem more_sum (start day : Int) : ∀ (l : List (Farm × Int)) (x : Int), l.foldl (moreStep start day) x = x + sumC (cLate start day) l
  | [], x => by simp [sumC]
  | q :: l, x => by
    rw [List.foldl_cons, more_sum start day l, sumC_cons]
    unfold moreStep cLate
    by_cases h : q.2 = -1
    · by_cases h2 : canLate q.1 start day = true
      · simp [h, h2]; omega
      · simp [h, h2]
    · simp [h]
theorem sum_add (g h : Farm × Int → Int) : ∀ l, sumC g l + sumC h l = sumC (fun q => g q + h q) l
  | [] => rfl
  | q :: l => by simp only [sumC_cons]; have := sum_add g h l; omega
theorem leastT_sum (fs : List Farm) (l : List Int) (start day : Int) : leastT fs l start day = sumC (fun q => cLo day q + cLate start day q) (fs.zip l) := by
  unfold leastT; rw [more_sum, on_sum, ← sum_add]
theorem sum_le {g h : Farm × Int → Int} : ∀ (l : List (Farm × Int)), (∀ q ∈ l, g q ≤ h q) → sumC g l ≤ sumC h l
  | [], _ => by simp [sumC]
  | q :: l, hl => by
    simp only [sumC_cons]
    have h1 := hl q (.head _)
    have h2 := sum_le l fun q hq => hl q (.tail _ hq)
    omega
theorem sum_map (g : Farm × Int → Int) (u : Int → Int) : ∀ (fs : List Farm) (l : List Int), sumC g (fs.zip (l.map u)) = sumC (fun q => g (q.1, u q.2)) (fs.zip l)
  | [], _ => by simp [sumC]
  | _ :: _, [] => by simp [sumC]
  | f :: fs, z :: l => by simp only [List.map_cons, List.zip_cons_cons, sumC_cons]; rw [sum_map g u fs l]
theorem sum_zero {g : Farm × Int → Int} : ∀ (l : List (Farm × Int)), (∀ q ∈ l, g q = 0) → sumC g l = 0
  | [], _ => rfl
  | q :: l, h => by rw [sumC_cons, h q (.head _), sum_zero l fun q hq => h q (.tail _ hq)]; rfl
theorem zip_ok {p : Port} (hok : p.Ok) {l : List Int} {q : Farm × Int} (h : q ∈ p.farms.zip l) : q.1.Ok ∧ q.2 ∈ l := ⟨hok.farm _ (List.of_mem_zip h).1, (List.of_mem_zip h).2⟩
theorem late_of {f : Farm} {z start day : Int} (h0 : start ≤ z) (h10 : z ≤ 10) (hs : 0 ≤ start) (h : fresh f z day = true) : canLate f start day = true := by
  rw [← can_late hs]
  unfold canUpto
  rw [List.any_eq_true]
  exact ⟨(z - start).toNat, List.mem_range.2 (by omega), by rw [show start + ((z - start).toNat : Int) = z by omega]; exact h⟩
theorem late_mono {f : Farm} {a b day : Int} (hab : a ≤ b) (h : canLate f b day = true) : canLate f a day = true := by
  unfold canLate at h ⊢
  simp only [Bool.and_eq_true, decide_eq_true_eq] at h ⊢
  exact ⟨by omega, h.2⟩
/-- What is told sooner: cables of days before a day. -/
def cutAt (a z : Int) : Int := if z < a then z else -1
theorem cut_least {p : Port} (hok : p.Ok) {l : List Int} (hl : ∀ z ∈ l, -1 ≤ z ∧ z ≤ 10) {a b day : Int} (ha : 0 ≤ a) (hab : a ≤ b) : leastT p.farms l b day ≤ leastT p.farms (l.map (cutAt a)) a day := by
  rw [leastT_sum, leastT_sum, sum_map]
  refine sum_le _ fun q hq => ?_
  obtain ⟨hf, hz⟩ := zip_ok hok hq
  have hzr := hl _ hz
  unfold Farm.Ok at hf
  unfold cLo cLate cutAt
  dsimp only
  by_cases h1 : q.2 = -1
  · rw [if_pos h1, if_pos h1, if_pos (show q.2 < a by omega), if_pos h1, if_pos h1]
    by_cases h2 : canLate q.1 b day = true
    · rw [if_pos h2, if_pos (late_mono hab h2)]; omega
    · rw [if_neg h2]; split <;> omega
  · by_cases h2 : q.2 < a
    · rw [if_pos h2]; omega
    · rw [if_neg h2, if_neg h1, if_neg h1, if_pos rfl, if_pos rfl]
      by_cases h3 : fresh q.1 q.2 day = true
      · rw [if_pos h3, if_pos (late_of (by omega) (by omega) ha h3)]; omega
      · rw [if_neg h3]; split <;> omega
theorem cut_vain {p : Port} (hok : p.Ok) {l : List Int} {a day : Int} : (on p.farms (l.map (cutAt a)) day).vain ≤ (on p.farms l day).vain := by
  rw [on_sum, on_sum]
  dsimp only
  rw [sum_map]
  refine sum_le _ fun q hq => ?_
  obtain ⟨hf, hz⟩ := zip_ok hok hq
  unfold Farm.Ok at hf
  unfold cVain cutAt
  dsimp only
  by_cases h2 : q.2 < a
  · rw [if_pos h2]; omega
  · rw [if_neg h2, if_pos rfl]; split
    · omega
    · split <;> omega
theorem fullT_iff {p : Port} {l : List Int} {start : Int} : fullT p l start = true ↔ ∀ day, p.clo ≤ day → day ≤ p.chi → p.hold ≤ leastT p.farms l start day := by
  unfold fullT
  rw [List.all_eq_true]
  constructor
  · intro h day h1 h2; simpa using h day (day_mem h1 h2)
  · intro h day hd; have := mem_day hd; simpa using h day this.1 this.2
theorem worst_nn {p : Port} (hok : p.Ok) {l : List Int} {start : Int} : 0 ≤ worst p l start ↔ fullT p l start = true := by
  unfold worst
  cases h : fullT p l start with
  | true => have := vain_nn hok l; simp; exact this
  | false => simp
theorem worst_eq {p : Port} {l : List Int} {start : Int} (h : fullT p l start = true) : worst p l start = vain p l := by unfold worst; rw [h]; rfl
theorem cut_worst {p : Port} (hok : p.Ok) {l : List Int} (hl : ∀ z ∈ l, -1 ≤ z ∧ z ≤ 10) {a b : Int} (ha : 0 ≤ a) (hab : a ≤ b) (h : 0 ≤ worst p l b) : 0 ≤ worst p (l.map (cutAt a)) a ∧ worst p (l.map (cutAt a)) a ≤ worst p l b := by
  have h1 := (worst_nn hok).1 h
  have h2 : fullT p (l.map (cutAt a)) a = true := fullT_iff.2 fun day d1 d2 => by
    have := fullT_iff.1 h1 day d1 d2
    have := cut_least hok hl (day := day) ha hab
    omega
  refine ⟨(worst_nn hok).2 h2, ?_⟩
  rw [worst_eq h1, worst_eq h2]
  exact vain_of (vain_nn hok l) fun day d1 d2 => by
    have := cut_vain hok (l := l) (a := a) (day := day)
    have := vain_day (p := p) (l := l) d1 d2
    omega
theorem cut_all {n : Nat} {l : List Int} {a b : Nat} (hl : l ∈ allC b n) (_hab : a ≤ b) : l.map (cutAt a) ∈ allC a n := by
  have hin := all_in hl
  have := seg_all (ds := dys a) n [] (l.map (cutAt a)) ?_ (by rw [List.length_map]; exact all_len hl)
  · simpa [allC] using this
  · intro z hz
    obtain ⟨y, hy, rfl⟩ := List.mem_map.1 hz
    have := hin y hy
    unfold cutAt dys
    by_cases h : y < a
    · rw [if_pos h]
      by_cases h1 : y = -1
      · simp [h1]
      · exact List.mem_append.2 (.inl (List.mem_map.2 ⟨y.toNat, List.mem_range.2 (by omega), by omega⟩))
    · rw [if_neg h]; simp
/-- The least of numbers that are not below 0. -/
theorem foldMin (g : List Int → Int) : ∀ (L : List (List Int)) (n : Int), let m := L.foldl (fun n l => if 0 ≤ g l ∧ (n < 0 ∨ g l < n) then g l else n) n
    (m < 0 → n < 0 ∧ ∀ l ∈ L, g l < 0) ∧ (0 ≤ m → (m = n ∨ ∃ l ∈ L, g l = m) ∧ (0 ≤ n → m ≤ n) ∧ ∀ l ∈ L, 0 ≤ g l → m ≤ g l)
  | [], n => by simp
  | y :: L, n => by
    intro m
    have ih := foldMin g L (if 0 ≤ g y ∧ (n < 0 ∨ g y < n) then g y else n)
    have hm : m = L.foldl (fun n l => if 0 ≤ g l ∧ (n < 0 ∨ g l < n) then g l else n) (if 0 ≤ g y ∧ (n < 0 ∨ g y < n) then g y else n) := rfl
    dsimp only at ih
    rw [← hm] at ih
    clear_value m
    by_cases hc : 0 ≤ g y ∧ (n < 0 ∨ g y < n)
    · rw [if_pos hc] at ih
      refine ⟨fun h => ?_, fun h => ?_⟩
      · have := (ih.1 h).1; omega
      · obtain ⟨h1, h2, h3⟩ := ih.2 h
        refine ⟨?_, fun hn => by have := h2 hc.1; omega, fun l hl hg => ?_⟩
        · rcases h1 with h1 | ⟨l, hl, h1⟩
          · exact .inr ⟨y, .head _, h1.symm⟩
          · exact .inr ⟨l, .tail _ hl, h1⟩
        · cases hl with
          | head => exact h2 hc.1
          | tail _ hl => exact h3 l hl hg
    · rw [if_neg hc] at ih
      refine ⟨fun h => ?_, fun h => ?_⟩
      · obtain ⟨h1, h2⟩ := ih.1 h
        refine ⟨h1, fun l hl => ?_⟩
        cases hl with
        | head => omega
        | tail _ hl => exact h2 l hl
      · obtain ⟨h1, h2, h3⟩ := ih.2 h
        refine ⟨?_, h2, fun l hl hg => ?_⟩
        · rcases h1 with h1 | ⟨l, hl, h1⟩
          · exact .inl h1
          · exact .inr ⟨l, .tail _ hl, h1⟩
        · cases hl with
          | head => by_cases hn : 0 ≤ n
                    · have := h2 hn; omega
                    · exact absurd ⟨hg, .inl (by omega)⟩ hc
          | tail _ hl => exact h3 l hl hg
theorem told_fold {p : Port} (hok : p.Ok) (d : Nat) : told p d = (allC d p.farms.length).foldl (fun n l => if 0 ≤ worst p l d ∧ (n < 0 ∨ worst p l d < n) then worst p l d else n) (-1) := by
  unfold told
  rw [List.foldl_map]
  have : ∀ (L : List (List Int)) (n : Int), (∀ l ∈ L, l.length = p.farms.length) → L.foldl (fun n l => toldStep p d n (pad l)) n = L.foldl (fun n l => if 0 ≤ worst p l d ∧ (n < 0 ∨ worst p l d < n) then worst p l d else n) n := by
    intro L
    induction L with
    | nil => intro n _; rfl
    | cons y L ih =>
      intro n h
      simp only [List.foldl_cons]
      rw [ih _ fun l hl => h l (.tail _ hl)]
      congr 1
      unfold toldStep
      rw [worst_pad _ (h y (.head _)) hok.len]
  exact this _ _ fun l hl => all_len hl
theorem told_some {p : Port} (hok : p.Ok) {d : Nat} (h : 0 ≤ told p d) : (∃ l ∈ allC d p.farms.length, worst p l d = told p d) ∧ ∀ l ∈ allC d p.farms.length, 0 ≤ worst p l d → told p d ≤ worst p l d := by
  have := foldMin (fun l => worst p l d) (allC d p.farms.length) (-1)
  dsimp only at this
  rw [← told_fold hok] at this
  obtain ⟨h1, _, h3⟩ := this.2 h
  refine ⟨?_, h3⟩
  rcases h1 with h1 | h1
  · omega
  · exact h1
theorem told_any {p : Port} (hok : p.Ok) {d : Nat} {l : List Int} (hl : l ∈ allC d p.farms.length) (h : 0 ≤ worst p l d) : 0 ≤ told p d := by
  have := foldMin (fun l => worst p l d) (allC d p.farms.length) (-1)
  dsimp only at this
  rw [← told_fold hok] at this
  by_cases h0 : told p d < 0
  · have := (this.1 h0).2 l hl; omega
  · omega
theorem told_mono {p : Port} (hok : p.Ok) {a b : Nat} (hab : a ≤ b) (hb : b ≤ 11) (h : 0 ≤ told p b) : 0 ≤ told p a ∧ told p a ≤ told p b := by
  obtain ⟨⟨l, hl, hw⟩, _⟩ := told_some hok h
  have hc := cut_worst hok (l := l) (fun z hz => by have := all_in hl z hz; omega) (a := a) (b := b) (by omega) (by omega) (by omega)
  have hm := cut_all hl hab
  have h0 := told_any hok hm hc.1
  exact ⟨h0, by have := (told_some hok h0).2 _ hm hc.1; omega⟩
theorem late_eleven {f : Farm} {day : Int} : canLate f 11 day = false := by
  unfold canLate
  rw [decide_eq_false (by omega)]; rfl
theorem leastT_eleven (fs : List Farm) (l : List Int) (day : Int) : leastT fs l 11 day = (on fs l day).least := by
  rw [leastT_sum, on_sum]
  dsimp only
  have : (fun q => cLo day q + cLate 11 day q) = cLo day := by
    funext q; unfold cLate; rw [late_eleven]; simp
  rw [this]
theorem told_plan {p : Port} (hck : (check p).2.2 = 0) (h : planE p = 0) : 0 ≤ told p 11 ∧ told p 11 ≤ planV p := by
  have hok := check_ok hck
  obtain ⟨h1, h2, _⟩ := plan_has hck h
  have hf := do_full h1
  have hT : fullT p (planL p) 11 = true := fullT_iff.2 fun day d1 d2 => by rw [leastT_eleven]; exact full_day hf d1 d2
  have hm := (List.mem_filter.1 h1).1
  have hw := (worst_nn hok).2 hT
  have h0 := told_any hok (d := 11) hm hw
  refine ⟨h0, ?_⟩
  have h5 : worst p (planL p) ((11 : Nat) : Int) = planV p := by rw [h2]; exact worst_eq hT
  have := (told_some hok h0).2 _ hm hw
  rw [h5] at this
  exact this
theorem told_e {p : Port} (hck : (check p).2.2 = 0) {z : Int} (h0 : 0 ≤ z) (h1 : z ≤ 10) : (toldE p z = 0 ∧ 0 ≤ told p z.toNat ∧ toldD p z = told p z.toNat) ∨ (toldE p z = 9 ∧ told p z.toNat < 0 ∧ toldD p z = 0) := by
  have ho : out 0 10 z = false := by simp [out]; omega
  unfold toldE toldD
  rw [if_pos hck, if_pos ho]
  by_cases h : told p z.toNat < 0
  · rw [if_pos h, if_neg (by omega)]; exact .inr ⟨rfl, h, rfl⟩
  · rw [if_neg h, if_pos ⟨hck, ho, by omega⟩]; exact .inl ⟨rfl, by omega, rfl⟩
theorem told_two {p : Port} (hck : (check p).2.2 = 0) {x y : Int} (h0 : 0 ≤ x) (h1 : x ≤ y) (h2 : y ≤ 10) :
    (toldE p x = 0 ∨ toldE p x = 9) ∧ (toldE p y = 0 ∨ toldE p y = 9) ∧ (toldE p y = 0 → toldE p x = 0 ∧ toldD p x ≤ toldD p y) ∧ (planE p = 0 → toldE p y = 0 ∧ toldD p y ≤ planV p) := by
  have hok := check_ok hck
  have ex := told_e hck h0 (show x ≤ 10 by omega)
  have ey := told_e hck (show 0 ≤ y by omega) h2
  refine ⟨by omega, by omega, fun h => ?_, fun h => ?_⟩
  · have := told_mono hok (a := x.toNat) (b := y.toNat) (by omega) (by omega) (by omega)
    omega
  · have ht := told_plan hck h
    have := told_mono hok (a := y.toNat) (b := 11) (by omega) (by omega) ht.1
    omega
/-- One day of Come. -/
def oneP (p : Port) (day : Int) : Port := { p with clo := day, chi := day }
theorem one_check {p : Port} (hck : (check p).2.2 = 0) {day : Int} (h1 : p.clo ≤ day) (h2 : day ≤ p.chi) : (check (oneP p day)).2.2 = 0 := by
  have hc := check_iff.1 hck
  have hcm := hc.1.come
  exact check_iff.2 ⟨⟨hc.1.hold, show 0 ≤ day ∧ day ≤ day ∧ day ≤ 10 by omega, hc.1.len, hc.1.farm⟩, hc.2⟩
def never_ (n : Nat) : List Int := List.replicate n (-1)
theorem all_zero : ∀ n pre, seg (dys 0) n pre = [pre ++ never_ n]
  | 0, pre => by simp [seg, never_]
  | n + 1, pre => by
    have e : seg (dys 0) (n + 1) pre = seg (dys 0) n (pre ++ [-1]) := by simp [seg, dys]
    rw [e, all_zero n]; simp [never_, List.replicate_succ]
theorem zip_never {fs : List Farm} {q : Farm × Int} (h : q ∈ fs.zip (never_ fs.length)) : q.2 = -1 := by
  have := (List.of_mem_zip h).2
  exact (List.mem_replicate.1 this).2
theorem never_vain (p : Port) : vain p (never_ p.farms.length) ≤ 0 := vain_of (by omega) fun day _ _ => by
  rw [on_sum]
  dsimp only
  rw [sum_zero _ fun q hq => by unfold cVain; rw [if_pos (zip_never hq)]]
  omega
theorem told_zero {p : Port} (hck : (check p).2.2 = 0) : (fullT p (never_ p.farms.length) 0 = true → toldE p 0 = 0 ∧ toldD p 0 = 0) ∧ (fullT p (never_ p.farms.length) 0 = false → toldE p 0 = 9) := by
  have hok := check_ok hck
  have ha : allC 0 p.farms.length = [never_ p.farms.length] := by unfold allC; rw [all_zero]; rfl
  have e := told_e hck (z := 0) (by omega) (by omega)
  have hv := never_vain p
  have hv2 := vain_nn hok (never_ p.farms.length)
  have hm : never_ p.farms.length ∈ allC 0 p.farms.length := by rw [ha]; simp
  constructor
  · intro h
    have hw : 0 ≤ worst p (never_ p.farms.length) ((0 : Nat) : Int) := (worst_nn hok).2 h
    have h0 := told_any hok (d := 0) hm hw
    have h1 := (told_some hok h0).2 _ hm hw
    have h2 : worst p (never_ p.farms.length) ((0 : Nat) : Int) = vain p (never_ p.farms.length) := worst_eq h
    have e0 : (0 : Int).toNat = 0 := rfl
    rw [e0] at e
    omega
  · intro h
    rcases e with e | e
    · exfalso
      obtain ⟨⟨l, hl, hw⟩, _⟩ := told_some hok (d := 0) e.2.1
      rw [ha, List.mem_singleton] at hl
      subst hl
      have h0 : 0 ≤ worst p (never_ p.farms.length) ((0 : Nat) : Int) := by rw [hw]; exact e.2.1
      have := (worst_nn hok).1 h0
      rw [show ((0 : Nat) : Int) = 0 from rfl, h] at this; cases this
    · exact e.1
def bestDay (fs : List Farm) (day : Int) : List Int := fs.map fun f => if canLate f 0 day then min 10 (day - f.way - f.notice) else -1
theorem sum_zipmap (g : Farm × Int → Int) (u : Farm → Int) : ∀ (fs : List Farm), sumC g (fs.zip (fs.map u)) = sumC (fun q => g (q.1, u q.1)) (fs.zip (never_ fs.length))
  | [] => rfl
  | f :: fs => by simp only [List.map_cons, List.zip_cons_cons, sumC_cons, List.length_cons, never_, List.replicate_succ]; rw [sum_zipmap g u fs]; rfl
theorem sum_congr {g h : Farm × Int → Int} : ∀ (l : List (Farm × Int)), (∀ q ∈ l, g q = h q) → sumC g l = sumC h l
  | [], _ => rfl
  | q :: l, hl => by simp only [sumC_cons]; rw [hl q (.head _), sum_congr l fun q hq => hl q (.tail _ hq)]
theorem best_all_mem {p : Port} (_hok : p.Ok) (day : Int) : bestDay p.farms day ∈ allC 11 p.farms.length := by
  have := seg_all (ds := dys 11) p.farms.length [] (bestDay p.farms day) ?_ (by simp [bestDay])
  · simpa [allC] using this
  · intro z hz
    obtain ⟨f, hf, rfl⟩ := List.mem_map.1 hz
    unfold dys
    split
    · rename_i h
      unfold canLate at h
      simp only [Bool.and_eq_true, decide_eq_true_eq] at h
      exact List.mem_append.2 (.inl (List.mem_map.2 ⟨(min 10 (day - f.way - f.notice)).toNat, List.mem_range.2 (by omega), by omega⟩))
    · simp
theorem best_on {fs : List Farm} (day : Int) : (on fs (bestDay fs day) day).least = leastT fs (never_ fs.length) 0 day ∧ (on fs (bestDay fs day) day).vain = 0 := by
  rw [on_sum, leastT_sum]
  dsimp only
  unfold bestDay
  rw [sum_zipmap, sum_zipmap]
  refine ⟨sum_congr _ fun q hq => ?_, sum_zero _ fun q hq => ?_⟩
  · have := zip_never hq
    unfold cLo cLate
    dsimp only
    rw [if_pos this, if_pos this]
    cases h : canLate q.1 0 day with
    | true =>
      have h2 := h
      unfold canLate at h2
      simp only [Bool.and_eq_true, decide_eq_true_eq] at h2
      simp only [if_true]
      rw [if_neg (by omega), if_pos h2.2]; omega
    | false => simp
  · unfold cVain
    dsimp only
    cases h : canLate q.1 0 day with
    | true =>
      have h2 := h
      unfold canLate at h2
      simp only [Bool.and_eq_true, decide_eq_true_eq] at h2
      simp only [if_true]
      rw [if_neg (by omega), if_pos h2.2]
    | false => simp
theorem any_least {p : Port} (hok : p.Ok) {l : List Int} (hl : ∀ z ∈ l, -1 ≤ z ∧ z ≤ 10) (hn : l.length = p.farms.length) (day : Int) : (on p.farms l day).least ≤ leastT p.farms (never_ p.farms.length) 0 day := by
  have h1 := cut_least hok hl (a := 0) (b := 11) (day := day) (by omega) (by omega)
  rw [leastT_eleven] at h1
  have e : l.map (cutAt 0) = never_ p.farms.length := by
    rw [never_, ← hn]
    refine List.ext_getElem (by simp) fun i h1 h2 => ?_
    have := hl _ (List.getElem_mem (by simpa using h1 : i < l.length))
    simp [cutAt]; omega
  rwa [e] at h1
theorem one_plan {p : Port} (hck : (check p).2.2 = 0) {day : Int} (h1 : p.clo ≤ day) (h2 : day ≤ p.chi) : (planE (oneP p day) = 0 ∨ planE (oneP p day) = 9) ∧ planV (oneP p day) = 0 ∧ (planE (oneP p day) = 0 ↔ p.hold ≤ leastT p.farms (never_ p.farms.length) 0 day) := by
  have hc1 := one_check hck h1 h2
  have hok := check_ok hck
  have hok1 := check_ok hc1
  have he := plan_e09 hc1
  have key : p.hold ≤ leastT p.farms (never_ p.farms.length) 0 day → bestDay p.farms day ∈ doC (oneP p day) := fun h => by
    refine do_mem (p := oneP p day) (best_all_mem hok day) (full_of fun d d1 d2 => ?_)
    have : d = day := by have : day ≤ d := d1; have : d ≤ day := d2; omega
    subst this
    show p.hold ≤ (on p.farms (bestDay p.farms d) d).least
    rw [(best_on d).1]; exact h
  have hvb : vain (oneP p day) (bestDay p.farms day) ≤ 0 := vain_of (by omega) fun d d1 d2 => by
    have : d = day := by have : day ≤ d := d1; have : d ≤ day := d2; omega
    subst this
    show (on p.farms (bestDay p.farms d) d).vain ≤ 0
    rw [(best_on d).2]; omega
  have hiff : planE (oneP p day) = 0 ↔ p.hold ≤ leastT p.farms (never_ p.farms.length) 0 day := by
    rw [plan_iff hc1]
    constructor
    · intro h
      have hm := List.getElem_mem h
      have hf := full_day (do_full hm) (day := day) (show day ≤ day by omega) (show day ≤ day by omega)
      have := any_least hok (l := (doC (oneP p day))[0]) (do_in hm) (show ((doC (oneP p day))[0]).length = p.farms.length from do_len (p := oneP p day) hm) day
      have hf2 : p.hold ≤ (on p.farms ((doC (oneP p day))[0]) day).least := hf
      omega
    · intro h; exact List.length_pos_of_mem (key h)
  refine ⟨he, ?_, hiff⟩
  by_cases h0 : planE (oneP p day) = 0
  · obtain ⟨g1, g2, g3⟩ := plan_has hc1 h0
    have hb := g3 _ (key (hiff.1 h0))
    have hv := vain_nn hok1 (planL (oneP p day))
    rw [g2]
    by_cases hlt : vain (oneP p day) (bestDay p.farms day) < vain (oneP p day) (planL (oneP p day))
    · rw [before_iff.2 (.inl hlt)] at hb; cases hb
    · omega
  · have hz : (doC (oneP p day)).length = 0 := by rw [(plan_not hc1 h0).1]; rfl
    exact (plan_e2 hc1 (best_none hz)).2.1
theorem sum_append (g : Farm × Int → Int) : ∀ (l m : List (Farm × Int)), sumC g (l ++ m) = sumC g l + sumC g m
  | [], m => by simp [sumC_nil]
  | q :: l, m => by simp only [List.cons_append, sumC_cons]; rw [sum_append g l m]; omega
/-- One farm more. -/
def moreP (p : Port) (f : Farm) : Port := { p with farms := p.farms ++ [f] }
theorem zip_more {fs : List Farm} {l : List Int} (f : Farm) (h : l.length = fs.length) : (fs ++ [f]).zip (l ++ [-1]) = fs.zip l ++ [(f, -1)] := by
  rw [List.zip_append h.symm]; rfl
theorem on_more {fs : List Farm} {l : List Int} (f : Farm) (h : l.length = fs.length) (day : Int) : on (fs ++ [f]) (l ++ [-1]) day = on fs l day := by
  rw [on_sum, on_sum, zip_more f h]
  simp only [sum_append, sumC_cons, sumC_nil, cLo, cHi, cVain, if_true]
  simp
theorem leastT_more {fs : List Farm} {l : List Int} {f : Farm} (hf : 0 ≤ f.lo) (h : l.length = fs.length) (start day : Int) : leastT fs l start day ≤ leastT (fs ++ [f]) (l ++ [-1]) start day := by
  rw [leastT_sum, leastT_sum, zip_more f h, sum_append]
  simp only [sumC_cons, sumC_nil, cLo, cLate, if_true]
  split <;> omega
theorem vain_le {p q : Port} {l m : List Int} (hq : q.Ok) (h : ∀ day, q.clo ≤ day → day ≤ q.chi → p.clo ≤ day ∧ day ≤ p.chi ∧ (on q.farms m day).vain ≤ (on p.farms l day).vain) : vain q m ≤ vain p l := by
  refine vain_of ?_ fun day d1 d2 => ?_
  · have hc := hq.come
    have h1 := h q.clo (by omega) (by omega)
    have := vain_day (p := p) (l := l) h1.1 h1.2.1
    have hb := on_bound (l := m) q.clo hq.len hq.farm
    omega
  · have h1 := h day d1 d2
    have := vain_day (p := p) (l := l) h1.1 h1.2.1
    omega
theorem all_more {n b : Nat} {l : List Int} (h : l ∈ allC b n) : l ++ [-1] ∈ allC b (n + 1) := by
  have := seg_all (ds := dys b) (n + 1) [] (l ++ [-1]) ?_ (by rw [List.length_append, all_len h]; rfl)
  · simpa [allC] using this
  · intro z hz
    rcases List.mem_append.1 hz with h1 | h1
    · rcases seg_mem _ _ _ h z h1 with h2 | h2
      · simp at h2
      · exact h2
    · rw [List.mem_singleton] at h1; subst h1; unfold dys; simp
theorem plan_le {p q : Port} (hp : (check p).2.2 = 0) (hq : (check q).2.2 = 0) (h : ∀ l ∈ doC p, ∃ m ∈ doC q, vain q m ≤ vain p l) (h0 : planE p = 0) : planE q = 0 ∧ planV q ≤ planV p := by
  obtain ⟨g1, g2, _⟩ := plan_has hp h0
  obtain ⟨m, hm, hv⟩ := h _ g1
  have hq0 := (plan_iff hq).2 (List.length_pos_of_mem hm)
  obtain ⟨k1, k2, k3⟩ := plan_has hq hq0
  refine ⟨hq0, ?_⟩
  rw [g2, k2]
  have hb := k3 m hm
  by_cases hlt : vain q m < vain q (planL q)
  · rw [before_iff.2 (.inl hlt)] at hb; cases hb
  · omega
theorem more_ok {p : Port} {f : Farm} (h : (check (moreP p f)).2.2 = 0) : f.Ok := (check_ok h).farm f (by show f ∈ p.farms ++ [f]; simp)
theorem more_plan {p : Port} {f : Farm} (hp : (check p).2.2 = 0) (hm : (check (moreP p f)).2.2 = 0) (h0 : planE p = 0) : planE (moreP p f) = 0 ∧ planV (moreP p f) ≤ planV p := by
  have hokm := check_ok hm
  refine plan_le hp hm (fun l hl => ⟨l ++ [-1], ?_, ?_⟩) h0
  · refine do_mem ?_ (full_of fun day d1 d2 => ?_)
    · show l ++ [-1] ∈ allC 11 (p.farms ++ [f]).length
      rw [List.length_append]; exact all_more (List.mem_filter.1 hl).1
    · show p.hold ≤ (on (p.farms ++ [f]) (l ++ [-1]) day).least
      rw [on_more f (do_len hl)]; exact full_day (do_full hl) d1 d2
  · refine vain_le hokm fun day d1 d2 => ⟨d1, d2, ?_⟩
    show (on (p.farms ++ [f]) (l ++ [-1]) day).vain ≤ _
    rw [on_more f (do_len hl)]; omega
theorem more_told {p : Port} {f : Farm} (hp : (check p).2.2 = 0) (hm : (check (moreP p f)).2.2 = 0) {z : Int} (h0 : 0 ≤ z) (h1 : z ≤ 10) (h : toldE p z = 0) : toldE (moreP p f) z = 0 ∧ toldD (moreP p f) z ≤ toldD p z := by
  have hok := check_ok hp
  have hokm := check_ok hm
  have hf := more_ok hm
  unfold Farm.Ok at hf
  have e1 := told_e hp h0 h1
  have e2 := told_e hm h0 h1
  have ht : 0 ≤ told p z.toNat := by omega
  obtain ⟨⟨l, hl, hw⟩, _⟩ := told_some hok ht
  have hlen := all_len hl
  have hmem : l ++ [-1] ∈ allC z.toNat (moreP p f).farms.length := by
    show l ++ [-1] ∈ allC z.toNat (p.farms ++ [f]).length
    rw [List.length_append]; exact all_more hl
  have hw0 : 0 ≤ worst p l (z.toNat : Int) := by omega
  have hT := (worst_nn hok).1 hw0
  have hT2 : fullT (moreP p f) (l ++ [-1]) (z.toNat : Int) = true := fullT_iff.2 fun day d1 d2 => by
    have := fullT_iff.1 hT day d1 d2
    have := leastT_more (f := f) (by omega) hlen (z.toNat : Int) day
    show p.hold ≤ leastT (p.farms ++ [f]) (l ++ [-1]) (z.toNat : Int) day
    omega
  have hv : vain (moreP p f) (l ++ [-1]) ≤ vain p l := vain_le hokm fun day d1 d2 => ⟨d1, d2, by
    show (on (p.farms ++ [f]) (l ++ [-1]) day).vain ≤ _
    rw [on_more f hlen]; omega⟩
  have hw2 := (worst_nn hokm).2 hT2
  have h3 := told_any hokm hmem hw2
  have h4 := (told_some hokm h3).2 _ hmem hw2
  rw [worst_eq hT2] at h4
  rw [worst_eq hT] at hw
  omega
/-- Moved: the ship, and all cables, so many days later. -/
def lateP (p : Port) (n : Int) : Port := { p with clo := p.clo + n, chi := p.chi + n }
def lateD (n z : Int) : Int := if z = -1 then -1 else z + n
theorem fresh_late {f : Farm} {z n day : Int} (hz : 0 ≤ z) (hn : 0 ≤ n) : fresh f (z + n) (day + n) = fresh f z day := by
  unfold fresh
  rw [show day + n - (z + n) - f.notice = day - z - f.notice by omega]
  simp [hz, show 0 ≤ z + n by omega]
theorem on_late {fs : List Farm} {l : List Int} {n : Int} (hn : 0 ≤ n) (hl : ∀ z ∈ l, -1 ≤ z) (day : Int) : on fs (l.map (lateD n)) (day + n) = on fs l day := by
  rw [on_sum, on_sum, sum_map, sum_map, sum_map]
  have key : ∀ q ∈ fs.zip l, cLo (day + n) (q.1, lateD n q.2) = cLo day q ∧ cHi (day + n) (q.1, lateD n q.2) = cHi day q ∧ cVain (day + n) (q.1, lateD n q.2) = cVain day q := by
    intro q hq
    have hz := hl _ (List.of_mem_zip hq).2
    unfold cLo cHi cVain lateD
    dsimp only
    by_cases h : q.2 = -1
    · simp [h]
    · rw [if_neg h]
      rw [fresh_late (by omega) hn]
      simp [h, show ¬ (q.2 + n = -1) by omega]
  rw [sum_congr _ fun q hq => (key q hq).1, sum_congr _ fun q hq => (key q hq).2.1, sum_congr _ fun q hq => (key q hq).2.2]
theorem loads_late {p : Port} {l : List Int} {n : Int} (hn : 0 ≤ n) (hl : ∀ z ∈ l, -1 ≤ z) : loads (lateP p n) (l.map (lateD n)) = loads p l := by
  unfold loads Port.days lateP
  dsimp only
  rw [show p.chi + n - (p.clo + n) + 1 = p.chi - p.clo + 1 by omega, List.map_map, List.map_map]
  refine List.map_congr_left fun k _ => ?_
  show on p.farms (l.map (lateD n)) (p.clo + n + (k : Int)) = on p.farms l (p.clo + (k : Int))
  rw [show p.clo + n + (k : Int) = p.clo + (k : Int) + n by omega]; exact on_late hn hl _
theorem moved_same {p : Port} {l : List Int} {n : Int} (hn : 0 ≤ n) (hl : ∀ z ∈ l, -1 ≤ z) (h1 : enterErr p l = 0) (h2 : enterErr (lateP p n) (l.map (lateD n)) = 0) : quayR (lateP p n) (l.map (lateD n)) = quayR p l ∧ fullR (lateP p n) (l.map (lateD n)) = fullR p l ∧ vainR (lateP p n) (l.map (lateD n)) = vainR p l := by
  have e := loads_late (p := p) hn hl
  unfold quayR fullR vainR
  rw [if_pos h1, if_pos h2, if_pos h1, if_pos h2, if_pos h1, if_pos h2]
  refine ⟨by unfold quay; rw [e], ?_, by unfold vain; rw [e]⟩
  unfold does
  rw [full_loads, full_loads, never_loads, never_loads, e]; rfl
/-- Easier: a shorter Come, a lesser Hold, a greater Keep, more hands at least. -/
def shortP (p : Port) (a b : Int) : Port := { p with clo := a, chi := b }
theorem short_check {p : Port} (hck : (check p).2.2 = 0) {a b : Int} (h1 : p.clo ≤ a) (h2 : a ≤ b) (h3 : b ≤ p.chi) : (check (shortP p a b)).2.2 = 0 := by
  have hc := check_iff.1 hck
  have hcm := hc.1.come
  exact check_iff.2 ⟨⟨hc.1.hold, show 0 ≤ a ∧ a ≤ b ∧ b ≤ 10 by omega, hc.1.len, hc.1.farm⟩, hc.2⟩
theorem short_vain {p : Port} (hck : (check p).2.2 = 0) {a b : Int} (h1 : p.clo ≤ a) (h2 : a ≤ b) (h3 : b ≤ p.chi) (l : List Int) : vain (shortP p a b) l ≤ vain p l :=
  vain_le (check_ok (short_check hck h1 h2 h3)) fun day d1 d2 => by
    have e1 : a ≤ day := d1
    have e2 : day ≤ b := d2
    exact ⟨by omega, by omega, by show (on p.farms l day).vain ≤ _; omega⟩
def easeF (f : Farm) (k lo : Int) : Farm := { f with keep := k, lo := lo }
def easyL (l : List Farm) (i : Nat) (k lo : Int) : List Farm := match l[i]? with
  | some f => l.set i (easeF f k lo)
  | none => l
def easyP (p : Port) (h a b : Int) (i : Nat) (k lo : Int) : Port := ⟨h, a, b, easyL p.farms i k lo⟩
theorem easyL_len (l : List Farm) (i : Nat) (k lo : Int) : (easyL l i k lo).length = l.length := by unfold easyL; split <;> simp
theorem easyL_at {l : List Farm} {i : Nat} (k lo : Int) (hi : i < l.length) : easyL l i k lo = l.set i (easeF l[i] k lo) := by unfold easyL; rw [List.getElem?_eq_getElem hi]
theorem easyL_names (l : List Farm) (i : Nat) (k lo : Int) : names (easyL l i k lo) = names l := by
  by_cases hi : i < l.length
  · rw [easyL_at k lo hi]
    unfold names
    rw [List.map_set]
    apply List.ext_getElem?
    intro j
    rw [List.getElem?_set]
    by_cases h : i = j
    · subst h; simp [hi, easeF]
    · simp [h]
  · unfold easyL; rw [List.getElem?_eq_none (by omega)]
theorem easy_check {p : Port} (hck : (check p).2.2 = 0) {h a b : Int} (h1 : p.clo ≤ a) (h2 : a ≤ b) (h3 : b ≤ p.chi) (hh : 1 ≤ h) (hh2 : h ≤ p.hold) {i : Nat} {k lo : Int} (hi : i < p.farms.length) (hk : p.farms[i].keep ≤ k) (hk2 : k ≤ 9) (hl : p.farms[i].lo ≤ lo) (hl2 : lo ≤ p.farms[i].hi) : (check (easyP p h a b i k lo)).2.2 = 0 := by
  have hc := check_iff.1 hck
  have hcm := hc.1.come
  have hho := hc.1.hold
  refine check_iff.2 ⟨⟨show 1 ≤ h ∧ h ≤ 200 by omega, show 0 ≤ a ∧ a ≤ b ∧ b ≤ 10 by omega, by show (easyL p.farms i k lo).length ≤ 3; rw [easyL_len]; exact hc.1.len, ?_⟩, by show namesOk [] (names (easyL p.farms i k lo)) = true; rw [easyL_names]; exact hc.2⟩
  intro f hf
  have hf2 : f ∈ p.farms.set i (easeF p.farms[i] k lo) := by rw [← easyL_at k lo hi]; exact hf
  rcases List.mem_or_eq_of_mem_set hf2 with h4 | h4
  · exact hc.1.farm f h4
  · subst h4
    have := hc.1.farm _ (List.getElem_mem hi)
    unfold Farm.Ok at this ⊢
    unfold easeF
    dsimp only
    omega
theorem sum_le2 {g h : Farm × Int → Int} : ∀ (fs gs : List Farm) (l : List Int), fs.length = gs.length → (∀ (j : Nat) (h1 : j < fs.length) (h2 : j < gs.length) (z : Int), g (fs[j], z) ≤ h (gs[j], z)) → sumC g (fs.zip l) ≤ sumC h (gs.zip l)
  | [], [], _, _, _ => by simp [sumC]
  | [], _ :: _, _, h, _ => by simp at h
  | _ :: _, [], _, h, _ => by simp at h
  | _ :: _, _ :: _, [], _, _ => by simp [sumC]
  | f :: fs, e :: gs, z :: l, hl, hj => by
    simp only [List.zip_cons_cons, sumC_cons]
    have h1 := hj 0 (by simp) (by simp) z
    have h2 := sum_le2 fs gs l (by simpa using hl) fun j h1 h2 z => by
      have := hj (j + 1) (by simpa using h1) (by simpa using h2) z
      simpa using this
    simp only [List.getElem_cons_zero] at h1
    omega
theorem fresh_ease {f : Farm} {k lo z day : Int} (hk : f.keep ≤ k) (h : fresh f z day = true) : fresh (easeF f k lo) z day = true := by
  unfold fresh out at h ⊢
  unfold easeF
  simp only [Bool.and_eq_true, decide_eq_true_eq, Bool.not_eq_true', Bool.or_eq_false_iff, decide_eq_false_iff_not] at h ⊢
  omega
theorem easy_least {p : Port} (hok : p.Ok) {i : Nat} {k lo : Int} (hi : i < p.farms.length) (hk : p.farms[i].keep ≤ k) (hl : p.farms[i].lo ≤ lo) (l : List Int) (day : Int) : (on p.farms l day).least ≤ (on (easyL p.farms i k lo) l day).least := by
  rw [on_sum, on_sum]
  dsimp only
  refine sum_le2 _ _ l (easyL_len _ _ _ _).symm fun j h1 h2 z => ?_
  have hfo := hok.farm _ (List.getElem_mem h1)
  unfold Farm.Ok at hfo
  by_cases h : i = j
  · subst h
    have e : (easyL p.farms i k lo)[i] = easeF p.farms[i] k lo := by simp [easyL_at k lo hi]
    rw [e]
    unfold cLo
    dsimp only
    split
    · omega
    · by_cases hf : fresh p.farms[i] z day = true
      · rw [if_pos hf, if_pos (fresh_ease hk hf)]
        show p.farms[i].lo ≤ lo
        omega
      · rw [if_neg hf]
        have : 0 ≤ (easeF p.farms[i] k lo).lo := by show 0 ≤ lo; omega
        split <;> omega
  · have e : (easyL p.farms i k lo)[j] = p.farms[j] := by simp [easyL_at k lo hi, h]
    rw [e]; omega
theorem easy_plan {p : Port} (hck : (check p).2.2 = 0) {h a b : Int} (h1 : p.clo ≤ a) (h2 : a ≤ b) (h3 : b ≤ p.chi) (hh : 1 ≤ h) (hh2 : h ≤ p.hold) {i : Nat} {k lo : Int} (hi : i < p.farms.length) (hk : p.farms[i].keep ≤ k) (hk2 : k ≤ 9) (hl : p.farms[i].lo ≤ lo) (hl2 : lo ≤ p.farms[i].hi) (h0 : planE p = 0) : planE (easyP p h a b i k lo) = 0 := by
  have hce := easy_check hck h1 h2 h3 hh hh2 hi hk hk2 hl hl2
  obtain ⟨g1, _, _⟩ := plan_has hck h0
  refine (plan_iff hce).2 (List.length_pos_of_mem (do_mem (l := planL p) ?_ (full_of fun day d1 d2 => ?_)))
  · show planL p ∈ allC 11 (easyL p.farms i k lo).length
    rw [easyL_len]; exact (List.mem_filter.1 g1).1
  · have e1 : a ≤ day := d1
    have e2 : day ≤ b := d2
    have := full_day (do_full g1) (day := day) (by omega) (by omega)
    have := easy_least (check_ok hck) hi hk hl (planL p) day
    show h ≤ (on (easyL p.farms i k lo) (planL p) day).least
    omega
theorem short_plan {p : Port} (hck : (check p).2.2 = 0) {h a b : Int} (h1 : p.clo ≤ a) (h2 : a ≤ b) (h3 : b ≤ p.chi) (hh : 1 ≤ h) (hh2 : h ≤ p.hold) (h0 : planE p = 0) : planE ⟨h, a, b, p.farms⟩ = 0 := by
  have hc := check_iff.1 hck
  have hcm := hc.1.come
  have hho := hc.1.hold
  have hce : (check ⟨h, a, b, p.farms⟩).2.2 = 0 := check_iff.2 ⟨⟨show 1 ≤ h ∧ h ≤ 200 by omega, show 0 ≤ a ∧ a ≤ b ∧ b ≤ 10 by omega, hc.1.len, hc.1.farm⟩, hc.2⟩
  obtain ⟨g1, _, _⟩ := plan_has hck h0
  refine (plan_iff hce).2 (List.length_pos_of_mem (do_mem (l := planL p) (List.mem_filter.1 g1).1 (full_of fun day d1 d2 => ?_)))
  have e1 : a ≤ day := d1
  have e2 : day ≤ b := d2
  have := full_day (do_full g1) (day := day) (by omega) (by omega)
  show h ≤ (on p.farms (planL p) day).least
  omega
end Go.Rt
