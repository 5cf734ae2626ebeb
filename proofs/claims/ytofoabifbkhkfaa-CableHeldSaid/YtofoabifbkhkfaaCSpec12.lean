/- Plain words of the cable layer's reference: its Plan, Held, Early, Told are the program's. No conditions. -/
import Derived.Test.YtofoabifbkhkfaaCSpec11
set_option linter.unusedSimpArgs false
namespace Go.Rt
theorem beforeL_asymm : ∀ (a b : List Int), beforeL a b = true → beforeL b a = false
  | [], _, h => by simp [beforeL] at h
  | _ :: _, [], h => by simp [beforeL] at h
  | x :: a, y :: b, h => by
    simp only [beforeL] at h ⊢
    by_cases e : x = y
    · subst e
      simp only [if_true] at h ⊢
      exact beforeL_asymm a b h
    · rw [if_neg e] at h
      rw [if_neg (Ne.symm e)]
      simp only [Bool.or_eq_true, Bool.and_eq_true, decide_eq_true_eq, Bool.not_eq_true', decide_eq_false_iff_not] at h
      simp only [Bool.or_eq_false_iff, Bool.and_eq_false_iff, decide_eq_false_iff_not, Bool.not_eq_false', decide_eq_true_eq]
      omega
theorem beforeL_first {pre : List Int} {x y a b : List Int} {d e : Int} (hx : x = pre ++ d :: a) (hy : y = pre ++ e :: b) (h : (decide (e = -1) || (!decide (d = -1) && decide (d < e))) = true) (hde : d ≠ e) : beforeL x y = true := by
  subst hx hy
  induction pre with
  | nil => simp only [List.nil_append, beforeL]; rw [if_neg hde]; exact h
  | cons z pre ih => simp only [List.cons_append, beforeL, if_true]; exact ih
theorem pair_flat {α β : Type} {R : β → β → Prop} {f : α → List β} {S : α → α → Prop} : ∀ (l : List α), l.Pairwise S → (∀ a ∈ l, (f a).Pairwise R) → (∀ a ∈ l, ∀ b ∈ l, S a b → ∀ x ∈ f a, ∀ y ∈ f b, R x y) → (l.flatMap f).Pairwise R
  | [], _, _, _ => by simp
  | a :: l, hn, h1, h2 => by
    rw [List.flatMap_cons, List.pairwise_append]
    rw [List.pairwise_cons] at hn
    refine ⟨h1 a (.head _), pair_flat l hn.2 (fun b hb => h1 b (.tail _ hb)) (fun b hb c hc => h2 b (.tail _ hb) c (.tail _ hc)), ?_⟩
    intro x hx y hy
    obtain ⟨b, hb, hyb⟩ := List.mem_flatMap.1 hy
    exact h2 a (.head _) b (.tail _ hb) (hn.1 b hb) x hx y hyb
def dayLt (d e : Int) : Prop := d ≠ e ∧ (decide (e = -1) || (!decide (d = -1) && decide (d < e))) = true
theorem dys_sorted (below : Nat) : (dys below).Pairwise dayLt := by
  unfold dys
  rw [List.pairwise_append]
  refine ⟨?_, by simp, ?_⟩
  · rw [List.pairwise_map]
    refine List.pairwise_lt_range.imp fun h => ?_
    unfold dayLt
    simp only [Bool.or_eq_true, Bool.and_eq_true, decide_eq_true_eq, Bool.not_eq_true', decide_eq_false_iff_not]
    omega
  · intro a ha b hb
    obtain ⟨k, _, rfl⟩ := List.mem_map.1 ha
    rw [List.mem_singleton] at hb
    subst hb
    refine ⟨by omega, by simp⟩
theorem seg_split {ds : List Int} {n : Nat} {pre x : List Int} (h : x ∈ seg ds n pre) : ∃ a, x = pre ++ a := ⟨x.drop pre.length, by
  have := seg_take n _ _ h
  conv => lhs; rw [← List.take_append_drop pre.length x, this]⟩
theorem seg_sorted {ds : List Int} (hd : ds.Pairwise dayLt) : ∀ (n : Nat) (pre : List Int), (seg ds n pre).Pairwise fun a b => beforeL a b = true
  | 0, pre => by simp [seg]
  | n + 1, pre => by
    simp only [seg]
    refine pair_flat ds hd (fun d _ => seg_sorted hd n _) ?_
    intro d _ e _ hde x hx y hy
    obtain ⟨a, rfl⟩ := seg_split hx
    obtain ⟨b, rfl⟩ := seg_split hy
    exact beforeL_first (pre := pre) (d := d) (e := e) (a := a) (b := b) (by simp) (by simp) hde.2 hde.1
theorem allC_sorted (below n : Nat) : (allC below n).Pairwise fun a b => beforeL a b = true := seg_sorted (dys_sorted below) n []
theorem doC_sorted (p : Port) : (doC p).Pairwise fun a b => beforeL a b = true := (allC_sorted _ _).sublist List.filter_sublist
/-- The reference's best cables. -/
def rsel (p : Port) (b l : List Int) : List Int := if before p l b then l else b
def rbUpto (p : Port) (L : List (List Int)) (i : Nat) : List Int := (L.take i).tail.foldl (rsel p) (L.headD [])
theorem rb_one {p : Port} {L : List (List Int)} (h : 0 < L.length) : rbUpto p L 1 = L[0] := by
  cases L with
  | nil => simp at h
  | cons x L => rfl
theorem rb_succ {p : Port} {L : List (List Int)} {i : Nat} (h1 : 1 ≤ i) (hi : i < L.length) : rbUpto p L (i + 1) = rsel p (rbUpto p L i) L[i] := by
  unfold rbUpto
  have : (L.take (i + 1)).tail = (L.take i).tail ++ [L[i]] := by
    rw [List.take_succ_eq_append_getElem hi]
    cases L with
    | nil => simp at hi
    | cons x L =>
      match i, h1 with
      | i + 1, _ => simp
  rw [this, List.foldl_append]; rfl
theorem rb_mem {p : Port} {L : List (List Int)} : ∀ {i : Nat}, 1 ≤ i → i ≤ L.length → ∃ j, j < i ∧ ∃ h : j < L.length, rbUpto p L i = L[j]
  | 1, _, hi => ⟨0, by omega, by omega, rb_one (by omega)⟩
  | i + 2, _, hi => by
    obtain ⟨j, h1, h2, h3⟩ := rb_mem (i := i + 1) (p := p) (L := L) (by omega) (by omega)
    rw [rb_succ (by omega) (by omega)]
    unfold rsel
    split
    · exact ⟨i + 1, by omega, by omega, rfl⟩
    · exact ⟨j, by omega, h2, h3⟩
theorem rb_in {p : Port} {L : List (List Int)} {i : Nat} (h : 1 ≤ i) (hi : i ≤ L.length) : rbUpto p L i ∈ L := by
  obtain ⟨j, _, h2, h3⟩ := rb_mem (p := p) h hi
  rw [h3]; exact List.getElem_mem h2
theorem cut_pad {fs : List Farm} {l : List Int} (h : l.length = fs.length) (h3 : fs.length ≤ 3) : cut fs (pad l) = cut fs l := by unfold cut; rw [zip_pad h h3]
theorem before_less {p : Port} {l b : List Int} (h : beforeL b l = true) : before p l b = less [vain p l, cut p.farms l] [vain p b, cut p.farms b] := by
  unfold before
  simp only [less]
  by_cases h1 : vain p l = vain p b
  · rw [if_pos h1, if_pos h1]
    by_cases h2 : cut p.farms l = cut p.farms b
    · rw [if_pos h2, if_pos h2, beforeL_asymm _ _ h]
    · rw [if_neg h2, if_neg h2]
  · rw [if_neg h1, if_neg h1]
theorem doP_length (p : Port) : (doP p).length = (doC p).length := by simp [doP]
theorem best_rb {p : Port} (hok : p.Ok) : ∀ {i : Nat}, 1 ≤ i → i ≤ (doC p).length → bestUpto p (doP p) i = ⟨true, pad (rbUpto p (doC p) i), vain p (rbUpto p (doC p) i), cut p.farms (rbUpto p (doC p) i)⟩
  | 1, _, hi => by
    have h0 : 0 < (doP p).length := by rw [doP_length]; omega
    have e : (doP p)[0] = pad (doC p)[0] := by simp [doP]
    have hl := do_len (List.getElem_mem (show 0 < (doC p).length by omega))
    rw [bestUpto_succ h0, rb_one (by omega), e, bstep_take (.inl rfl), vain_pad hl hok.len, cut_pad hl hok.len]
  | i + 2, _, hi => by
    have ih := best_rb hok (i := i + 1) (by omega) (by omega)
    have h0 : i + 1 < (doP p).length := by rw [doP_length]; omega
    have e : (doP p)[i + 1] = pad (doC p)[i + 1] := by simp [doP]
    have hl := do_len (List.getElem_mem (show i + 1 < (doC p).length by omega))
    obtain ⟨j, hj, hj2, hb⟩ := rb_mem (p := p) (L := doC p) (i := i + 1) (by omega) (by omega)
    have hi1 : i + 1 < (doC p).length := by omega
    have hbl : beforeL (rbUpto p (doC p) (i + 1)) (doC p)[i + 1] = true := by
      rw [hb]; exact List.pairwise_iff_getElem.1 (doC_sorted p) j (i + 1) hj2 hi1 hj
    rw [bestUpto_succ h0, ih, show rbUpto p (doC p) (i + 2) = _ from rb_succ (i := i + 1) (by omega) hi1, e]
    generalize rbUpto p (doC p) (i + 1) = z at hbl ⊢
    unfold bstep rsel
    rw [before_less hbl, vain_pad hl hok.len, cut_pad hl hok.len]
    simp only [Bool.true_eq_false, false_or]
    split <;> rfl
theorem best_all {p : Port} (hok : p.Ok) (h : 0 < (doC p).length) : best p (doP p) = ⟨true, pad (rbUpto p (doC p) (doC p).length), vain p (rbUpto p (doC p) (doC p).length), cut p.farms (rbUpto p (doC p) (doC p).length)⟩ := by
  rw [← best_rb hok h (Nat.le_refl _), bestUpto_all (by simp [doP])]
theorem plan_rb {p : Port} (hck : (check p).2.2 = 0) (h : 0 < (doC p).length) : planL p = rbUpto p (doC p) (doC p).length ∧ planV p = vain p (rbUpto p (doC p) (doC p).length) ∧ planE p = 0 := by
  have hok := check_ok hck
  have hb := best_all hok h
  obtain ⟨h1, h2, h3⟩ := plan_ok hck (by rw [hb])
  have hl := do_len (rb_in (p := p) (L := doC p) h (Nat.le_refl _))
  refine ⟨?_, ?_, h3⟩
  · rw [h1, hb, ← hl]
    exact pad_take (by rw [hl]; exact hok.len)
  · rw [h2, hb]; exact vain_pad hl hok.len
theorem best_none {p : Port} (h : (doC p).length = 0) : (best p (doP p)).found = false := by
  have : doC p = [] := List.length_eq_zero_iff.1 h
  unfold best doP; rw [this]; rfl
/-- Held, over the lists as they are. -/
theorem pad_get {l : List Int} {f : Nat} (hl : l.length ≤ 3) (hf : f < l.length) : (pad l).getD f 0 = l[f] := by
  unfold pad
  rw [List.take_of_length_le hl]
  simp [List.getD, List.getElem?_append_left hf, hf]
theorem doP_get {p : Port} (hok : p.Ok) {i f : Nat} (hi : i < (doC p).length) (hi2 : i < (doP p).length) (hf : f < ((doC p)[i]).length) : ((doP p)[i]).getD f 0 = ((doC p)[i])[f] := by
  have hl := do_len (List.getElem_mem hi)
  have e : (doP p)[i] = pad (doC p)[i] := by simp [doP]
  rw [e, pad_get (by rw [hl]; exact hok.len) hf]
/-- Told: whether bunches can be fresh, by any cable from some day on. -/
def canUpto (f : Farm) (start day : Int) (k : Nat) : Bool := (List.range k).any fun (j : Nat) => fresh f (start + (j : Int)) day
theorem canUpto_succ (f : Farm) (start day : Int) (k : Nat) : canUpto f start day (k + 1) = (canUpto f start day k || fresh f (start + (k : Int)) day) := by
  unfold canUpto; rw [List.range_succ, List.any_append]; simp
theorem can_late {f : Farm} {start day : Int} (h0 : 0 ≤ start) : canUpto f start day (11 - start).toNat = canLate f start day := by
  rw [Bool.eq_iff_iff]
  unfold canUpto canLate
  simp only [List.any_eq_true, List.mem_range, Bool.and_eq_true, decide_eq_true_eq, fresh, out, Bool.not_eq_true', Bool.or_eq_false_iff, decide_eq_false_iff_not]
  constructor
  · rintro ⟨j, hj, h1, h2⟩
    omega
  · rintro ⟨h1, h2, h3⟩
    refine ⟨((min 10 (day - f.way - f.notice)) - start).toNat, by omega, by omega, ?_⟩
    omega
def thenR (p : Port) (g : List Int) (start day : Int) : Int := if leastT p.farms g start day < p.hold then -1 else (on p.farms g day).vain
theorem leastT_pad {fs : List Farm} {l : List Int} (start day : Int) (h : l.length = fs.length) (h3 : fs.length ≤ 3) : leastT fs (pad l) start day = leastT fs l start day := by
  unfold leastT; rw [zip_pad h h3, on_pad day h h3]
theorem worst_pad {p : Port} {l : List Int} (start : Int) (h : l.length = p.farms.length) (h3 : p.farms.length ≤ 3) : worst p (pad l) start = worst p l start := by
  unfold worst
  rw [vain_pad h h3]
  have : fullT p (pad l) start = fullT p l start := by unfold fullT; congr 1; funext d; rw [leastT_pad start d h h3]
  rw [this]
theorem vain_nn {p : Port} (hok : p.Ok) (l : List Int) : 0 ≤ vain p l := by
  unfold vain
  have : ∀ (L : List Load) (n : Int), 0 ≤ n → 0 ≤ L.foldl (fun n x => max n x.vain) n := by
    intro L
    induction L with
    | nil => intro n h; exact h
    | cons x L ih => intro n h; exact ih _ (show 0 ≤ max n x.vain by omega)
  exact this _ _ (by omega)
end Go.Rt
