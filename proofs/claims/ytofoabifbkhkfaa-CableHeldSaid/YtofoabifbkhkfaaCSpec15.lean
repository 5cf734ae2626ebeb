/- Plain words of the cable layer's laws: when a port is valid; Held and Early as they are told. No conditions. -/
import Derived.Test.YtofoabifbkhkfaaCSpec14
set_option linter.unusedSimpArgs false
namespace Go.Rt
def namesOk : List ByteArray → List ByteArray → Bool
  | _, [] => true
  | b, n :: l => nmOk n && !has b n && namesOk (b ++ [n]) l
theorem farmErr_iff {f : Farm} : farmErr f = 0 ↔ f.Ok := by
  unfold farmErr ends Farm.Ok out
  simp only [Bool.or_eq_true, decide_eq_true_eq]
  constructor
  · intro h
    split at h
    · omega
    · split at h
      · omega
      · split at h <;> omega
  · intro h
    rw [if_neg (by omega), if_neg (by omega), if_neg (by omega)]
theorem fErr_iff {b : List ByteArray} {f : Farm} : fErr b f = 0 ↔ (nmOk f.name && !has b f.name) = true ∧ f.Ok := by
  unfold fErr
  split
  · rename_i h
    split
    · rename_i h2; simp [h, h2]
    · rename_i h2; rw [farmErr_iff]; simp [h, h2]
  · rename_i h; simp [h]
theorem farmsErr_iff : ∀ (l : List Farm) (b : List ByteArray) (j : Int), (farmsErr b j l).2.2 = 0 ↔ namesOk b (names l) = true ∧ ∀ f ∈ l, f.Ok
  | [], b, j => by simp [farmsErr, names, namesOk]
  | f :: l, b, j => by
    have e : names (f :: l) = f.name :: names l := rfl
    rw [e]
    simp only [farmsErr, namesOk]
    split
    · rename_i h
      have h2 := fErr_iff.1 h
      rw [farmsErr_iff l, h2.1, Bool.true_and]
      constructor
      · rintro ⟨h3, h4⟩
        refine ⟨h3, fun g hg => ?_⟩
        cases hg with
        | head => exact h2.2
        | tail _ hg => exact h4 g hg
      · rintro ⟨h3, h4⟩; exact ⟨h3, fun g hg => h4 g (.tail _ hg)⟩
    · rename_i h
      constructor
      · intro h2; exact absurd h2 h
      · rintro ⟨h3, h4⟩
        rw [Bool.and_eq_true] at h3
        exact absurd (fErr_iff.2 ⟨h3.1, h4 f (.head _)⟩) h
theorem check_iff {p : Port} : (check p).2.2 = 0 ↔ p.Ok ∧ namesOk [] (names p.farms) = true := by
  constructor
  · intro h
    refine ⟨check_ok h, ?_⟩
    unfold check at h
    split at h
    · simp at h
    · split at h
      · simp at h
      · split at h
        · simp at h
        · exact ((farmsErr_iff _ _ _).1 h).1
  · rintro ⟨hok, hn⟩
    have h1 := hok.hold
    have h2 := hok.come
    have h3 := hok.len
    unfold check
    rw [if_neg (by simp only [out, Bool.or_eq_true, decide_eq_true_eq]; omega), if_neg (by omega), if_neg (by omega)]
    exact (farmsErr_iff _ _ _).2 ⟨hn, hok.farm⟩
theorem names_setKeep (l : List Farm) (i : Nat) (k : Int) : names (setKeep l i k) = names l := by
  unfold names setKeep
  apply List.ext_getElem?
  intro j
  simp only [List.getElem?_map, List.getElem?_modify]
  cases h : l[j]? with
  | none => rfl
  | some f => simp; split <;> rfl
theorem check_kept {p : Port} (h : (check p).2.2 = 0) {i : Nat} {k : Int} (hi : i < p.farms.length) (h1 : p.farms[i].keep ≤ k) (h2 : k ≤ 9) : (check (kept p i k)).2.2 = 0 := by
  have hc := check_iff.1 h
  refine check_iff.2 ⟨kept_ok hc.1 hi h1 h2, ?_⟩
  show namesOk [] (names (setKeep p.farms i k)) = true
  rw [names_setKeep]; exact hc.2
theorem kept_names {p : Port} (h : ∀ f ∈ p.farms, f.name.size ≤ 9223372036854775807) (i : Nat) (k : Int) : ∀ f ∈ (kept p i k).farms, f.name.size ≤ 9223372036854775807 := by
  intro f hf
  have hm : f.name ∈ names (setKeep p.farms i k) := List.mem_map.2 ⟨f, hf, rfl⟩
  rw [names_setKeep] at hm
  obtain ⟨g, hg, e⟩ := List.mem_map.1 hm
  rw [← e]; exact h g hg
theorem kept_len (p : Port) (i : Nat) (k : Int) : (kept p i k).farms.length = p.farms.length := setKeep_len _ _ _
theorem kept_same {p : Port} {i : Nat} (hi : i < p.farms.length) : kept p i p.farms[i].keep = p := by
  unfold kept; rw [setKeep_same hi]
theorem can_plan {p : Port} (h : (check p).2.2 = 0) {i : Nat} {k : Int} (hi : i < p.farms.length) (h1 : p.farms[i].keep ≤ k) (h2 : k ≤ 9) : planE (kept p i k) = if canAt p i k = true then 0 else 9 := by
  have hc := check_kept h hi h1 h2
  have he := plan_e09 hc
  have hi2 := plan_iff hc
  unfold canAt
  cases hd : doC (kept p i k) with
  | nil => rw [hd] at hi2; simp at hi2 ⊢; omega
  | cons x l => rw [hd] at hi2; simp at hi2 ⊢; exact hi2
theorem earlyK_spec (p : Port) (i : Nat) : ∀ (n : Nat) (k : Int), match earlyK p i k n with
    | some k' => k ≤ k' ∧ k' < k + n ∧ canAt p i k' = true ∧ ∀ k'', k ≤ k'' → k'' < k' → canAt p i k'' = false
    | none => ∀ k'', k ≤ k'' → k'' < k + n → canAt p i k'' = false
  | 0, k => by simp only [earlyK]; intro k'' h1 h2; omega
  | n + 1, k => by
    unfold earlyK
    by_cases h : canAt p i k = true
    · rw [if_pos h]; exact ⟨by omega, by omega, h, fun k'' h1 h2 => by omega⟩
    · rw [if_neg h]
      have ih := earlyK_spec p i n (k + 1)
      have hf : canAt p i k = false := by simpa using h
      cases he : earlyK p i (k + 1) n with
      | some k' =>
        rw [he] at ih
        refine ⟨by omega, by omega, ih.2.2.1, fun k'' h1 h2 => ?_⟩
        by_cases e : k'' = k
        · rw [e]; exact hf
        · exact ih.2.2.2 k'' (by omega) h2
      | none =>
        rw [he] at ih
        intro k'' h1 h2
        by_cases e : k'' = k
        · rw [e]; exact hf
        · exact ih k'' (by omega) (by omega)
theorem can_none {p : Port} (h : doC p = []) {i : Nat} (hi : i < p.farms.length) : canAt p i p.farms[i].keep = false := by
  unfold canAt; rw [kept_same hi, h]; rfl
/-- What Early has, from some farm on. -/
theorem earlyFrom_spec {p : Port} (hck : (check p).2.2 = 0) (hd : doC p = []) : ∀ (m i : Nat), i + m = p.farms.length →
    ((earlyFrom p i (p.farms.drop i)).2.2 = 0 ∧ ∃ (f : Nat) (hf : f < p.farms.length), i ≤ f ∧ (earlyFrom p i (p.farms.drop i)).1 = f ∧ 1 ≤ (earlyFrom p i (p.farms.drop i)).2.1 ∧ (earlyFrom p i (p.farms.drop i)).2.1 ≤ 9 - p.farms[f].keep ∧
      planE (kept p f (p.farms[f].keep + (earlyFrom p i (p.farms.drop i)).2.1)) = 0 ∧ planE (kept p f (p.farms[f].keep + (earlyFrom p i (p.farms.drop i)).2.1 - 1)) = 9 ∧ ∀ j, i ≤ j → j < f → planE (kept p j 9) = 9) ∨
    ((earlyFrom p i (p.farms.drop i)).2.2 = 9 ∧ ∀ j, i ≤ j → j < p.farms.length → planE (kept p j 9) = 9)
  | 0, i, h => by
    right
    rw [List.drop_of_length_le (by omega)]
    exact ⟨rfl, fun j h1 h2 => by omega⟩
  | m + 1, i, h => by
    have hi : i < p.farms.length := by omega
    have hok := (check_ok hck).farm _ (List.getElem_mem hi)
    unfold Farm.Ok at hok
    rw [early_here hi]
    have hs := earlyK_spec p i (9 - p.farms[i].keep).toNat (p.farms[i].keep + 1)
    have h0 := can_none hd hi
    cases he : earlyK p i (p.farms[i].keep + 1) (9 - p.farms[i].keep).toNat with
    | some k =>
      rw [he] at hs
      obtain ⟨h1, h2, h3, h4⟩ := hs
      left
      refine ⟨rfl, i, hi, Nat.le_refl _, rfl, by dsimp only; omega, by dsimp only; omega, ?_, ?_, fun j h1 h2 => by omega⟩
      · dsimp only
        rw [show p.farms[i].keep + (k - p.farms[i].keep) = k by omega, can_plan hck hi (by omega) (by omega), h3]; rfl
      · dsimp only
        rw [show p.farms[i].keep + (k - p.farms[i].keep) - 1 = k - 1 by omega, can_plan hck hi (by omega) (by omega)]
        have : canAt p i (k - 1) = false := by
          by_cases e : k - 1 = p.farms[i].keep
          · rw [e]; exact h0
          · exact h4 _ (by omega) (by omega)
        rw [this]; rfl
    | none =>
      rw [he] at hs
      have h9 : planE (kept p i 9) = 9 := by
        rw [can_plan hck hi (by omega) (by omega)]
        have : canAt p i 9 = false := by
          by_cases e : p.farms[i].keep = 9
          · rw [← e]; exact h0
          · exact hs 9 (by omega) (by omega)
        rw [this]; rfl
      rcases earlyFrom_spec hck hd m (i + 1) (by omega) with ⟨g1, f, hf, g2, g3, g4, g5, g6, g7, g8⟩ | ⟨g1, g2⟩
      · left
        refine ⟨g1, f, hf, by omega, g3, g4, g5, g6, g7, fun j h1 h2 => ?_⟩
        by_cases e : j = i
        · rw [e]; exact h9
        · exact g8 j (by omega) h2
      · right
        refine ⟨g1, fun j h1 h2 => ?_⟩
        by_cases e : j = i
        · rw [e]; exact h9
        · exact g2 j (by omega) h2
theorem early_spec {p : Port} (hck : (check p).2.2 = 0) (hd : doC p = []) {e1 e2 e3 : Int} (he : earlyD p = (e1, e2, e3)) :
    (e3 = 0 ∧ ∃ (f : Nat) (hf : f < p.farms.length), e1 = f ∧ 1 ≤ e2 ∧ e2 ≤ 9 - p.farms[f].keep ∧ planE (kept p f (p.farms[f].keep + e2)) = 0 ∧ planE (kept p f (p.farms[f].keep + e2 - 1)) = 9 ∧ ∀ j, j < f → planE (kept p j 9) = 9) ∨
    (e3 = 9 ∧ ∀ j, j < p.farms.length → planE (kept p j 9) = 9) := by
  have h1 : earlyD p = earlyFrom p 0 (p.farms.drop 0) := by unfold earlyD; rw [if_pos hck, hd]; rfl
  have := earlyFrom_spec hck hd p.farms.length 0 (by omega)
  rw [← h1, he] at this
  rcases this with ⟨g1, f, hf, _, g3, g4, g5, g6, g7, g8⟩ | ⟨g1, g2⟩
  · exact .inl ⟨g1, f, hf, g3, g4, g5, g6, g7, fun j hj => g8 j (by omega) hj⟩
  · exact .inr ⟨g1, fun j hj => g2 j (by omega) hj⟩
/-- Held: what it is. -/
theorem maxF (g : List Int → Int) (L : List (List Int)) : ∀ n : Int, n ≤ L.foldl (fun n l => max n (g l)) n ∧ (∀ l ∈ L, g l ≤ L.foldl (fun n l => max n (g l)) n) ∧ (L.foldl (fun n l => max n (g l)) n = n ∨ ∃ l ∈ L, g l = L.foldl (fun n l => max n (g l)) n) := by
  induction L with
  | nil => intro n; simp
  | cons y L ih =>
    intro n
    have := ih (max n (g y))
    simp only [List.foldl_cons]
    refine ⟨by omega, fun x hx => ?_, ?_⟩
    · cases hx with
      | head => omega
      | tail _ hx => exact this.2.1 x hx
    · rcases this.2.2 with h | ⟨l, hl, h⟩
      · by_cases hm : g y ≤ n
        · left; rw [h]; omega
        · right; exact ⟨y, .head _, by rw [h]; omega⟩
      · exact .inr ⟨l, .tail _ hl, h⟩
theorem pad_getD {l : List Int} {f : Nat} (hl : l.length ≤ 3) (hf : f < l.length) : (pad l).getD f 0 = l.getD f 0 := by
  rw [pad_get hl hf]; simp [List.getD, hf]
theorem held_eq {p : Port} (hok : p.Ok) {f : Nat} (hf : f < p.farms.length) : held p f = (doC p).foldl (fun n l => max n (l.getD f 0)) 0 := by
  unfold held doP
  rw [List.foldl_map]
  have : ∀ (L : List (List Int)) (n : Int), (∀ l ∈ L, l.length = p.farms.length) → L.foldl (fun n l => max n ((pad l).getD f 0)) n = L.foldl (fun n l => max n (l.getD f 0)) n := by
    intro L
    induction L with
    | nil => intro n _; rfl
    | cons y L ih =>
      intro n h
      have hy := h y (.head _)
      simp only [List.foldl_cons]
      rw [pad_getD (by rw [hy]; exact hok.len) (by rw [hy]; exact hf)]
      exact ih _ fun l hl => h l (.tail _ hl)
  exact this _ _ fun l hl => do_len hl
theorem never_eq {p : Port} (hok : p.Ok) {f : Nat} (hf : f < p.farms.length) : ((doP p).any fun l => decide (l.getD f 0 = -1)) = (doC p).any fun l => decide (l.getD f 0 = -1) := by
  unfold doP
  rw [List.any_map, Bool.eq_iff_iff]
  simp only [List.any_eq_true, Function.comp_def, decide_eq_true_eq]
  constructor
  · rintro ⟨l, hl, h⟩
    have hy := do_len hl
    rw [pad_getD (by rw [hy]; exact hok.len) (by rw [hy]; exact hf)] at h
    exact ⟨l, hl, h⟩
  · rintro ⟨l, hl, h⟩
    have hy := do_len hl
    exact ⟨l, hl, by rw [pad_getD (by rw [hy]; exact hok.len) (by rw [hy]; exact hf)]; exact h⟩
theorem do_getD {p : Port} {l : List Int} (hl : l ∈ doC p) {f : Nat} (hf : f < p.farms.length) : -1 ≤ l.getD f 0 ∧ l.getD f 0 ≤ 10 := by
  have hy := do_len hl
  have : l.getD f 0 = l[f] := by simp [List.getD, hy, hf]
  rw [this]; exact do_in hl _ (List.getElem_mem _)
theorem held_spec {p : Port} (hck : (check p).2.2 = 0) {f : Nat} (hf : f < p.farms.length) :
    (heldE p f = 0 ∨ heldE p f = 9) ∧ (-1 ≤ heldD p f ∧ heldD p f ≤ 10) ∧ (heldE p f ≠ 0 → heldD p f = 0 ∧ doC p = []) ∧
    (heldE p f = 0 → (∃ l ∈ doC p, l.getD f 0 = heldD p f) ∧ (heldD p f ≠ -1 → ∀ l ∈ doC p, l.getD f 0 ≤ heldD p f ∧ l.getD f 0 ≠ -1)) := by
  have hok := check_ok hck
  have ho : out 0 (p.farms.length - 1) (f : Int) = false := by simp [out]; omega
  have hD : heldD p f = if ((doC p).any fun l => decide (l.getD f 0 = -1)) then -1 else (doC p).foldl (fun n l => max n (l.getD f 0)) 0 := by
    unfold heldD
    rw [if_pos ⟨hck, ho⟩, Int.toNat_natCast, never_eq hok hf, held_eq hok hf]
  have hE : heldE p f = if doC p = [] then 9 else 0 := by unfold heldE; rw [if_pos hck, if_pos ho]
  by_cases hd : doC p = []
  · rw [hE, hD, hd]; simp
  · rw [hE, hD, if_neg hd]
    obtain ⟨m1, m2, m3⟩ := maxF (fun l => l.getD f 0) (doC p) 0
    cases ha : (doC p).any fun l => decide (l.getD f 0 = -1) with
    | true =>
      simp only [if_true]
      refine ⟨by simp, by omega, by simp, fun _ => ⟨?_, by simp⟩⟩
      rw [List.any_eq_true] at ha
      obtain ⟨l, hl, h⟩ := ha
      exact ⟨l, hl, by simpa using h⟩
    | false =>
      simp only [Bool.false_eq_true, if_false]
      rw [List.any_eq_false] at ha
      have hnn : ∀ l ∈ doC p, 0 ≤ l.getD f 0 := fun l hl => by
        have h1 := ha l hl
        have h2 := do_getD hl hf
        simp only [decide_eq_true_eq] at h1
        omega
      obtain ⟨l0, hl0⟩ : ∃ l, l ∈ doC p := by
        cases hdd : doC p with
        | nil => exact absurd hdd hd
        | cons x L => exact ⟨x, .head _⟩
      have hatt : ∃ l ∈ doC p, l.getD f 0 = (doC p).foldl (fun n l => max n (l.getD f 0)) 0 := by
        rcases m3 with h | ⟨l, hl, h⟩
        · refine ⟨l0, hl0, ?_⟩
          have h1 := m2 l0 hl0
          have h2 := hnn l0 hl0
          omega
        · exact ⟨l, hl, h⟩
      refine ⟨by simp, ?_, by simp, fun _ => ⟨hatt, fun _ l hl => ⟨m2 l hl, ?_⟩⟩⟩
      · obtain ⟨l, hl, h⟩ := hatt
        have := do_getD hl hf
        omega
      · have := hnn l hl; omega
end Go.Rt
