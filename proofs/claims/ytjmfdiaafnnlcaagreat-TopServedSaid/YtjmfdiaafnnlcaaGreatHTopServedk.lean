/- Own texts of this claim, joined. No conditions. -/
import Derived.Test.YtjmfdiaafnnlcaaGreatRows
import Derived.Test.YtjmfdiaafnnlcaaGreatHTopServeda
import Derived.Test.YtjmfdiaafnnlcaaGreatHTopServedb
import Derived.Test.YtjmfdiaafnnlcaaGreatHTopServedc
import Derived.Test.YtjmfdiaafnnlcaaGreatHTopServedd
import Derived.Test.YtjmfdiaafnnlcaaGreatHTopServede
import Derived.Test.YtjmfdiaafnnlcaaGreatHTopServedf
import Derived.Test.YtjmfdiaafnnlcaaGreatHTopServedg
import Derived.Test.YtjmfdiaafnnlcaaGreatHTopServedh
import Derived.Test.YtjmfdiaafnnlcaaGreatHTopServedi
import Derived.Test.YtjmfdiaafnnlcaaGreatHTopServedj
/- Plain laws of the shop layer: no shops lack anything just if the worst set lacks nothing; Give, train by train. No conditions. -/
set_option linter.unusedSimpArgs false
set_option linter.unusedVariables false
namespace Go.Rt.Sh
def gD (l : List Int) : Nat → Int := fun r => l.getD r 0
theorem bits4 : ∀ a b c d : Bool, (cond a 1 0 + cond b 2 0 + cond c 4 0 + cond d 8 0 < 16) ∧ ∀ i < 4, bset (cond a 1 0 + cond b 2 0 + cond c 4 0 + cond d 8 0) i = (if i = 0 then a else if i = 1 then b else if i = 2 then c else d) := by decide
theorem bset_out {b i : Nat} (hb : b < 16) (hi : 4 ≤ i) : bset b i = false := by
  have : b >>> i = 0 := by
    rw [Nat.shiftRight_eq_div_pow]
    have : 2 ^ 4 ≤ 2 ^ i := Nat.pow_le_pow_right (by omega) hi
    exact Nat.div_eq_of_lt (by omega)
  simp [bset, bit, this]
theorem diff_sub : ∀ b < 16, ∀ sub < 16, (bitDiff b sub = 0 ↔ ∀ i < 4, bset b i = true → bset sub i = true) := by decide +kernel
theorem bset_sub {b sub : Nat} (hb : b < 16) (hs : sub < 16) : bitDiff b sub = 0 ↔ Sub (bset b) (bset sub) := by
  rw [diff_sub b hb sub hs]
  constructor
  · intro h i hi
    by_cases h4 : i < 4
    · exact h i h4 hi
    · rw [bset_out hb (by omega)] at hi; cases hi
  · intro h i _ hi; exact h i hi
theorem sub_bits {s : Nat → Bool} {sub : Nat} (hs : sub < 16) (h : Sub s (bset sub)) : ∃ b < 16, bset b = s ∧ bitDiff b sub = 0 := by
  have hb := bits4 (s 0) (s 1) (s 2) (s 3)
  refine ⟨_, hb.1, ?_, ?_⟩
  · funext i
    by_cases h4 : i < 4
    · rw [hb.2 i h4]
      have : i = 0 ∨ i = 1 ∨ i = 2 ∨ i = 3 := by omega
      rcases this with rfl | rfl | rfl | rfl <;> rfl
    · rw [bset_out hb.1 (by omega)]
      cases e : s i with
      | false => rfl
      | true => have := h i e; rw [bset_out hs (by omega)] at this; cases this
  · rw [diff_sub _ hb.1 _ hs]
    intro i hi hi2
    rw [hb.2 i hi] at hi2
    apply h
    have : i = 0 ∨ i = 1 ∨ i = 2 ∨ i = 3 := by omega
    rcases this with rfl | rfl | rfl | rfl <;> simpa using hi2
theorem pow_16 {n sub : Nat} (hn : n ≤ 4) (hs : sub < 2 ^ n) : sub < 16 := by
  have : 2 ^ n ≤ 2 ^ 4 := Nat.pow_le_pow_right (by omega) hn
  omega
theorem zI3 {m : Market} (hok : m.Ok) (hands wants : List Int) {sub : Nat} (hs : sub < 2 ^ m.shops.length) (fro : Nat) (h0 : lackR m hands wants (listL 0 m.shops.length) fro < 1) :
    Best (fun s => lackR m hands wants s fro) (fun l => ∃ b, b < 16 ∧ bitDiff b sub = 0 ∧ l = listL b m.shops.length) (worstR m hands wants (listL sub m.shops.length) fro) := by
  have hls := hok.ls
  have g0 := pow_16 hls hs
  have h1 := best_top (f := fun s => lackR m hands wants s fro) (zGd m.shops.length (by omega) sub g0 hs) (fun l hl => by
    rw [sets_zero m.shops.length (by omega) sub g0 hs] at hl
    cases hl
    exact h0) _ (Nat.le_refl _)
  rw [List.take_length] at h1
  have hiff : ∀ l, l ∈ setsL (listL sub m.shops.length) ↔ (∃ b, b < 16 ∧ bitDiff b sub = 0 ∧ l = listL b m.shops.length) := fun l =>
    ⟨fun h => by obtain ⟨b, hb, h1, h2⟩ := sets_in m.shops.length (by omega) sub g0 hs l h; exact ⟨b, hb, h1, h2⟩, fun ⟨b, hb, h1, h2⟩ => h2 ▸ zIb m.shops.length (by omega) sub g0 hs b hb h1⟩
  rcases h1 with ⟨e, a⟩ | ⟨l, c, e, b, a⟩
  · exact .inl ⟨e, fun l hl => a l ((hiff l).2 hl)⟩
  · exact .inr ⟨l, (hiff l).1 c, e, b, fun c' hc => a c' ((hiff c').2 hc)⟩
theorem zJj {m : Market} (hok : m.Ok) {hands : List Int} (wants : List Int) (hh : ∀ z ∈ hands, 0 ≤ z) (fro : Nat) : lackR m hands wants (listL 0 m.shops.length) fro = 0 := by
  rw [lackR_lk hok]
  unfold lk
  have e1 : sumN m.shops.length (fun i => if bset 0 i then wants.getD i 0 else 0) = 0 := by
    rw [zCd (g := fun _ => 0) _ fun i _ => by simp [bset, bit]]; exact zD7 _
  have e2 : sumN m.rooms.length (fun r => min (hands.getD r 0) (capR (trs m fro) (bset 0) r)) = 0 := by
    rw [zCd (g := fun _ => 0) _ fun r _ => by rw [capR_none]; have := zEc hh r; omega]; exact zD7 _
  rw [e1, e2]; rfl
theorem zFw {m : Market} (hok : m.Ok) {hands : List Int} (wants : List Int) (hh : ∀ z ∈ hands, 0 ≤ z) {sub : Nat} (hs : sub < 2 ^ m.shops.length) (fro : Nat) :
    (worstR m hands wants (listL sub m.shops.length) fro).2 = 0 ↔ NoLack m.rooms.length m.shops.length (trs m fro) (gD hands) (gD wants) (bset sub) := by
  have g0 := pow_16 hok.ls hs
  have hb := zI3 hok hands wants hs fro (by rw [zJj hok wants hh]; omega)
  constructor
  · intro h s hsub
    obtain ⟨b, hb16, hbs, hbd⟩ := sub_bits g0 hsub
    rw [← hbs]
    have e := lackR_lk hok hands wants b fro
    rcases hb with ⟨_, a⟩ | ⟨l, _, e2, h1, _⟩
    · have := a (listL b m.shops.length) ⟨b, hb16, hbd, rfl⟩
      dsimp only at this
      rw [e] at this
      show lk _ _ _ (fun r => hands.getD r 0) (fun i => wants.getD i 0) _ ≤ 0
      omega
    · rw [e2] at h; dsimp only at h h1; omega
  · intro h
    rcases hb with ⟨e, _⟩ | ⟨l, ⟨b, hb16, hbd, rfl⟩, e2, h1, _⟩
    · rw [e]
    · have := h (bset b) ((bset_sub hb16 g0).1 hbd)
      dsimp only at h1
      rw [lackR_lk hok] at h1
      exact absurd (show lk _ _ _ (fun r => hands.getD r 0) (fun i => wants.getD i 0) _ ≤ 0 from this) (by omega)
theorem trsTo_cons {m : Market} {i : Nat} (hi : i < m.trains.length) : ∀ k, i < k → k ≤ m.trains.length → trsTo m i k = (if leaves m m.trains[i] then [toTr m.trains[i]] else []) ++ trsTo m (i + 1) k
  | 0, h, _ => by omega
  | k + 1, h, hk => by
    simp only [trsTo, List.getElem?_eq_getElem (show k < m.trains.length by omega)]
    by_cases e : i = k
    · subst e
      have h0 : ∀ (f j : Nat), j ≤ f → trsTo m f j = [] := by
        intro f j
        induction j with
        | zero => intro _; rfl
        | succ j ih =>
          intro hj
          unfold trsTo
          cases m.trains[j]? with
          | none => exact ih (by omega)
          | some t => dsimp only; rw [if_neg (by omega)]; exact ih (by omega)
      rw [h0 i i (Nat.le_refl _), h0 (i + 1) i (by omega), if_neg (show ¬ (i + 1 ≤ i ∧ leaves m m.trains[i] = true) by omega)]
      by_cases hl : leaves m m.trains[i] = true
      · rw [if_pos ⟨Nat.le_refl _, hl⟩, if_pos hl]; rfl
      · rw [if_neg (fun h => hl h.2), if_neg hl]; rfl
    · have ih := trsTo_cons hi k (by omega) (by omega)
      rw [ih]
      generalize (if leaves m m.trains[i] = true then [toTr m.trains[i]] else []) = P
      by_cases hl : leaves m m.trains[k] = true
      · rw [if_pos ⟨by omega, hl⟩, if_pos ⟨by omega, hl⟩, List.append_assoc]
      · rw [if_neg (fun h => hl h.2), if_neg (fun h => hl h.2)]
theorem trs_cons {m : Market} {i : Nat} (hi : i < m.trains.length) : trs m i = (if leaves m m.trains[i] then [toTr m.trains[i]] else []) ++ trs m (i + 1) := trsTo_cons hi _ hi (Nat.le_refl _)
theorem lk_skip {R S : Nat} {t : Tr} {T : List Tr} {h w : Nat → Int} {s : Nat → Bool} (hs : s t.shop = false) : lk R S (t :: T) h w s = lk R S T h w s := by
  unfold lk
  congr 1
  refine zCd R fun r _ => ?_
  rw [zD2, if_neg (by simp [hs])]; simp
def subAt (l : List Int) (i : Nat) (n : Int) : List Int := l.set i (l.getD i 0 - n)
theorem subAt_len (l : List Int) (i : Nat) (n : Int) : (subAt l i n).length = l.length := by simp [subAt]
theorem zFi {l : List Int} {i : Nat} (n : Int) (hi : i < l.length) : gD (subAt l i n) = put (gD l) i (gD l i - n) := by
  funext j
  unfold gD subAt put
  by_cases e : j = i
  · subst e; rw [if_pos rfl, zDv hi]
  · rw [if_neg e, zCh (Ne.symm e)]
theorem zGc {l : List Int} {i : Nat} {n b : Int} (h : ∀ z ∈ l, 0 ≤ z ∧ z ≤ b) (hn : 0 ≤ n) (hle : n ≤ gD l i) : ∀ z ∈ subAt l i n, 0 ≤ z ∧ z ≤ b := by
  intro z hz
  rcases List.mem_or_eq_of_mem_set hz with h1 | h1
  · exact h z h1
  · have hg : gD l i ≤ max 0 b := by
      unfold gD
      by_cases hl : i < l.length
      · have := h _ (List.getElem_mem hl); simp [List.getD, hl]; omega
      · simp [List.getD, hl]; omega
    have hb : 0 ≤ b ∨ l = [] := by
      cases l with
      | nil => exact .inr rfl
      | cons y _ => have := h y (.head _); left; omega
    rcases hb with hb | hb
    · unfold gD at hle hg; omega
    · subst hb; simp [subAt] at hz
structure FineS (m : Market) (sub i : Nat) (h w : List Int) : Prop where
  hl : h.length = m.rooms.length
  wl : w.length = m.shops.length
  hn : ∀ z ∈ h, 0 ≤ z ∧ z ≤ 200
  wn : ∀ z ∈ w, 0 ≤ z ∧ z ≤ 60
  no : NoLack m.rooms.length m.shops.length (trs m i) (gD h) (gD w) (bset sub)
def okAt (m : Market) (shops h w : List Int) (i : Nat) (t : Train) (n : Nat) : Bool := decide ((worstR m (subAt h t.room.toNat n) (subAt w t.shop.toNat n) shops (i + 1)).2 = 0)
def firstN (p : Nat → Bool) : Nat → Nat → Nat
  | n, 0 => n
  | n, k + 1 => if p n then n else firstN p (n + 1) k
theorem firstN_spec {p : Nat → Bool} : ∀ (k n : Nat), (∃ q, n ≤ q ∧ q < n + k ∧ p q = true) → p (firstN p n k) = true ∧ n ≤ firstN p n k ∧ (∀ q, n ≤ q → q < firstN p n k → p q = false) ∧ ∀ q, n ≤ q → p q = true → firstN p n k ≤ q
  | 0, n, h => by obtain ⟨q, h1, h2, _⟩ := h; omega
  | k + 1, n, h => by
    unfold firstN
    by_cases hn : p n = true
    · rw [if_pos hn]; exact ⟨hn, Nat.le_refl _, fun q h1 h2 => by omega, fun q h1 _ => h1⟩
    · rw [if_neg hn]
      obtain ⟨q, h1, h2, h3⟩ := h
      have hne : q ≠ n := fun e => hn (e ▸ h3)
      obtain ⟨a, b, c, d⟩ := firstN_spec k (n + 1) ⟨q, by omega, by omega, h3⟩
      refine ⟨a, by omega, fun q' h4 h5 => ?_, fun q' h4 h5 => ?_⟩
      · by_cases e : q' = n
        · subst e; simpa using hn
        · exact c q' (by omega) h5
      · have : q' ≠ n := fun e => hn (e ▸ h5)
        exact d q' (by omega) h5
def goesS (m : Market) (shops : List Int) (t : Train) : Bool := leaves m t && hasI shops t.shop
def nAt (m : Market) (shops h w : List Int) (i : Nat) (t : Train) : Nat := if goesS m shops t then firstN (okAt m shops h w i t) 0 61 else 0
theorem zIo {m : Market} (hok : m.Ok) {sub : Nat} {t : Train} (ht : t ∈ m.trains) : goesS m (listL sub m.shops.length) t = true ↔ leaves m t = true ∧ bset sub t.shop.toNat = true := by
  have hh := zHe sub m.shops.length t.shop
  have htt := hok.train t ht
  unfold goesS
  rw [Bool.and_eq_true, hh]
  constructor
  · rintro ⟨h1, _,_, h2⟩; exact ⟨h1, by unfold bset; exact decide_eq_true h2⟩
  · rintro ⟨h1, h2⟩; exact ⟨h1, by omega, by omega, of_decide_eq_true h2⟩
theorem fine_served {m : Market} (hok : m.Ok) {sub i : Nat} {h w : List Int} (hs : sub < 2 ^ m.shops.length) (hf : FineS m sub i h w) : (worstR m h w (listL sub m.shops.length) i).2 = 0 :=
  (zFw hok w (fun z hz => (hf.hn z hz).1) hs i).2 hf.no
theorem some_ok {m : Market} (hok : m.Ok) {sub i : Nat} {h w : List Int} (hs : sub < 2 ^ m.shops.length) (hf : FineS m sub i h w) (hi : i < m.trains.length) (hg : goesS m (listL sub m.shops.length) m.trains[i] = true) :
    ∃ n : Nat, (n : Int) ≤ m.trains[i].cap ∧ (n : Int) ≤ gD h m.trains[i].room.toNat ∧ (n : Int) ≤ gD w m.trains[i].shop.toNat ∧ okAt m (listL sub m.shops.length) h w i m.trains[i] n = true := by
  have ht := List.getElem_mem hi
  have htt := hok.train _ ht
  obtain ⟨hlv, hsub⟩ := (zIo hok ht).1 hg
  have hno := hf.no
  rw [trs_cons hi, if_pos hlv] at hno
  have hgn : ∀ r, 0 ≤ gD h r := fun r => zEc (fun z hz => (hf.hn z hz).1) r
  have hwn : ∀ r, 0 ≤ gD w r := fun r => zEc (fun z hz => (hf.wn z hz).1) r
  obtain ⟨n, h1, h2, h3, h4⟩ := one_train (R := m.rooms.length) (S := m.shops.length) (t := toTr m.trains[i]) (T := trs m (i + 1)) (h := gD h) (w := gD w) (sh := bset sub) (by simp only [toTr]; omega) (by simp only [toTr]; omega) (by simp only [toTr]; omega)
    (fun u hu => (trs_fine hok hu).2.2.1) hgn hwn hsub hno
  refine ⟨n, h1, h2, h3, ?_⟩
  unfold okAt
  have h2' : (n : Int) ≤ gD h m.trains[i].room.toNat := h2
  rw [decide_eq_true_eq, zFw hok _ (fun z hz => (zGc hf.hn (by omega) h2' z hz).1) hs, zFi _ (by rw [hf.hl]; omega), zFi _ (by rw [hf.wl]; omega)]
  exact h4
def nextH (m : Market) (shops h w : List Int) (i : Nat) (t : Train) : List Int := if goesS m shops t then subAt h t.room.toNat (nAt m shops h w i t) else h
def nextW (m : Market) (shops h w : List Int) (i : Nat) (t : Train) : List Int := if goesS m shops t then subAt w t.shop.toNat (nAt m shops h w i t) else w
theorem zKl {m : Market} (hok : m.Ok) {sub i : Nat} {h w : List Int} (hs : sub < 2 ^ m.shops.length) (hf : FineS m sub i h w) (hi : i < m.trains.length) (hg : goesS m (listL sub m.shops.length) m.trains[i] = true) :
    okAt m (listL sub m.shops.length) h w i m.trains[i] (nAt m (listL sub m.shops.length) h w i m.trains[i]) = true ∧ (∀ q < nAt m (listL sub m.shops.length) h w i m.trains[i], okAt m (listL sub m.shops.length) h w i m.trains[i] q = false) ∧
    ((nAt m (listL sub m.shops.length) h w i m.trains[i] : Nat) : Int) ≤ m.trains[i].cap ∧ ((nAt m (listL sub m.shops.length) h w i m.trains[i] : Nat) : Int) ≤ gD h m.trains[i].room.toNat ∧ ((nAt m (listL sub m.shops.length) h w i m.trains[i] : Nat) : Int) ≤ gD w m.trains[i].shop.toNat := by
  have htt := hok.train _ (List.getElem_mem hi)
  obtain ⟨n, h1, h2, h3, h4⟩ := some_ok hok hs hf hi hg
  have hsp := firstN_spec (p := okAt m (listL sub m.shops.length) h w i m.trains[i]) 61 0 ⟨n, by omega, by omega, h4⟩
  have e : nAt m (listL sub m.shops.length) h w i m.trains[i] = firstN (okAt m (listL sub m.shops.length) h w i m.trains[i]) 0 61 := by unfold nAt; rw [if_pos hg]
  rw [e]
  have hle := hsp.2.2.2 n (by omega) h4
  exact ⟨hsp.1, fun q hq => hsp.2.2.1 q (by omega) hq, by omega, by omega, by omega⟩
theorem fine_next {m : Market} (hok : m.Ok) {sub i : Nat} {h w : List Int} (hs : sub < 2 ^ m.shops.length) (hf : FineS m sub i h w) (hi : i < m.trains.length) :
    FineS m sub (i + 1) (nextH m (listL sub m.shops.length) h w i m.trains[i]) (nextW m (listL sub m.shops.length) h w i m.trains[i]) := by
  have ht := List.getElem_mem hi
  have htt := hok.train _ ht
  by_cases hg : goesS m (listL sub m.shops.length) m.trains[i] = true
  · obtain ⟨h1, _, h3, h4, h5⟩ := zKl hok hs hf hi hg
    unfold nextH nextW
    rw [if_pos hg, if_pos hg]
    have hh := zGc hf.hn (by omega) h4
    refine ⟨by rw [subAt_len]; exact hf.hl, by rw [subAt_len]; exact hf.wl, hh, zGc hf.wn (by omega) h5, ?_⟩
    unfold okAt at h1
    rw [decide_eq_true_eq, zFw hok _ (fun z hz => (hh z hz).1) hs] at h1
    exact h1
  · unfold nextH nextW
    rw [if_neg hg, if_neg hg]
    refine ⟨hf.hl, hf.wl, hf.hn, hf.wn, fun s hss => ?_⟩
    have h1 := hf.no s hss
    rw [trs_cons hi] at h1
    by_cases hlv : leaves m m.trains[i] = true
    · rw [if_pos hlv] at h1
      have hsf : s m.trains[i].shop.toNat = false := by
        cases e : s m.trains[i].shop.toNat with
        | false => rfl
        | true => exact absurd ((zIo hok ht).2 ⟨hlv, hss _ e⟩) hg
      rw [show ([toTr m.trains[i]] ++ trs m (i + 1)) = toTr m.trains[i] :: trs m (i + 1) from rfl, lk_skip (by exact hsf)] at h1
      exact h1
    · rw [if_neg hlv] at h1; exact h1
def greedy (m : Market) (shops : List Int) : Nat → Nat → List Int → List Int → List Int
  | 0, _,_, _ => []
  | rem + 1, i, h, w => match m.trains[i]? with
    | some t => (nAt m shops h w i t : Int) :: greedy m shops rem (i + 1) (nextH m shops h w i t) (nextW m shops h w i t)
    | none => []
def giveTo (m : Market) (shops : List Int) : Nat → List Int × List Int × List Int
  | 0 => ([], leastL m, wantsL m)
  | i + 1 => match m.trains[i]? with
    | some t => ((giveTo m shops i).1 ++ [(nAt m shops (giveTo m shops i).2.1 (giveTo m shops i).2.2 i t : Int)], nextH m shops (giveTo m shops i).2.1 (giveTo m shops i).2.2 i t, nextW m shops (giveTo m shops i).2.1 (giveTo m shops i).2.2 i t)
    | none => giveTo m shops i
theorem zFm {m : Market} {shops : List Int} {i : Nat} (hi : i < m.trains.length) : giveTo m shops (i + 1) = ((giveTo m shops i).1 ++ [(nAt m shops (giveTo m shops i).2.1 (giveTo m shops i).2.2 i m.trains[i] : Int)], nextH m shops (giveTo m shops i).2.1 (giveTo m shops i).2.2 i m.trains[i], nextW m shops (giveTo m shops i).2.1 (giveTo m shops i).2.2 i m.trains[i]) := by
  simp only [giveTo, List.getElem?_eq_getElem hi]
theorem zHg {m : Market} {shops : List Int} : ∀ i, i ≤ m.trains.length → (giveTo m shops i).1.length = i
  | 0, _ => rfl
  | i + 1, h => by have ih := zHg (m := m) (shops := shops) i (by omega); rw [zFm (by omega)]; simp [ih]
theorem zGk {m : Market} {shops : List Int} : ∀ (rem i : Nat), i + rem = m.trains.length → (giveTo m shops m.trains.length).1 = (giveTo m shops i).1 ++ greedy m shops rem i (giveTo m shops i).2.1 (giveTo m shops i).2.2
  | 0, i, h => by
    have : i = m.trains.length := by omega
    subst this; simp [greedy]
  | rem + 1, i, h => by
    have hi : i < m.trains.length := by omega
    rw [zGk rem (i + 1) (by omega), zFm hi]
    simp only [greedy, List.getElem?_eq_getElem hi]
    simp
theorem fine_start {m : Market} (hok : m.Ok) {sub : Nat} (hs : sub < 2 ^ m.shops.length) (h : servedR m (leastL m) (listL sub m.shops.length) = true) : FineS m sub 0 (leastL m) (wantsL m) := by
  have hnn := handsL_nn hok false
  simp only [handsL, Bool.false_eq_true, if_false] at hnn
  refine ⟨by simp [leastL], zI5 m, fun z hz => ?_, fun z hz => ?_, ?_⟩
  · obtain ⟨r, hr, rfl⟩ := List.mem_map.1 hz; have := hok.room r hr; omega
  · obtain ⟨r, hr, rfl⟩ := List.mem_map.1 hz; have := hok.shop r hr; omega
  · unfold servedR at h
    rw [decide_eq_true_eq, zFw hok _ hnn hs] at h
    exact h
theorem fine_to {m : Market} (hok : m.Ok) {sub : Nat} (hs : sub < 2 ^ m.shops.length) (h : servedR m (leastL m) (listL sub m.shops.length) = true) : ∀ i, i ≤ m.trains.length → FineS m sub i (giveTo m (listL sub m.shops.length) i).2.1 (giveTo m (listL sub m.shops.length) i).2.2
  | 0, _ => fine_start hok hs h
  | i + 1, hi => by
    have ih := fine_to hok hs h i (by omega)
    rw [zFm (by omega)]
    exact fine_next hok hs ih (by omega)
end Go.Rt.Sh
/- Plain laws of the shop layer: what the reference gives, train by train, is the first of the program's loads. No conditions. -/
namespace Go.Rt.Sh
theorem packX_len (h w : List Int) (f : Nat) : (packX h w f).length = 8 := rfl
theorem packX_setH {h w : List Int} {f r : Nat} {z : Int} (hr : r < 3) (hl : r < h.length) : packX (h.set r z) w f = (packX h w f).set r z := packX_set hr hl
theorem packX_setW {h w : List Int} {f s : Nat} {z : Int} (hs : s < 4) (hl : s < w.length) : packX h (w.set s z) f = (packX h w f).set (3 + s) z := by
  refine ext_getD (by simp [packX]) fun i hi => ?_
  have hi8 : i < 8 := hi
  by_cases h3 : 3 ≤ i ∧ i < 7
  · obtain ⟨j, rfl⟩ : ∃ j, i = 3 + j := ⟨i - 3, by omega⟩
    rw [zE8 _ _ _ (by omega)]
    by_cases e : s = j
    · subst e
      rw [zDv hl, zDv (by rw [packX_len]; omega)]
    · rw [zCh e, zCh (by omega), zE8 _ _ _ (by omega)]
  · rw [zCh (x := packX h w f) (by omega)]
    have : i = 0 ∨ i = 1 ∨ i = 2 ∨ i = 7 := by omega
    rcases this with rfl | rfl | rfl | rfl <;> rfl
theorem packX_at7 (h w : List Int) (f : Nat) : (packX h w f).getD 7 0 = f := rfl
theorem packX_next (h w : List Int) (f : Nat) : (packX h w f).set 7 ((packX h w f).getD 7 0 + 1) = packX h w (f + 1) := by
  simp [packX]
theorem zJe {m : Market} (hok : m.Ok) {h w : List Int} {i : Nat} {t : Train} (ht : t ∈ m.trains) (hl : h.length = m.rooms.length) (wl : w.length = m.shops.length) (n : Int) : nextX (packX h w i) t n = packX (subAt h t.room.toNat n) (subAt w t.shop.toNat n) (i + 1) := by
  have htt := hok.train t ht
  have hlr := hok.lr
  have hls := hok.ls
  have e1 : nx1 (packX h w i) = packX h w (i + 1) := packX_next h w i
  have e2 : nx2 (packX h w i) t.room.toNat n = packX (subAt h t.room.toNat n) w (i + 1) := by
    unfold nx2 subAt
    rw [e1, packX_setH (by omega) (by omega), zE9 _ _ _ (by omega)]
  unfold nextX
  rw [e2, zE8 _ _ _ (by omega)]
  conv => rhs; rw [subAt.eq_def w]
  rw [packX_setW (by omega) (by omega)]
theorem served_pack {m : Market} (hok : m.Ok) {h w : List Int} (hl : h.length = m.rooms.length) (wl : w.length = m.shops.length) (hn : ∀ z ∈ h, 0 ≤ z) (wn : ∀ z ∈ w, 0 ≤ z) {sub : Nat} (hs : sub < 2 ^ m.shops.length) (i : Nat) : servedS m (packX h w i) sub = decide ((worstR m h w (listL sub m.shops.length) i).2 = 0) := by
  unfold servedS; rw [worst_same hok hl wl hn wn hs]
theorem subAt_zero (l : List Int) (i : Nat) : subAt l i 0 = l := by
  unfold subAt
  apply List.ext_getElem (by simp)
  intro j h1 h2
  rw [List.getElem_set]
  split
  · rename_i e; subst e; simp [List.getD, h2]
  · rfl
theorem flat_first {α : Type} {f : Nat → List α} {n : Nat} : ∀ (k : Nat), n < k → (∀ q < n, f q = []) → (f n ≠ []) → ((List.range k).flatMap f).head? = (f n).head?
  | 0, h, _, _ => by omega
  | k + 1, h, h0, hn => by
    rw [List.range_succ, List.flatMap_append]
    by_cases e : n = k
    · subst e
      have : (List.range n).flatMap f = [] := by
        rw [List.flatMap_eq_nil_iff]
        intro q hq; rw [List.mem_range] at hq; exact h0 q hq
      rw [this]; simp
    · have ih := flat_first k (by omega) h0 hn
      rw [List.head?_append, ih]
      cases e2 : (f n).head? with
      | none => exact absurd (List.head?_eq_none_iff.1 e2) hn
      | some x => rfl
theorem loads_first {m : Market} (hok : m.Ok) {sub : Nat} (hs : sub < 2 ^ m.shops.length) : ∀ (rem i : Nat) (h w : List Int), i + rem = m.trains.length → FineS m sub i h w → (loadsX m sub rem (packX h w i)).head? = some (greedy m (listL sub m.shops.length) rem i h w)
  | 0, i, h, w, _, _ => rfl
  | rem + 1, i, h, w, hir, hf => by
    have hi : i < m.trains.length := by omega
    have ht := List.getElem_mem hi
    have htt := hok.train _ ht
    have hlr := hok.lr
    have hls := hok.ls
    have hnx := fine_next hok hs hf hi
    have ih := loads_first hok hs rem (i + 1) _ _ (by omega) hnx
    have hgl := zIo hok (sub := sub) ht
    have hnn : ∀ z ∈ h, 0 ≤ z := fun z hz => (hf.hn z hz).1
    have hwn : ∀ z ∈ w, 0 ≤ z := fun z hz => (hf.wn z hz).1
    have e7 : m.trains[((packX h w i).getD 7 0).toNat]? = some m.trains[i] := by
      rw [packX_at7, Int.toNat_natCast, List.getElem?_eq_getElem hi]
    have hmost : (nAt m (listL sub m.shops.length) h w i m.trains[i] : Int) ≤ mostX m sub (packX h w i) m.trains[i] ∧ (∀ q : Nat, q ≤ nAt m (listL sub m.shops.length) h w i m.trains[i] → (q : Int) ≤ gD h m.trains[i].room.toNat ∧ (q : Int) ≤ gD w m.trains[i].shop.toNat) ∧
        (nextH m (listL sub m.shops.length) h w i m.trains[i] = subAt h m.trains[i].room.toNat (nAt m (listL sub m.shops.length) h w i m.trains[i]) ∧ nextW m (listL sub m.shops.length) h w i m.trains[i] = subAt w m.trains[i].shop.toNat (nAt m (listL sub m.shops.length) h w i m.trains[i])) ∧
        ∀ q < nAt m (listL sub m.shops.length) h w i m.trains[i], okAt m (listL sub m.shops.length) h w i m.trains[i] q = false := by
      by_cases hg : goesS m (listL sub m.shops.length) m.trains[i] = true
      · obtain ⟨_, h2, h3, h4, h5⟩ := zKl hok hs hf hi hg
        obtain ⟨g1, g2⟩ := hgl.1 hg
        refine ⟨?_, fun q hq => ⟨by omega, by omega⟩, ⟨by unfold nextH; rw [if_pos hg], by unfold nextW; rw [if_pos hg]⟩, h2⟩
        rw [zIj g1 (of_decide_eq_true g2), zE9 _ _ _ (by omega), zE8 _ _ _ (by omega)]
        unfold gD at h4 h5
        omega
      · have e0 : nAt m (listL sub m.shops.length) h w i m.trains[i] = 0 := by unfold nAt; rw [if_neg hg]
        rw [e0]
        refine ⟨?_, fun q hq => ?_, ⟨by unfold nextH; rw [if_neg hg]; exact (subAt_zero _ _).symm, by unfold nextW; rw [if_neg hg]; exact (subAt_zero _ _).symm⟩, fun q hq => by omega⟩
        · rw [zKm]
          · simp
          · by_cases hl : leaves m m.trains[i] = true
            · right; intro hb; exact hg (hgl.2 ⟨hl, by unfold bset; exact decide_eq_true hb⟩)
            · left; simpa using hl
        · have : q = 0 := by omega
          subst this
          exact ⟨zEc hnn _, zEc hwn _⟩
    obtain ⟨hm1, hm2, ⟨hm3, hm4⟩, hm5⟩ := hmost
    have hsv : ∀ q : Nat, q ≤ nAt m (listL sub m.shops.length) h w i m.trains[i] → servedS m (nextX (packX h w i) m.trains[i] q) sub = okAt m (listL sub m.shops.length) h w i m.trains[i] q := by
      intro q hq
      obtain ⟨a1, a2⟩ := hm2 q hq
      rw [zJe hok ht hf.hl hf.wl, served_pack hok (by rw [subAt_len]; exact hf.hl) (by rw [subAt_len]; exact hf.wl) (fun z hz => (zGc hf.hn (by omega) a1 z hz).1) (fun z hz => (zGc hf.wn (by omega) a2 z hz).1) hs]
      rfl
    have hok1 : okAt m (listL sub m.shops.length) h w i m.trains[i] (nAt m (listL sub m.shops.length) h w i m.trains[i]) = true := by
      unfold okAt
      rw [← hm3, ← hm4, decide_eq_true_eq]
      exact fine_served hok hs hnx
    simp only [loadsX, e7, greedy, List.getElem?_eq_getElem hi]
    rw [flat_first (n := nAt m (listL sub m.shops.length) h w i m.trains[i]) _ (by omega) (fun q hq => by rw [hsv q (by omega), hm5 q hq]; rfl)]
    · rw [hsv _ (Nat.le_refl _), hok1, if_pos rfl, List.head?_map, zJe hok ht hf.hl hf.wl, ← hm3, ← hm4, ih]; rfl
    · rw [hsv _ (Nat.le_refl _), hok1, if_pos rfl, zJe hok ht hf.hl hf.wl, ← hm3, ← hm4]
      intro e
      rw [List.map_eq_nil_iff] at e
      rw [e] at ih; cases ih
theorem sub_list : ∀ n < 5, ∀ b < 16, b < 2 ^ n → giveSub (1 <<< n - 1) (listL b n) = bitDiff (1 <<< n - 1) b := by decide +kernel
theorem zHo {m : Market} (hok : m.Ok) : ∃ b < 2 ^ m.shops.length, withoutL m = listL b m.shops.length ∧ othersTo (withoutL m) m.shops.length = listL (giveSub (1 <<< m.shops.length - 1) (withoutL m)) m.shops.length ∧ giveSub (1 <<< m.shops.length - 1) (withoutL m) < 2 ^ m.shops.length ∧ servedR m (leastL m) (othersTo (withoutL m) m.shops.length) = true := by
  have hls := hok.ls
  have hn := zFz m.shops.length (by omega)
  obtain ⟨h1, h2, _⟩ := zF8 hok _ (Nat.le_refl _)
  have hb : ∃ b < 2 ^ m.shops.length, withoutL m = listL b m.shops.length := by
    rcases h1 with e | ⟨b, hb, e⟩
    · exact ⟨_, hn.2.1, e⟩
    · exact ⟨b, by omega, e⟩
  obtain ⟨b, hb, e⟩ := hb
  have g0 := pow_16 hls hb
  have ho := others_list m.shops.length (by omega) b g0 hb
  refine ⟨b, hb, e, ?_, ?_, h2⟩
  · rw [e, ho.1, sub_list m.shops.length (by omega) b g0 hb]
  · rw [e, sub_list m.shops.length (by omega) b g0 hb]; exact ho.2
def giveR (m : Market) : List Int × Int := if (withoutR m).2 ≠ 0 then ([], (withoutR m).2) else ((giveTo m (othersTo (withoutR m).1 m.shops.length) m.trains.length).1,0)
theorem giveTo_giveL {m : Market} (hok : m.Ok) : (giveTo m (othersTo (withoutL m) m.shops.length) m.trains.length).1 = giveL m := by
  obtain ⟨b, hb, e, e1, e2, h2⟩ := zHo hok
  rw [e1] at h2 ⊢
  have hf := fine_start hok e2 h2
  have hfi := loads_first hok e2 m.trains.length 0 _ _ (by omega) hf
  have hg := zGk (m := m) (shops := listL (giveSub (1 <<< m.shops.length - 1) (withoutL m)) m.shops.length) m.trains.length 0 (by omega)
  have hx := allX_pack hok false
  simp only [handsL, Bool.false_eq_true, if_false] at hx
  unfold giveL allLoads
  rw [hx]
  cases hL : loadsX m (giveSub (1 <<< m.shops.length - 1) (withoutL m)) m.trains.length (packX (leastL m) (wantsL m) 0) with
  | nil => rw [hL] at hfi; cases hfi
  | cons l R =>
    rw [hL] at hfi
    have e3 : l = greedy m (listL (giveSub (1 <<< m.shops.length - 1) (withoutL m)) m.shops.length) m.trains.length 0 (leastL m) (wantsL m) := by simpa using hfi
    have hlen := (zF1 (m := m) (sub := giveSub (1 <<< m.shops.length - 1) (withoutL m)) m.trains.length (packX (leastL m) (wantsL m) 0) l (by rw [hL]; exact .head _)).1
    rw [hg]
    simp only [List.map_cons]
    show [] ++ greedy m _ _ 0 (leastL m) (wantsL m) = (pad6 l).take m.trains.length
    rw [← e3]
    unfold pad6
    rw [List.take_append_of_le_length (by omega), List.take_of_length_le (by omega)]; rfl
end Go.Rt.Sh
namespace Go.Rt.Sh
theorem topTo_nn (f : List Int → Int) (all : List (List Int)) : ∀ k, 0 ≤ (topTo f all k).2
  | 0 => by simp [topTo]
  | k + 1 => by
    have ih := topTo_nn f all k
    simp only [topTo]
    split
    · simp
    · cases e : all[k]? with
      | none => exact ih
      | some l =>
        dsimp only [topStep]
        split
        · show 0 ≤ f l; omega
        · exact ih
theorem worstR_nn (m : Market) (hands wants shops : List Int) (fro : Nat) : 0 ≤ (worstR m hands wants shops fro).2 := topTo_nn _ _ _
theorem subAt_cells {cs : List Value} {l : List Int} {r n : Nat} {z : Int} (hn : l.length = n) (hr : r < l.length) (h : cs.take (n * 1) = iv l) : (cs.set r (.int .i64 (l[r] - z))).take (n * 1) = iv (subAt l r z) := by
  rw [List.take_set, h]
  simp [subAt, iv, List.map_set, List.getD, hr]
end Go.Rt.Sh
/- Plain words of the shop layer's laws: any load, what shops get. No conditions. -/
namespace Go.Rt.Sh
def anyN (m : Market) (x left : List Int) (i : Nat) (t : Train) : Int := if leaves m t then turnOf x i % (min t.cap (left.getD t.room.toNat 0) + 1) else 0
def anyTo (m : Market) (hands x : List Int) : Nat → List Int × List Int
  | 0 => ([], hands)
  | i + 1 => match m.trains[i]? with
    | some t => ((anyTo m hands x i).1 ++ [anyN m x (anyTo m hands x i).2 i t], subAt (anyTo m hands x i).2 t.room.toNat (anyN m x (anyTo m hands x i).2 i t))
    | none => anyTo m hands x i
def gotTo (m : Market) (load : List Int) : Nat → List Int
  | 0 => List.replicate m.shops.length 0
  | i + 1 => match m.trains[i]? with
    | some t => (gotTo m load i).set t.shop.toNat ((gotTo m load i).getD t.shop.toNat 0 + load.getD i 0)
    | none => gotTo m load i
theorem gotTo_len (m : Market) (load : List Int) : ∀ i, (gotTo m load i).length = m.shops.length
  | 0 => by simp [gotTo]
  | i + 1 => by
    unfold gotTo
    cases m.trains[i]? with
    | none => exact gotTo_len m load i
    | some t => dsimp only; rw [List.length_set]; exact gotTo_len m load i
end Go.Rt.Sh
namespace Go.Rt.Sh
end Go.Rt.Sh
/- Plain laws of the shop layer: the fewest without, how many hands more. No conditions. -/
namespace Go.Rt.Sh
theorem zFl : ∀ n : Nat, n < 5 → ∀ b < 16, b < 2 ^ n → rising (n : Int) (-1) (listL b n) = true := by decide +kernel
theorem asked_list {m : Market} (h : (check m).2.2 = 0) {sub : Nat} (hs : sub < 2 ^ m.shops.length) : askedE m (listL sub m.shops.length) = 0 := by
  have hok := check_ok h
  have hls := hok.ls
  have hr := zFl m.shops.length (by omega) sub (pow_16 hls hs) hs
  have hA : askTo m (listL sub m.shops.length) (listL sub m.shops.length).length = 0 := by
    unfold askTo
    rw [if_neg (by simp [h]), List.take_length, if_neg]
    rw [Bool.not_eq_true, List.any_eq_false]
    intro x hx
    have := zGi sub m.shops.length x hx
    simp [out]; omega
  unfold askedE
  rw [hA, hr]; simp
structure FewestF (m : Market) (b : Nat) : Prop where
  wp : withoutP m = (withoutL m, 0)
  ri : rising m.shops.length (-1) (withoutL m) = true
  how : canP m (othersTo (withoutL m) m.shops.length) = (1,0)
  so : (canP m (othersTo (listL b m.shops.length) m.shops.length)).2 = 0
  less : (canP m (othersTo (listL b m.shops.length) m.shops.length)).1 = 1 → before (listL b m.shops.length) (withoutL m) = false
structure MoreF (m : Market) (r : Nat) : Prop where
  wp : (withoutP m).2 = 0
  eq : ((moreP m r).2 = 0 ∧ (moreP m r).1 = 0) ↔ (withoutP m).1.length = 0
  bad : (moreP m r).2 ≠ 0 → (moreP m r).2 = 9 ∧ (moreP m r).1 = 0 ∧ servedR m (leastL (withM m r 60)) (allL' m) = false
  good : (moreP m r).2 = 0 → 0 ≤ (moreP m r).1 ∧ (moreP m r).1 ≤ 60 ∧ servedR m (leastL (withM m r (moreP m r).1)) (allL' m) = true ∧ ((moreP m r).1 ≠ 0 → servedR m (leastL (withM m r ((moreP m r).1 - 1))) (allL' m) = false)
end Go.Rt.Sh
namespace Go.Rt.Sh
end Go.Rt.Sh
/- Plain laws of the shop layer: what a load carries is bounded by what rooms have and trains can. No conditions. -/
namespace Go.Rt.Sh
def usedF (m : Market) (l : List Int) (fro r : Nat) : Nat → Int
  | 0 => 0
  | k + 1 => usedF m l fro r k + match m.trains[k]? with | some t => if fro ≤ k ∧ t.room.toNat = r then gD l k else 0 | none => 0
def gotF (m : Market) (l : List Int) (fro s : Nat) : Nat → Int
  | 0 => 0
  | k + 1 => gotF m l fro s k + match m.trains[k]? with | some t => if fro ≤ k ∧ t.shop.toNat = s then gD l k else 0 | none => 0
def partF (m : Market) (l : List Int) (fro r : Nat) (b : Nat → Bool) : Nat → Int
  | 0 => 0
  | k + 1 => partF m l fro r b k + match m.trains[k]? with | some t => if fro ≤ k ∧ t.room.toNat = r ∧ b t.shop.toNat = true then gD l k else 0 | none => 0
structure Load (m : Market) (h : Nat → Int) (l : List Int) : Prop where
  len : l.length = m.trains.length
  ok : ∀ k (hk : k < m.trains.length), 0 ≤ gD l k ∧ gD l k ≤ m.trains[k].cap ∧ (leaves m m.trains[k] = false → gD l k = 0)
  rooms : ∀ r, usedF m l 0 r m.trains.length ≤ h r
theorem zEr {m : Market} {l : List Int} {fro r k : Nat} (hk : k < m.trains.length) : usedF m l fro r (k + 1) = usedF m l fro r k + if fro ≤ k ∧ m.trains[k].room.toNat = r then gD l k else 0 := by simp only [usedF, List.getElem?_eq_getElem hk]
theorem zF4 {m : Market} {l : List Int} {fro s k : Nat} (hk : k < m.trains.length) : gotF m l fro s (k + 1) = gotF m l fro s k + if fro ≤ k ∧ m.trains[k].shop.toNat = s then gD l k else 0 := by simp only [gotF, List.getElem?_eq_getElem hk]
theorem zJc {m : Market} {l : List Int} {fro r k : Nat} {b : Nat → Bool} (hk : k < m.trains.length) : partF m l fro r b (k + 1) = partF m l fro r b k + if fro ≤ k ∧ m.trains[k].room.toNat = r ∧ b m.trains[k].shop.toNat = true then gD l k else 0 := by simp only [partF, List.getElem?_eq_getElem hk]
theorem sumN_at (k : Nat) (v : Int) : ∀ n, sumN n (fun i => if i = k then v else 0) = if k < n then v else 0
  | 0 => by simp [sumN]
  | n + 1 => by
    simp only [sumN, sumN_at k v n]
    by_cases h : n = k
    · subst h; rw [if_neg (by omega), if_pos rfl, if_pos (by omega)]; omega
    · rw [if_neg h]
      by_cases h2 : k < n
      · rw [if_pos h2, if_pos (by omega)]; omega
      · rw [if_neg h2, if_neg (by omega)]; omega
theorem sumN_at' {k n : Nat} (v : Int) (h : k < n) : sumN n (fun i => if i = k then v else 0) = v := by rw [sumN_at, if_pos h]
theorem count_same {m : Market} (hok : m.Ok) (l : List Int) (fro : Nat) (b : Nat → Bool) : ∀ k, k ≤ m.trains.length → sumN m.shops.length (fun s => if b s then gotF m l fro s k else 0) = sumN m.rooms.length (fun r => partF m l fro r b k)
  | 0, _ => by
    simp only [gotF, partF]
    rw [zCd (g := fun _ => 0) _ fun i _ => by split <;> rfl]
    rw [zD7, zD7]
  | k + 1, hk => by
    have hkl : k < m.trains.length := by omega
    have ih := count_same hok l fro b k (by omega)
    have ht := hok.train _ (List.getElem_mem hkl)
    have e1 : sumN m.shops.length (fun s => if b s then gotF m l fro s (k + 1) else 0) = sumN m.shops.length (fun s => if b s then gotF m l fro s k else 0) + (if fro ≤ k ∧ b m.trains[k].shop.toNat = true then gD l k else 0) := by
      have h1 := sumN_at' (k := m.trains[k].shop.toNat) (n := m.shops.length) (if fro ≤ k ∧ b m.trains[k].shop.toNat = true then gD l k else 0) (by omega)
      rw [← h1, zGb]
      refine zCd _ fun s _ => ?_
      rw [zF4 hkl]
      by_cases hs : s = m.trains[k].shop.toNat
      · subst hs
        rw [if_pos rfl]
        cases b m.trains[k].shop.toNat <;> by_cases hf : fro ≤ k <;> simp [hf]
      · have hn : ¬ (fro ≤ k ∧ m.trains[k].shop.toNat = s) := fun h => hs h.2.symm
        simp only [if_neg hs, if_neg hn, Int.add_zero]
    have e2 : sumN m.rooms.length (fun r => partF m l fro r b (k + 1)) = sumN m.rooms.length (fun r => partF m l fro r b k) + (if fro ≤ k ∧ b m.trains[k].shop.toNat = true then gD l k else 0) := by
      have h1 := sumN_at' (k := m.trains[k].room.toNat) (n := m.rooms.length) (if fro ≤ k ∧ b m.trains[k].shop.toNat = true then gD l k else 0) (by omega)
      rw [← h1, zGb]
      refine zCd _ fun s _ => ?_
      rw [zJc hkl]
      by_cases hs : s = m.trains[k].room.toNat
      · subst hs; simp
      · rw [if_neg hs, if_neg (fun h => hs h.2.1.symm)]
    rw [e1, e2, ih]
theorem part_cap {m : Market} {h : Nat → Int} {l : List Int} (hl : Load m h l) (fro r : Nat) (b : Nat → Bool) : ∀ k, k ≤ m.trains.length → partF m l fro r b k ≤ capR (trsTo m fro k) b r
  | 0, _ => by simp [partF, trsTo, capR]
  | k + 1, hk => by
    have hkl : k < m.trains.length := by omega
    have ih := part_cap hl fro r b k (by omega)
    obtain ⟨h1, h2, h3⟩ := hl.ok k hkl
    rw [zJc hkl]
    simp only [trsTo, List.getElem?_eq_getElem hkl]
    by_cases hc : fro ≤ k ∧ m.trains[k].room.toNat = r ∧ b m.trains[k].shop.toNat = true
    · rw [if_pos hc]
      by_cases hlv : leaves m m.trains[k] = true
      · rw [if_pos ⟨hc.1, hlv⟩, zG2, if_pos ⟨hc.2.1, hc.2.2⟩]
        show _ ≤ _ + m.trains[k].cap
        omega
      · rw [if_neg (fun h => hlv h.2), h3 (by simpa using hlv)]; omega
    · rw [if_neg hc]
      by_cases hlv : fro ≤ k ∧ leaves m m.trains[k] = true
      · rw [if_pos hlv, zG2, if_neg (fun h => hc ⟨hlv.1, h.1, h.2⟩)]; omega
      · rw [if_neg hlv]; omega
theorem part_used {m : Market} {h : Nat → Int} {l : List Int} (hl : Load m h l) (fro r : Nat) (b : Nat → Bool) : ∀ k, k ≤ m.trains.length → partF m l fro r b k ≤ usedF m l fro r k
  | 0, _ => by simp [partF, usedF]
  | k + 1, hk => by
    have hkl : k < m.trains.length := by omega
    have ih := part_used hl fro r b k (by omega)
    obtain ⟨h1, _, _⟩ := hl.ok k hkl
    rw [zJc hkl, zEr hkl]
    by_cases hc : fro ≤ k ∧ m.trains[k].room.toNat = r
    · rw [if_pos hc]; split <;> omega
    · rw [if_neg hc, if_neg (fun h => hc ⟨h.1, h.2.1⟩)]; omega
theorem load_flow {m : Market} (hok : m.Ok) {h : Nat → Int} {l : List Int} (hl : Load m h l) (fro : Nat) (b : Nat → Bool) (g : Nat → Int) (hg : ∀ r, usedF m l fro r m.trains.length ≤ g r) :
    sumN m.shops.length (fun s => if b s then gotF m l fro s m.trains.length else 0) ≤ sumN m.rooms.length (fun r => min (g r) (capR (trs m fro) b r)) := by
  rw [count_same hok l fro b _ (Nat.le_refl _)]
  refine sumN_le _ fun r _ => ?_
  have h1 := part_cap hl fro r b _ (Nat.le_refl _)
  have h2 := part_used hl fro r b _ (Nat.le_refl _)
  have h3 := hg r
  unfold trs
  omega
theorem load_serves {m : Market} (hok : m.Ok) {h : Nat → Int} {l : List Int} (hl : Load m h l) (fro : Nat) (g w : Nat → Int) (hg : ∀ r, usedF m l fro r m.trains.length ≤ g r) {sh : Nat → Bool} (hw : ∀ s < m.shops.length, sh s = true → w s ≤ gotF m l fro s m.trains.length) :
    NoLack m.rooms.length m.shops.length (trs m fro) g w sh := by
  intro b hb
  have h1 := load_flow hok hl fro b g hg
  have h2 : sumN m.shops.length (fun s => if b s then w s else 0) ≤ sumN m.shops.length (fun s => if b s then gotF m l fro s m.trains.length else 0) := sumN_le _ fun s hs => by
    by_cases e : b s = true
    · rw [if_pos e, if_pos e]; exact hw s hs (hb s e)
    · rw [if_neg e, if_neg e]; omega
  unfold lk
  omega
theorem gotF_to {m : Market} (hok : m.Ok) (l : List Int) : ∀ k, k ≤ m.trains.length → ∀ s, s < m.shops.length → gD (gotTo m l k) s = gotF m l 0 s k
  | 0, _, s, hs => by simp [gD, gotTo, gotF, List.getD, hs]
  | k + 1, hk, s, hs => by
    have hkl : k < m.trains.length := by omega
    have ih := gotF_to hok l k (by omega) s hs
    have ht := hok.train _ (List.getElem_mem hkl)
    have hl := gotTo_len m l k
    rw [zF4 hkl, ← ih]
    have e0 : gotTo m l (k + 1) = (gotTo m l k).set m.trains[k].shop.toNat ((gotTo m l k).getD m.trains[k].shop.toNat 0 + l.getD k 0) := by simp only [gotTo, List.getElem?_eq_getElem hkl]
    rw [e0]
    unfold gD
    by_cases e : m.trains[k].shop.toNat = s
    · subst e
      rw [zDv (by omega), if_pos ⟨by omega, rfl⟩]
    · rw [zCh e, if_neg (fun h => e h.2)]; omega
theorem usedF_app {m : Market} {l : List Int} {x : Int} {fro r : Nat} : ∀ k, k ≤ l.length → usedF m (l ++ [x]) fro r k = usedF m l fro r k
  | 0, _ => rfl
  | k + 1, h => by
    simp only [usedF]
    rw [usedF_app k (by omega)]
    congr 1
    have : gD (l ++ [x]) k = gD l k := by simp [gD, List.getD, List.getElem?_append_left (show k < l.length by omega)]
    rw [this]
theorem gotF_app {m : Market} {l : List Int} {x : Int} {fro r : Nat} : ∀ k, k ≤ l.length → gotF m (l ++ [x]) fro r k = gotF m l fro r k
  | 0, _ => rfl
  | k + 1, h => by
    simp only [gotF]
    rw [gotF_app k (by omega)]
    congr 1
    have : gD (l ++ [x]) k = gD l k := by simp [gD, List.getD, List.getElem?_append_left (show k < l.length by omega)]
    rw [this]
theorem gD_app {l : List Int} {x : Int} {k : Nat} (h : k < l.length) : gD (l ++ [x]) k = gD l k := by simp [gD, List.getD, List.getElem?_append_left h]
theorem zJm {l : List Int} {x : Int} {k : Nat} (h : k = l.length) : gD (l ++ [x]) k = x := by subst h; simp [gD, List.getD]
end Go.Rt.Sh
/- Plain laws of the shop layer: what shops prove; some of them. No conditions. -/
namespace Go.Rt.Sh
def lackN (m : Market) (got set : List Int) : Nat → Int
  | 0 => 0
  | i + 1 => lackN m got set i + ((wantsL m).getD (set.getD i 0).toNat 0 - min ((wantsL m).getD (set.getD i 0).toNat 0) (got.getD (set.getD i 0).toNat 0))
theorem leastL_fine {m : Market} (hok : m.Ok) : (leastL m).length = m.rooms.length ∧ ∀ z ∈ leastL m, 0 ≤ z ∧ z ≤ 200 :=
  ⟨by simp [leastL], fun z hz => by obtain ⟨r, hr, rfl⟩ := List.mem_map.1 hz; have := hok.room r hr; omega⟩
structure ProvedF (m : Market) (b : Nat) (x : List Int) : Prop where
  ok : (canP m (listL b m.shops.length)).2 = 0
  iff : (canP m (listL b m.shops.length)).1 = 1 ↔ (proofP m (listL b m.shops.length)).2.2 = 9
  down : (proofP m (listL b m.shops.length)).2.2 ≠ 0 → proofP m (listL b m.shops.length) = ([], 0,9)
  pos : (proofP m (listL b m.shops.length)).2.2 = 0 → 1 ≤ (proofP m (listL b m.shops.length)).2.1
  ri : (proofP m (listL b m.shops.length)).2.2 = 0 → rising m.shops.length (-1) (proofP m (listL b m.shops.length)).1 = true
  inn : (proofP m (listL b m.shops.length)).2.2 = 0 → ∀ z ∈ (proofP m (listL b m.shops.length)).1, hasI (listL b m.shops.length) z = true ∧ 0 ≤ z ∧ z < m.shops.length
  ge : (proofP m (listL b m.shops.length)).2.2 = 0 → (proofP m (listL b m.shops.length)).2.1 ≤ lackN m (gotTo m (anyTo m (leastL m) x m.trains.length).1 m.trains.length) (proofP m (listL b m.shops.length)).1 (proofP m (listL b m.shops.length)).1.length
def fewTo (l : List Int) (y : Nat) : Nat → List Int
  | 0 => []
  | i + 1 => if bit y i = 1 then fewTo l y i ++ [l.getD i 0] else fewTo l y i
def fedTo (m : Market) (got : List Int) : Nat → List Int
  | 0 => []
  | i + 1 => if (wantsL m).getD i 0 ≤ got.getD i 0 then fedTo m got i ++ [(i : Int)] else fedTo m got i
structure SomeF (m : Market) (b y : Nat) (x : List Int) : Prop where
  e1 : (canP m (listL b m.shops.length)).2 = 0
  e2 : (canP m (fewTo (listL b m.shops.length) y (listL b m.shops.length).length)).2 = 0
  must : (canP m (listL b m.shops.length)).1 = 1 → (canP m (fewTo (listL b m.shops.length) y (listL b m.shops.length).length)).1 = 1
  never : (canP m (fewTo (listL b m.shops.length) y (listL b m.shops.length).length)).1 = 2 → (canP m (listL b m.shops.length)).1 = 2
  e3 : (canP m (fedTo m (gotTo m (anyTo m (mostL m) x m.trains.length).1 m.trains.length) m.shops.length)).2 = 0
  fed : (canP m (fedTo m (gotTo m (anyTo m (mostL m) x m.trains.length).1 m.trains.length) m.shops.length)).1 ≠ 2
end Go.Rt.Sh
namespace Go.Rt.Sh
end Go.Rt.Sh
/- Plain laws of the shop layer: what Give gives serves all but those of Without, and comes first. No conditions. -/
namespace Go.Rt.Sh
theorem usedF_congr {m : Market} {l l' : List Int} {fro r : Nat} : ∀ k, (∀ j < k, gD l j = gD l' j) → usedF m l fro r k = usedF m l' fro r k
  | 0, _ => rfl
  | k + 1, h => by simp only [usedF]; rw [usedF_congr k fun j hj => h j (by omega), h k (by omega)]
theorem gotF_congr {m : Market} {l l' : List Int} {fro r : Nat} : ∀ k, (∀ j < k, gD l j = gD l' j) → gotF m l fro r k = gotF m l' fro r k
  | 0, _ => rfl
  | k + 1, h => by simp only [gotF]; rw [gotF_congr k fun j hj => h j (by omega), h k (by omega)]
theorem usedF_low {m : Market} {l : List Int} {f r : Nat} : ∀ k, k ≤ f → usedF m l f r k = 0
  | 0, _ => rfl
  | k + 1, h => by
    simp only [usedF]; rw [usedF_low k (by omega)]
    cases m.trains[k]? with
    | none => rfl
    | some t => dsimp only; rw [if_neg (by omega)]; rfl
theorem gotF_low {m : Market} {l : List Int} {f r : Nat} : ∀ k, k ≤ f → gotF m l f r k = 0
  | 0, _ => rfl
  | k + 1, h => by
    simp only [gotF]; rw [gotF_low k (by omega)]
    cases m.trains[k]? with
    | none => rfl
    | some t => dsimp only; rw [if_neg (by omega)]; rfl
theorem zHq {m : Market} {l : List Int} {f r : Nat} : ∀ k, f ≤ k → usedF m l 0 r k = usedF m l 0 r f + usedF m l f r k
  | 0, h => by have : f = 0 := by omega
               subst this; simp [usedF]
  | k + 1, h => by
    by_cases e : f = k + 1
    · subst e; rw [usedF_low (k + 1) (Nat.le_refl _)]; omega
    · have ih := zHq (m := m) (l := l) (r := r) k (show f ≤ k by omega)
      simp only [usedF]; rw [ih]
      cases m.trains[k]? with
      | none => dsimp only; omega
      | some t =>
        dsimp only
        by_cases h2 : t.room.toNat = r
        · rw [if_pos ⟨by omega, h2⟩, if_pos ⟨by omega, h2⟩]; omega
        · rw [if_neg (fun h => h2 h.2), if_neg (fun h => h2 h.2)]; omega
theorem gotF_split {m : Market} {l : List Int} {f r : Nat} : ∀ k, f ≤ k → gotF m l 0 r k = gotF m l 0 r f + gotF m l f r k
  | 0, h => by have : f = 0 := by omega
               subst this; simp [gotF]
  | k + 1, h => by
    by_cases e : f = k + 1
    · subst e; rw [gotF_low (k + 1) (Nat.le_refl _)]; omega
    · have ih := gotF_split (m := m) (l := l) (r := r) k (show f ≤ k by omega)
      simp only [gotF]; rw [ih]
      cases m.trains[k]? with
      | none => dsimp only; omega
      | some t =>
        dsimp only
        by_cases h2 : t.shop.toNat = r
        · rw [if_pos ⟨by omega, h2⟩, if_pos ⟨by omega, h2⟩]; omega
        · rw [if_neg (fun h => h2 h.2), if_neg (fun h => h2 h.2)]; omega
theorem zJl {m : Market} (hok : m.Ok) {sub : Nat} (hs : sub < 2 ^ m.shops.length) (h : servedR m (leastL m) (listL sub m.shops.length) = true) : ∀ i, i ≤ m.trains.length →
    (∀ k (hk : k < m.trains.length), k < i → 0 ≤ gD (giveTo m (listL sub m.shops.length) i).1 k ∧ gD (giveTo m (listL sub m.shops.length) i).1 k ≤ m.trains[k].cap ∧ (leaves m m.trains[k] = false → gD (giveTo m (listL sub m.shops.length) i).1 k = 0) ∧ (bset sub m.trains[k].shop.toNat = false → gD (giveTo m (listL sub m.shops.length) i).1 k = 0)) ∧
    (∀ r, gD (giveTo m (listL sub m.shops.length) i).2.1 r = gD (leastL m) r - usedF m (giveTo m (listL sub m.shops.length) i).1 0 r i) ∧ (∀ s, gD (giveTo m (listL sub m.shops.length) i).2.2 s = gD (wantsL m) s - gotF m (giveTo m (listL sub m.shops.length) i).1 0 s i)
  | 0, _ => ⟨fun k _ h => by omega, fun r => by simp [giveTo, usedF], fun s => by simp [giveTo, gotF]⟩
  | i + 1, hi => by
    have hil : i < m.trains.length := by omega
    obtain ⟨h1, h2, h3⟩ := zJl hok hs h i (by omega)
    have hf := fine_to hok hs h i (by omega)
    have hlen := zHg (m := m) (shops := listL sub m.shops.length) i (by omega)
    have ht := hok.train _ (List.getElem_mem hil)
    have hgl := zIo hok (sub := sub) (List.getElem_mem hil)
    rw [zFm hil]
    dsimp only
    by_cases hg : goesS m (listL sub m.shops.length) m.trains[i] = true
    · obtain ⟨a1, a2, a3, a4, a5⟩ := zKl hok hs hf hil hg
      obtain ⟨g1, g2⟩ := hgl.1 hg
      refine ⟨fun k hk hki => ?_, fun r => ?_, fun s => ?_⟩
      · by_cases e : k = i
        · subst e
          rw [zJm hlen.symm]
          exact ⟨by omega, a3, fun hh => by rw [g1] at hh; (cases hh), fun hh => by rw [g2] at hh; cases hh⟩
        · rw [gD_app (by omega)]; exact h1 k hk (by omega)
      · unfold nextH
        rw [if_pos hg, zFi _ (by rw [hf.hl]; omega), zEr hil, usedF_app i (by omega), zJm hlen.symm]
        unfold put
        by_cases e : r = m.trains[i].room.toNat
        · subst e; rw [if_pos rfl, if_pos ⟨by omega, rfl⟩, h2]; omega
        · rw [if_neg e, if_neg (fun h => e h.2.symm), h2]; omega
      · unfold nextW
        rw [if_pos hg, zFi _ (by rw [hf.wl]; omega), zF4 hil, gotF_app i (by omega), zJm hlen.symm]
        unfold put
        by_cases e : s = m.trains[i].shop.toNat
        · subst e; rw [if_pos rfl, if_pos ⟨by omega, rfl⟩, h3]; omega
        · rw [if_neg e, if_neg (fun h => e h.2.symm), h3]; omega
    · have e0 : nAt m (listL sub m.shops.length) (giveTo m (listL sub m.shops.length) i).2.1 (giveTo m (listL sub m.shops.length) i).2.2 i m.trains[i] = 0 := by unfold nAt; rw [if_neg hg]
      rw [e0]
      refine ⟨fun k hk hki => ?_, fun r => ?_, fun s => ?_⟩
      · by_cases e : k = i
        · subst e
          rw [zJm hlen.symm]
          exact ⟨by omega, by simp; omega, fun _ => rfl, fun _ => rfl⟩
        · rw [gD_app (by omega)]; exact h1 k hk (by omega)
      · unfold nextH
        rw [if_neg hg, zEr hil, usedF_app i (by omega), zJm hlen.symm, h2]
        split <;> simp
      · unfold nextW
        rw [if_neg hg, zF4 hil, gotF_app i (by omega), zJm hlen.symm, h3]
        split <;> simp
theorem others_has (l : List Int) : ∀ (n : Nat) (z : Int), hasI (othersTo l n) z = true ↔ (0 ≤ z ∧ z < n) ∧ hasI l z = false
  | 0, z => by simp [othersTo, hasI]; omega
  | n + 1, z => by
    have ih := others_has l n z
    unfold othersTo
    by_cases h : hasI l n = true
    · rw [if_pos h, ih]
      constructor
      · rintro ⟨h1, h2⟩; exact ⟨by omega, h2⟩
      · rintro ⟨h1, h2⟩
        refine ⟨?_, h2⟩
        by_cases e : z = n
        · subst e; rw [h] at h2; cases h2
        · omega
    · rw [if_neg h]
      have e1 : hasI (othersTo l n ++ [(n : Int)]) z = (hasI (othersTo l n) z || decide ((n : Int) = z)) := by simp [hasI, List.any_append]
      rw [e1, Bool.or_eq_true, ih, decide_eq_true_eq]
      constructor
      · rintro (⟨h1, h2⟩ | rfl)
        · exact ⟨by omega, h2⟩
        · exact ⟨by omega, by simpa using h⟩
      · rintro ⟨h1, h2⟩
        by_cases e : (n : Int) = z
        · exact .inr e
        · exact .inl ⟨by omega, h2⟩
theorem zIl : ∀ (a b : List Int), a.length = b.length → less a b = true → ∃ i, i < a.length ∧ (∀ j < i, gD a j = gD b j) ∧ gD a i < gD b i
  | [], [], _, h => by simp [less] at h
  | [], _ :: _, h, _ => by simp at h
  | _ :: _, [], h, _ => by simp at h
  | x :: a, y :: b, hl, h => by
    simp only [less] at h
    by_cases e : x = y
    · subst e
      rw [if_pos rfl] at h
      obtain ⟨i, h1, h2, h3⟩ := zIl a b (by simpa using hl) h
      refine ⟨i + 1, by simp; omega, fun j hj => ?_, h3⟩
      cases j with
      | zero => rfl
      | succ j => exact h2 j (by omega)
    · rw [if_neg e] at h
      exact ⟨0, by simp, fun j hj => by omega, by simpa [gD, List.getD] using h⟩
def wantW (m : Market) (s : Nat) : Int := if hasI (withoutL m) s then 0 else gD (wantsL m) s
structure ServedF (m : Market) (x : List Int) : Prop where
  gp : giveP m = (giveL m, 0)
  wp : withoutP m = (withoutL m, 0)
  ri : rising m.shops.length (-1) (withoutL m) = true
  load : Load m (gD (leastL m)) (giveL m)
  got : ∀ s < m.shops.length, gD (gotTo m (giveL m) m.trains.length) s = wantW m s
  first : ∀ other, Load m (gD (leastL m)) other → (∀ s < m.shops.length, gD (gotTo m other m.trains.length) s = wantW m s) → less other (giveL m) = false
theorem served_facts {m : Market} (h : (check m).2.2 = 0) (x : List Int) : ServedF m x := by
  have hok := check_ok h
  have hls := hok.ls
  have hne : ¬ ((check m).2.2 ≠ 0) := by simp [h]
  obtain ⟨w, hw, e, e1, hsub, hsv⟩ := zHo hok
  have hgl := giveTo_giveL hok
  rw [e1] at hsv hgl
  generalize hS : giveSub (1 <<< m.shops.length - 1) (withoutL m) = sub at hsv hgl hsub e1
  have hT := zJl hok hsub hsv _ (Nat.le_refl _)
  have hlen := zHg (m := m) (shops := listL sub m.shops.length) _ (Nat.le_refl _)
  have hfT := fine_to hok hsub hsv _ (Nat.le_refl _)
  have hb : ∀ s < m.shops.length, bset sub s = !hasI (withoutL m) s := by
    intro s hs
    have a1 := others_has (withoutL m) m.shops.length s
    rw [e1, zHe] at a1
    cases hh : hasI (withoutL m) s with
    | false =>
      have := (a1.2 ⟨by omega, hh⟩).2.2
      unfold bset; simpa using this
    | true =>
      unfold bset
      rw [Bool.not_true, decide_eq_false_iff_not]
      intro h1
      have := (a1.1 ⟨by omega, by omega, by simpa using h1⟩).2
      rw [hh] at this; cases this
  have hload : Load m (gD (leastL m)) (giveL m) := by
    rw [← hgl]
    refine ⟨hlen, fun k hk => ?_, fun r => ?_⟩
    · have := hT.1 k hk hk; exact ⟨this.1, this.2.1, this.2.2.1⟩
    · have h1 := hT.2.1 r
      have h2 : 0 ≤ gD (giveTo m (listL sub m.shops.length) m.trains.length).2.1 r := zEc (fun z hz => (hfT.hn z hz).1) r
      omega
  refine ⟨by unfold giveP; rw [if_neg hne], by unfold withoutP; rw [if_neg hne], ?_, hload, ?_, ?_⟩
  · rw [e]; exact zFl _ (by omega) w (pow_16 hls hw) hw
  · intro s hs
    rw [gotF_to hok _ _ (Nat.le_refl _) s hs, ← hgl]
    unfold wantW
    have hbs := hb s hs
    cases hh : hasI (withoutL m) s with
    | true =>
      rw [hh, Bool.not_true] at hbs
      rw [if_pos rfl]
      have key : ∀ k, k ≤ m.trains.length → gotF m (giveTo m (listL sub m.shops.length) m.trains.length).1 0 s k = 0 := by
        intro k
        induction k with
        | zero => intro _; rfl
        | succ k ih =>
          intro hk
          rw [zF4 (by omega), ih (by omega)]
          by_cases e2 : (m.trains[k]'(by omega)).shop.toNat = s
          · rw [if_pos ⟨by omega, e2⟩, (hT.1 k (by omega) (by omega)).2.2.2 (by rw [e2]; exact hbs)]; rfl
          · rw [if_neg (fun h => e2 h.2)]; rfl
      exact key _ (Nat.le_refl _)
    | false =>
      rw [hh, Bool.not_false] at hbs
      rw [if_neg (by simp)]
      have h3 := hT.2.2 s
      have hno := hfT.no (fun i => decide (i = s)) (fun i hi => by have : i = s := by simpa using hi
                                                                   subst this; exact hbs)
      have h4 : 0 ≤ gD (giveTo m (listL sub m.shops.length) m.trains.length).2.2 s := zEc (fun z hz => (hfT.wn z hz).1) s
      have h5 : gD (giveTo m (listL sub m.shops.length) m.trains.length).2.2 s ≤ 0 := by
        unfold lk at hno
        have ee : trs m m.trains.length = [] := by
          have : ∀ j, j ≤ m.trains.length → trsTo m m.trains.length j = [] := by
            intro j
            induction j with
            | zero => intro _; rfl
            | succ j ih =>
              intro hj
              unfold trsTo
              cases m.trains[j]? with
              | none => exact ih (by omega)
              | some t => dsimp only; rw [if_neg (by omega)]; exact ih (by omega)
          exact this _ (Nat.le_refl _)
        rw [ee] at hno
        have z1 : sumN m.rooms.length (fun r => min (gD (giveTo m (listL sub m.shops.length) m.trains.length).2.1 r) (capR [] (fun i => decide (i = s)) r)) = 0 := by
          rw [zCd (g := fun _ => 0) _ fun r _ => by
            have := zEc (fun z hz => (hfT.hn z hz).1) r
            show min (gD _ r) 0 = 0
            unfold gD; omega]
          exact zD7 _
        have z2 : sumN m.shops.length (fun i => if (decide (i = s)) = true then gD (giveTo m (listL sub m.shops.length) m.trains.length).2.2 i else 0) = gD (giveTo m (listL sub m.shops.length) m.trains.length).2.2 s := by
          rw [← sumN_at' (k := s) (n := m.shops.length) (gD (giveTo m (listL sub m.shops.length) m.trains.length).2.2 s) hs]
          refine zCd _ fun i _ => ?_
          by_cases e2 : i = s
          · subst e2; simp
          · simp [e2]
        rw [z1, z2] at hno
        omega
      omega
  · intro other hl hgo
    cases hlt : less other (giveL m) with
    | false => rfl
    | true =>
      exfalso
      obtain ⟨i, hi, hpre, hlt2⟩ := zIl other (giveL m) (by rw [hl.len, hload.len]) hlt
      rw [hl.len] at hi
      have ht := hok.train _ (List.getElem_mem hi)
      have hgr := zGk (m := m) (shops := listL sub m.shops.length) (m.trains.length - (i + 1)) (i + 1) (by omega)
      have hgs := zFm (m := m) (shops := listL sub m.shops.length) hi
      have hleni := zHg (m := m) (shops := listL sub m.shops.length) i (by omega)
      have hpre2 : ∀ j < i, gD other j = gD (giveTo m (listL sub m.shops.length) i).1 j := by
        intro j hj
        rw [hpre j hj, ← hgl, hgr, hgs]
        dsimp only
        rw [List.append_assoc]
        simp [gD, List.getD, List.getElem?_append_left (show j < (giveTo m (listL sub m.shops.length) i).1.length by omega)]
      have hat : gD (giveL m) i = nAt m (listL sub m.shops.length) (giveTo m (listL sub m.shops.length) i).2.1 (giveTo m (listL sub m.shops.length) i).2.2 i m.trains[i] := by
        rw [← hgl, hgr, hgs]
        dsimp only
        rw [List.append_assoc]
        simp [gD, List.getD, List.getElem?_append_right (show (giveTo m (listL sub m.shops.length) i).1.length ≤ i by omega), hleni]
      rw [hat] at hlt2
      obtain ⟨o1, o2, o3⟩ := hl.ok i hi
      obtain ⟨s1, s2, s3⟩ := zJl hok hsub hsv i (by omega)
      have hfi := fine_to hok hsub hsv i (by omega)
      have hg : goesS m (listL sub m.shops.length) m.trains[i] = true := by
        cases hg : goesS m (listL sub m.shops.length) m.trains[i] with
        | true => rfl
        | false =>
          have e0 : nAt m (listL sub m.shops.length) (giveTo m (listL sub m.shops.length) i).2.1 (giveTo m (listL sub m.shops.length) i).2.2 i m.trains[i] = 0 := by unfold nAt; rw [if_neg (by simp [hg])]
          rw [e0] at hlt2; simp at hlt2; omega
      obtain ⟨a1, a2, a3, a4, a5⟩ := zKl hok hsub hfi hi hg
      obtain ⟨q, hq⟩ : ∃ q : Nat, gD other i = (q : Int) := ⟨(gD other i).toNat, by omega⟩
      rw [hq] at hlt2
      have hbad := a2 q (by omega)
      unfold okAt at hbad
      rw [decide_eq_false_iff_not, zFw hok _ (fun z hz => (zGc hfi.hn (by omega) (by omega) z hz).1) hsub] at hbad
      apply hbad
      have hu : ∀ r, usedF m other 0 r i = usedF m (giveTo m (listL sub m.shops.length) i).1 0 r i := fun r => usedF_congr i hpre2
      have hgt : ∀ s, gotF m other 0 s i = gotF m (giveTo m (listL sub m.shops.length) i).1 0 s i := fun s => gotF_congr i hpre2
      refine load_serves hok hl (i + 1) _ _ (fun r => ?_) (fun s hs hss => ?_)
      · have r1 := hl.rooms r
        rw [zHq (f := i + 1) _ (by omega), zEr hi, hu r, hq] at r1
        rw [zFi _ (by rw [hfi.hl]; omega)]
        have r2 := s2 r
        unfold put
        by_cases e2 : r = m.trains[i].room.toNat
        · subst e2; rw [if_pos ⟨by omega, rfl⟩] at r1; rw [if_pos rfl]; omega
        · rw [if_neg (fun h => e2 h.2.symm)] at r1; rw [if_neg e2]; omega
      · have g1 := hgo s hs
        rw [gotF_to hok _ _ (Nat.le_refl _) s hs, gotF_split (f := i + 1) _ (by omega), zF4 hi, hgt s, hq] at g1
        have hww : wantW m s = gD (wantsL m) s := by
          unfold wantW
          have := hb s hs
          rw [hss] at this
          have h2 : hasI (withoutL m) s = false := by simpa using this.symm
          rw [if_neg (by simp [h2])]
        rw [hww] at g1
        rw [zFi _ (by rw [hfi.wl]; omega)]
        have r2 := s3 s
        unfold put
        by_cases e2 : s = m.trains[i].shop.toNat
        · subst e2; rw [if_pos ⟨by omega, rfl⟩] at g1; rw [if_pos rfl]; omega
        · rw [if_neg (fun h => e2 h.2.symm)] at g1; rw [if_neg e2]; omega
end Go.Rt.Sh
namespace Go.Rt.Sh
def leftTo (m : Market) (hands l : List Int) : Nat → List Int
  | 0 => hands
  | i + 1 => match m.trains[i]? with | some t => subAt (leftTo m hands l i) t.room.toNat (gD l i) | none => leftTo m hands l i
theorem leftTo_succ {m : Market} {hands l : List Int} {i : Nat} (hi : i < m.trains.length) : leftTo m hands l (i + 1) = subAt (leftTo m hands l i) m.trains[i].room.toNat (gD l i) := by simp only [leftTo, List.getElem?_eq_getElem hi]
theorem usedF_nn {m : Market} {h : Nat → Int} {l : List Int} (hl : Load m h l) (f r : Nat) : ∀ k, k ≤ m.trains.length → 0 ≤ usedF m l f r k
  | 0, _ => by simp [usedF]
  | k + 1, hk => by
    have ih := usedF_nn hl f r k (by omega)
    have := (hl.ok k (by omega)).1
    rw [zEr (by omega)]; split <;> omega
theorem leftTo_fine {m : Market} (hok : m.Ok) {hands l : List Int} (hl : hands.length = m.rooms.length) (hh : ∀ z ∈ hands, 0 ≤ z ∧ z ≤ 200) (hld : Load m (gD hands) l) : ∀ i, i ≤ m.trains.length → (leftTo m hands l i).length = m.rooms.length ∧ (∀ r, gD (leftTo m hands l i) r = gD hands r - usedF m l 0 r i) ∧ ∀ z ∈ leftTo m hands l i, 0 ≤ z ∧ z ≤ 200
  | 0, _ => ⟨hl, fun r => by simp [leftTo, usedF], hh⟩
  | i + 1, hi => by
    have hil : i < m.trains.length := by omega
    obtain ⟨h1, h2, h3⟩ := leftTo_fine hok hl hh hld i (by omega)
    have ht := hok.train _ (List.getElem_mem hil)
    obtain ⟨o1, _, _⟩ := hld.ok i hil
    have hr := hld.rooms m.trains[i].room.toNat
    rw [zHq (f := i + 1) _ (by omega), zEr hil, if_pos ⟨by omega, rfl⟩] at hr
    have hn := usedF_nn hld (i + 1) m.trains[i].room.toNat _ (Nat.le_refl _)
    have h2r := h2 m.trains[i].room.toNat
    rw [leftTo_succ hil]
    refine ⟨by rw [subAt_len]; exact h1, fun r => ?_, zGc h3 o1 (by omega)⟩
    rw [zFi _ (by omega), zEr hil]
    unfold put
    by_cases e : r = m.trains[i].room.toNat
    · subst e; rw [if_pos rfl, if_pos ⟨by omega, rfl⟩]; omega
    · rw [if_neg e, if_neg (fun h => e h.2.symm), h2]; omega
theorem gD_get {l : List Int} {i : Nat} (h : i < l.length) : gD l i = l[i] := by simp [gD, List.getD, h]
theorem load_small {m : Market} (hok : m.Ok) {h : Nat → Int} {l : List Int} (hl : Load m h l) : ∀ z ∈ l, 0 ≤ z ∧ z ≤ 60 := by
  intro z hz
  obtain ⟨k, hk, rfl⟩ := List.getElem_of_mem hz
  have hk2 : k < m.trains.length := by rw [← hl.len]; exact hk
  obtain ⟨h1, h2, _⟩ := hl.ok k hk2
  have ht := hok.train _ (List.getElem_mem hk2)
  rw [gD_get hk] at h1 h2
  omega
end Go.Rt.Sh
/- Plain laws of the shop layer: what a late train costs. No conditions. -/
namespace Go.Rt.Sh
theorem best_ge {f : List Int → Int} {C : List Int → Prop} {s : List Int × Int} (h : Best f C s) {c : List Int} (hc : C c) : f c ≤ s.2 := by
  rcases h with ⟨e, a⟩ | ⟨l, _, e, _, a⟩
  · rw [e]; have := a c hc; show f c ≤ 0; omega
  · rw [e]; exact (a c hc).1
theorem worst_le {m m' : Market} (hok : m.Ok) (hok' : m'.Ok) (hn : m'.shops.length = m.shops.length) {h h' w w' : List Int} (hh : ∀ z ∈ h, 0 ≤ z) (hh' : ∀ z ∈ h', 0 ≤ z) {sub : Nat} (hs : sub < 2 ^ m.shops.length) {d : Int} (hd : 0 ≤ d)
    (hle : ∀ b, b < 16 → bitDiff b sub = 0 → lackR m' h' w' (listL b m.shops.length) 0 ≤ lackR m h w (listL b m.shops.length) 0 + d) : (worstR m' h' w' (listL sub m.shops.length) 0).2 ≤ (worstR m h w (listL sub m.shops.length) 0).2 + d := by
  have hb := zI3 hok h w hs 0 (by rw [zJj hok w hh]; omega)
  have hb' := zI3 hok' h' w' (sub := sub) (by rw [hn]; exact hs) 0 (by rw [zJj hok' w' hh']; omega)
  rw [hn] at hb'
  have hnn := worstR_nn m h w (listL sub m.shops.length) 0
  rcases hb' with ⟨e, _⟩ | ⟨l, ⟨b, hb16, hbd, rfl⟩, e, _, _⟩
  · rw [e]; show (0 : Int) ≤ _; omega
  · rw [e]
    have h1 := hle b hb16 hbd
    have h2 := best_ge hb (c := listL b m.shops.length) ⟨b, hb16, hbd, rfl⟩
    dsimp only at h2 ⊢
    omega
theorem trsTo_congr {m m' : Market} (hl : ∀ t, leaves m' t = leaves m t) (f : Nat) : ∀ k, (∀ j, f ≤ j → j < k → m'.trains[j]? = m.trains[j]?) → trsTo m' f k = trsTo m f k
  | 0, _ => rfl
  | k + 1, h => by
    have ih := trsTo_congr hl f k fun j h1 h2 => h j h1 (by omega)
    simp only [trsTo]
    by_cases hf : f ≤ k
    · rw [h k hf (by omega), ih]
      cases m.trains[k]? with
      | none => rfl
      | some t => dsimp only; rw [hl t]
    · rw [ih]
      have e1 : (match m'.trains[k]? with | some t => if f ≤ k ∧ leaves m' t = true then trsTo m f k ++ [toTr t] else trsTo m f k | none => trsTo m f k) = trsTo m f k := by
        cases m'.trains[k]? with
        | none => rfl
        | some t => dsimp only; rw [if_neg (fun h => hf h.1)]
      have e2 : (match m.trains[k]? with | some t => if f ≤ k ∧ leaves m t = true then trsTo m f k ++ [toTr t] else trsTo m f k | none => trsTo m f k) = trsTo m f k := by
        cases m.trains[k]? with
        | none => rfl
        | some t => dsimp only; rw [if_neg (fun h => hf h.1)]
      exact e1.trans e2.symm
def onceR (t : Train) (go : Bool) (s : Nat → Bool) (r : Nat) : Int := if go = true ∧ t.room.toNat = r ∧ s t.shop.toNat = true then t.cap else 0
theorem proof_all {m : Market} (h : (check m).2.2 = 0) : (proofP m (allL' m)).2.1 = (worstR m (leastL m) (wantsL m) (allL' m) 0).2 ∧ ((proofP m (allL' m)).2.2 = 0 ∨ (proofP m (allL' m)).2.2 = 9) ∧ ((proofP m (allL' m)).2.2 = 9 ↔ (worstR m (leastL m) (wantsL m) (allL' m) 0).2 = 0) := by
  have hok := check_ok h
  have ha := all_list hok
  have hask : askedE m (allL' m) = 0 := by rw [ha.1]; exact asked_list h ha.2
  rw [← proof_same]
  unfold proofR
  rw [if_neg (by simp [hask])]
  by_cases hw : (worstR m (leastL m) (wantsL m) (allL' m) 0).2 = 0
  · rw [if_pos hw]; exact ⟨hw.symm, .inr rfl, by simp [hw]⟩
  · rw [if_neg hw]; exact ⟨rfl, .inl rfl, by simp [hw]⟩
structure LateF (m : Market) (i : Nat) (hi : i < m.trains.length) : Prop where
  e0 : (lateP m i).2 = 0
  nn : 0 ≤ (lateP m i).1
  cap : (lateP m i).1 ≤ m.trains[i].cap
  same : leaves m m.trains[i] = leaves m (late m.trains[i]) → (lateP m i).1 = 0
  stay : leaves m m.trains[i] = false → (lateP m i).1 = 0
  pf : (proofP m (allL' m)).2.2 = 0 ∨ (proofP m (allL' m)).2.2 = 9
  ps : (check (lateM m i)).2.2 = 0 → (proofP (lateM m i) (allL' m)).2.2 = 0 ∨ (proofP (lateM m i) (allL' m)).2.2 = 9
  eq : (check (lateM m i)).2.2 = 0 → (lateP m i).1 = max (0 : Int) ((proofP (lateM m i) (allL' m)).2.1 - (proofP m (allL' m)).2.1)
  b1 : 0 ≤ (proofP m (allL' m)).2.1 ∧ (proofP m (allL' m)).2.1 ≤ 100000
  b2 : (check (lateM m i)).2.2 = 0 → 0 ≤ (proofP (lateM m i) (allL' m)).2.1 ∧ (proofP (lateM m i) (allL' m)).2.1 ≤ 100000
end Go.Rt.Sh
/- Plain laws of the shop layer: an easier market. No conditions. -/
namespace Go.Rt.Sh
structure Eas (m z : Market) : Prop where
  n : z.shops.length = m.shops.length
  le : ∀ b, b < 16 → b < 2 ^ m.shops.length → lackR z (leastL z) (wantsL z) (listL b m.shops.length) 0 ≤ lackR m (leastL m) (wantsL m) (listL b m.shops.length) 0
theorem eas_worst {m z : Market} (hok : m.Ok) (hokz : z.Ok) (h : Eas m z) {sub : Nat} (hs : sub < 2 ^ m.shops.length) : (worstR z (leastL z) (wantsL z) (listL sub m.shops.length) 0).2 ≤ (worstR m (leastL m) (wantsL m) (listL sub m.shops.length) 0).2 := by
  have hls := hok.ls
  have := worst_le hok hokz h.n (h := leastL m) (h' := leastL z) (w := wantsL m) (w' := wantsL z) (fun z hz => ((leastL_fine hok).2 z hz).1) (fun y hy => ((leastL_fine hokz).2 y hy).1) hs (d := 0) (by omega) (fun b hb hd => by
    have := h.le b hb (sub_small m.shops.length (by omega) sub (pow_16 hls hs) hs b hb hd); omega)
  omega
structure EasF (m z : Market) : Prop where
  e0 : (withoutP z).2 = 0
  len : (withoutP z).1.length ≤ (withoutP m).1.length
  pz : (proofP z (allL' z)).2.2 = 0 ∨ (proofP z (allL' z)).2.2 = 9
  down : (proofP m (allL' m)).2.2 = 9 → (proofP z (allL' z)).2.2 = (proofP m (allL' m)).2.2
  less : (proofP z (allL' z)).2.2 = 0 → (proofP z (allL' z)).2.1 ≤ (proofP m (allL' m)).2.1
theorem eas_facts {m z : Market} (h : (check m).2.2 = 0) (hz : (check z).2.2 = 0) (he : Eas m z) : EasF m z := by
  have hok := check_ok h
  have hokz := check_ok hz
  have hn := he.n
  have hnm : ¬ ((check m).2.2 ≠ 0) := by simp [h]
  have hnz : ¬ ((check z).2.2 ≠ 0) := by simp [hz]
  have wz : withoutP z = (withoutL z, 0) := by unfold withoutP; rw [if_neg hnz]
  have wm : withoutP m = (withoutL m, 0) := by unfold withoutP; rw [if_neg hnm]
  have ha := all_list hok
  have hal : allL' z = allL' m := by unfold allL'; rw [hn]
  have pm := proof_all h
  have pz := proof_all hz
  have hw := eas_worst hok hokz he ha.2
  rw [← ha.1] at hw
  rw [hal] at pz
  have hnn := worstR_nn z (leastL z) (wantsL z) (allL' m) 0
  refine ⟨by rw [wz], ?_, by rw [hal]; exact pz.2.1, fun h9 => ?_, fun _ => ?_⟩
  · rw [wz, wm]
    obtain ⟨b, hb, e, e1, e2, e3⟩ := zHo hok
    have hmz := zJ0 hokz
    have hmm := zJ0 hok
    have hin : withoutL m ∈ setsL (othersTo [] z.shops.length) := by rw [hn]; exact hmm.1
    have hso : othersOk z (withoutL m) := by
      unfold othersOk servedR
      rw [hn, e1]
      unfold servedR at e3
      rw [e1, decide_eq_true_eq] at e3
      have h1 := eas_worst hok hokz he e2
      have h2 := worstR_nn z (leastL z) (wantsL z) (listL (giveSub (1 <<< m.shops.length - 1) (withoutL m)) m.shops.length) 0
      rw [decide_eq_true_eq]; omega
    show (withoutL z).length ≤ (withoutL m).length
    rcases hmz.2.2 _ hin hso with h1 | h1
    · rw [h1]; exact Nat.le_refl _
    · unfold before at h1
      simp only [Bool.or_eq_true, Bool.and_eq_true, decide_eq_true_eq] at h1
      omega
  · rw [hal, h9]
    rw [pz.2.2]
    have := pm.2.2.1 h9
    omega
  · rw [hal, pz.1, pm.1]; exact hw
def oneMore (m : Market) (t : Train) : Market := { m with trains := m.trains ++ [t] }
def modL {α : Type} (f : α → α) : List α → Nat → List α
  | [], _ => []
  | x :: l, 0 => f x :: l
  | x :: l, i + 1 => x :: modL f l i
def moreT (d : Int) (t : Train) : Train := { t with cap := min 60 (t.cap + d) }
def lessW (d : Int) (s : Shop) : Shop := { s with want := max 1 (s.want - d) }
def wideR (a b : Int) (r : Room) : Room := { r with fro := max 0 (r.fro - a), las := min 9 (r.las + b) }
def better (m : Market) (d w a b : Int) (i j k : Nat) : Market := ⟨modL (wideR a b) m.rooms k, modL (lessW w) m.shops j, modL (moreT d) m.trains i⟩
end Go.Rt.Sh
/- Plain laws of the layers hand and shop together: rooms that have hands of a grade. No program in sight. No conditions. -/
namespace Go.Rt.Ts
open Go.Rt Go.Rt.Ha Go.Rt.Tg
def gT (l : Lot) (i : Nat) : Int × Int := (totalP l ((gradeAt l i : Nat) : Int)).1
def gO (l : Lot) (h : List Int) (sc : Nat → Int) (i : Nat) : Int := ofSum l h sc ((gradeAt l i : Nat) : Int) l.bunches.length
def servR (l : Lot) (i : Nat) (r : Sh.Room) : Sh.Room := { r with lo := (gT l i).1, hi := (gT l i).2 }
def knowR (l : Lot) (h : List Int) (sc : Nat → Int) (i : Nat) (r : Sh.Room) : Sh.Room := { r with lo := gO l h sc i, hi := gO l h sc i }
def servM (l : Lot) (m : Sh.Market) : Sh.Market := { m with rooms := m.rooms.mapIdx (servR l) }
def knowM (l : Lot) (h : List Int) (sc : Nat → Int) (m : Sh.Market) : Sh.Market := { m with rooms := m.rooms.mapIdx (knowR l h sc) }
theorem serv_len (l : Lot) (m : Sh.Market) : (servM l m).rooms.length = m.rooms.length := by simp [servM]
theorem zKn (l : Lot) (h : List Int) (sc : Nat → Int) (m : Sh.Market) : (knowM l h sc m).rooms.length = m.rooms.length := by simp [knowM]
theorem know_leaves (l : Lot) (h : List Int) (sc : Nat → Int) (m : Sh.Market) (t : Sh.Train) : Sh.leaves (knowM l h sc m) t = Sh.leaves (servM l m) t := by
  unfold Sh.leaves
  have e1 : (knowM l h sc m).rooms[t.room.toNat]? = m.rooms[t.room.toNat]?.map (knowR l h sc t.room.toNat) := List.getElem?_mapIdx ..
  have e2 : (servM l m).rooms[t.room.toNat]? = m.rooms[t.room.toNat]?.map (servR l t.room.toNat) := List.getElem?_mapIdx ..
  rw [e1, e2, show (knowM l h sc m).shops = m.shops from rfl, show (servM l m).shops = m.shops from rfl]
  cases m.rooms[t.room.toNat]? <;> cases m.shops[t.shop.toNat]? <;> rfl
theorem lk_le2 {R S : Nat} {T : List Sh.Tr} {h h' w : Nat → Int} {s : Nat → Bool} (hh : ∀ r < R, h r ≤ h' r) : Sh.lk R S T h' w s ≤ Sh.lk R S T h w s := by
  unfold Sh.lk
  have h2 : Sh.sumN R (fun r => min (h r) (Sh.capR T s r)) ≤ Sh.sumN R (fun r => min (h' r) (Sh.capR T s r)) := Sh.sumN_le R fun r hr => by have := hh r hr; omega
  omega
theorem used_same {m m' : Sh.Market} (e : m'.trains = m.trains) (l : List Int) (f r : Nat) : ∀ k, Sh.usedF m' l f r k = Sh.usedF m l f r k
  | 0 => rfl
  | k + 1 => by simp only [Sh.usedF, used_same e l f r k, e]
theorem least_at {l : Lot} {h : List Int} {sc : Nat → Int} {m : Sh.Market} (hb : ∀ i, (gT l i).1 ≤ gO l h sc i) (r : Nat) : Sh.gD (Sh.leastL (servM l m)) r ≤ Sh.gD (Sh.leastL (knowM l h sc m)) r := by
  unfold Sh.gD Sh.leastL servM knowM
  simp only [List.getD, List.getElem?_map, List.getElem?_mapIdx]
  cases m.rooms[r]? with
  | none => exact Int.le_refl _
  | some x => exact hb r
theorem grade_in {l : Lot} (hc : (check l).2.2 = 0) {h : List Int} (hw : h ∈ Ha.ways l 0) {sc : Nat → Int} (hs : ∀ b, b < l.bunches.length → (bunchOf l b).slo ≤ sc b ∧ sc b ≤ (bunchOf l b).shi) (hg : 0 < l.grades.length) (i : Nat) :
    (totalP l ((gradeAt l i : Nat) : Int)).2 = 0 ∧ (gT l i).1 ≤ gO l h sc i ∧ gO l h sc i ≤ (gT l i).2 := total_in hc hw hs (g := gradeAt l i) (Nat.mod_lt _ hg)
theorem serv_eas {l : Lot} {h : List Int} {sc : Nat → Int} {m : Sh.Market} (hb : ∀ i, (gT l i).1 ≤ gO l h sc i) (hok : (servM l m).Ok) (hz : (knowM l h sc m).Ok) : Sh.Eas (servM l m) (knowM l h sc m) := by
  refine ⟨rfl, fun b _ _ => ?_⟩
  have e1 := Sh.lackR_lk hz (Sh.leastL (knowM l h sc m)) (Sh.wantsL (knowM l h sc m)) b 0
  have e2 := Sh.lackR_lk hok (Sh.leastL (servM l m)) (Sh.wantsL (servM l m)) b 0
  have et : Sh.trs (knowM l h sc m) 0 = Sh.trs (servM l m) 0 := Sh.trsTo_congr (m := servM l m) (m' := knowM l h sc m) (know_leaves l h sc m) 0 _ fun j _ _ => rfl
  show Sh.lackR (knowM l h sc m) (Sh.leastL (knowM l h sc m)) (Sh.wantsL (knowM l h sc m)) (Sh.listL b (knowM l h sc m).shops.length) 0 ≤ _
  rw [e1, e2, et, zKn, serv_len]
  exact lk_le2 fun r _ => least_at hb r
structure ServF (l : Lot) (h : List Int) (sc : Nat → Int) (m : Sh.Market) : Prop where
  gp : Sh.giveP (servM l m) = (Sh.giveL (servM l m), 0)
  we : (Sh.withoutP (servM l m)).2 = 0
  ke : (Sh.withoutP (knowM l h sc m)).2 = 0
  len : (Sh.withoutP (knowM l h sc m)).1.length ≤ (Sh.withoutP (servM l m)).1.length
  gl : (Sh.giveL (servM l m)).length = m.trains.length
  gs : ∀ z ∈ Sh.giveL (servM l m), 0 ≤ z ∧ z ≤ 60
  cap : ∀ k (hk : k < m.trains.length), 0 ≤ Sh.gD (Sh.giveL (servM l m)) k ∧ Sh.gD (Sh.giveL (servM l m)) k ≤ m.trains[k].cap
  left : ∀ i, i ≤ m.trains.length → (Sh.leftTo (knowM l h sc m) (Sh.leastL (knowM l h sc m)) (Sh.giveL (servM l m)) i).length = m.rooms.length ∧ ∀ z ∈ Sh.leftTo (knowM l h sc m) (Sh.leastL (knowM l h sc m)) (Sh.giveL (servM l m)) i, 0 ≤ z ∧ z ≤ 200
theorem serv_facts {l : Lot} (hc : (check l).2.2 = 0) {h : List Int} (hw : h ∈ Ha.ways l 0) {sc : Nat → Int} (hs : ∀ b, b < l.bunches.length → (bunchOf l b).slo ≤ sc b ∧ sc b ≤ (bunchOf l b).shi) (hg : 0 < l.grades.length) {m : Sh.Market} (h1 : (Sh.check (servM l m)).2.2 = 0) (h2 : (Sh.check (knowM l h sc m)).2.2 = 0) : ServF l h sc m := by
  have hb : ∀ i, (gT l i).1 ≤ gO l h sc i := fun i => (grade_in hc hw hs hg i).2.1
  have hok := Sh.check_ok h1
  have hz := Sh.check_ok h2
  have hS := Sh.served_facts h1 []
  have hE := Sh.eas_facts h1 h2 (serv_eas hb hok hz)
  have hL : Sh.Load (knowM l h sc m) (Sh.gD (Sh.leastL (knowM l h sc m))) (Sh.giveL (servM l m)) := by
    refine ⟨hS.load.len, fun k hk => ?_, fun r => ?_⟩
    · have := hS.load.ok k hk
      exact ⟨this.1, this.2.1, fun hx => this.2.2 (by rw [← know_leaves l h sc m]; exact hx)⟩
    · have h3 := hS.load.rooms r
      have h4 := least_at (m := m) hb r
      rw [used_same (m := servM l m) (m' := knowM l h sc m) rfl]
      show Sh.usedF (servM l m) _ 0 r (servM l m).trains.length ≤ _
      omega
  have hlf := Sh.leastL_fine hz
  refine ⟨hS.gp, by rw [hS.wp], hE.e0, hE.len, hS.load.len, Sh.load_small hok hS.load, fun k hk => ?_, fun i hi => ?_⟩
  · have := hS.load.ok k hk
    exact ⟨this.1, this.2.1⟩
  · have := Sh.leftTo_fine hz hlf.1 hlf.2 hL i hi
    exact ⟨by rw [this.1, zKn], this.2.2⟩
end Go.Rt.Ts
set_option maxRecDepth 20000
set_option maxHeartbeats 1600000
namespace Go.Proofs.Tg
open Go.Proofs.Tryz
open Go.Rt Go.Rt.Ha Go.Rt.Tg Go.Rt.Ts Go.Proofs.Hn
attribute [local irreducible] WL WC Con Yd At Ats Sl Agree DW
theorem zF7  (w : World) : (Instr.buildSlice 27 0 [].toArray).run Tryz.prog w = .ok (.slice (some ⟨w.heap.size, 0, none⟩) 0 0) (w.alloc (Go.Rt.blk 50 [])) := by kernel_rfl
theorem zFe : Tryz.prog.info? 50 = some Tryz.t50 := by kernel_rfl
theorem Try_TB_fb3 (x0 : Int) (x1 : Int) (w : World) : (Instr.build 46 [(0, .int .i64 x0),(1, .int .i64 x1)].toArray).run Tryz.prog w = .ok (.agg #[.int .i64 x0, .int .i64 x1]) w := by kernel_rfl
theorem rrow5 (l : List Sh.Room) : ∀ row ∈ Sh.rrows l, row.length = 5 := by intro row h; obtain ⟨x, _, rfl⟩ := List.mem_map.1 h; rfl
theorem rrow1 (l : List Sh.Room) : ∀ row ∈ Sh.rrows l, ∀ u ∈ row, u.oneCell' = true := by
  intro row h u hu
  obtain ⟨x, _, rfl⟩ := List.mem_map.1 h
  simp only [Sh.Room.cells, List.mem_cons, List.not_mem_nil, or_false] at hu
  rcases hu with rfl | rfl | rfl | rfl | rfl <;> rfl
theorem zE2 (l : List Sh.Room) : (Sh.rrows l).length = l.length := List.length_map _
theorem two_b {w0 w : World} {x y z u : Nat × Obj} {A B R : List (Nat × Obj)} (h : St w0 w (A ++ (B ++ (x :: y :: z :: u :: R)))) : St w0 w (x :: y :: z :: u :: (A ++ (B ++ R))) := by
  have h2 := St.perm (L := (A ++ B) ++ ([x, y, z, u] ++ R)) (by simpa [List.append_assoc] using h) (zBc (A ++ B) [x, y, z, u] R)
  simpa [List.append_assoc] using h2
theorem two_a {w0 w : World} {x y z u : Nat × Obj} {A B R : List (Nat × Obj)} (h : St w0 w (A ++ (B ++ (x :: y :: z :: u :: R)))) : St w0 w (x :: y :: z :: u :: (B ++ (A ++ R))) := by
  have h3 : St w0 w (x :: y :: z :: u :: (A ++ (B ++ R))) := two_b h
  have h4 : St w0 w ([x, y, z, u] ++ (A ++ (B ++ R))) := h3
  exact h4.perm ((zBc A B R).append_left [x, y, z, u])
theorem row_at {w0 w : World} {L : List (Nat × Obj)} (_hs : St w0 w L) {j b n : Nat} {t : TypeId} {cs : List Value} {rs : List Sh.Room} (hj : L[j]? = some (b, blk t cs)) (h : cs.take (n * 5) = (Sh.rrows rs).flatten) (hn : rs.length = n) {i : Nat} (hi : i < rs.length) : Ats w0 L b (0 + i * 5) rs[i].cells := by
  obtain ⟨b', off, e, hat⟩ := Sb.sl_rrows (zBt (w0 := w0) hj (rrow5 _) (by rw [zE2, hn]; exact h)) hi
  cases e; exact hat
def atS (a : Option Addr) (c : Nat) (p : Sh.At3) : Sh.At3 := ⟨a, c, p.az, p.cs, p.at_, p.ct⟩
theorem mid_min {w0 : World} {Z : List (Nat × Obj)} {m : Sh.Market} {p : Sh.At3} {a : Option Addr} {c : Nat} {f : Nat → Sh.Room → Sh.Room} (hm : Sb.MIn w0 Z m p) (hr : Sl w0 Z a 5 (Sh.rrows (m.rooms.mapIdx f))) (hc : m.rooms.length ≤ c) (hf : ∀ i r, (f i r).name = r.name) : Sb.MIn w0 Z { m with rooms := m.rooms.mapIdx f } (atS a c p) :=
  ⟨hr, hm.s, hm.t, by simpa using hm.lr, hm.ls, hm.lt, by simpa [atS] using hc, hm.cs, hm.ct, fun x hx => by
    obtain ⟨i, hi, rfl⟩ := List.getElem_of_mem hx
    simp only [List.getElem_mapIdx, hf]
    exact hm.nr _ (List.getElem_mem _), hm.ns⟩
theorem own_setS {n b cap r : Nat} {cs : List Value} {l : List Int} {z : Value} {x : Int} (hl : l.length = n) (h1 : n ≤ cap) (h2 : cap ≤ maxLen) (h3 : cs.length = cap * 1) (h5 : (cs.set r z).take (n * 1) = iv (Sh.subAt l r x)) : Rt.Own (.slice (some ⟨b, 0, none⟩) n cap) 3 1 n (iv (Sh.subAt l r x)) [(b, blk 3 (cs.set r z))] :=
  ⟨by simp [iv, Sh.subAt_len, hl], .inr ⟨b, cap, _, rfl, rfl, h1, h2, by rw [List.length_set]; exact h3, h5⟩⟩
theorem ats_castG {w0 : World} {L : List (Nat × Obj)} {b o : Nat} {vs vs2 : List Value} (h : Ats w0 L b o vs) (e : vs2 = vs) : Ats w0 L b o vs2 := by rw [e]; exact h
theorem c3 {w0 w : World} {F : List (Nat × Obj)} (l : Lot) (q : At3) (hm : LIn w0 F l q) (m : Sh.Market) (p : Sh.At3) (hm2 : Sb.MIn w0 F m p) (hnil : p.ar = none → p.cr = 0) (z : Int) (hz : 0 ≤ z ∧ z ≤ 65535) (ay : Option Addr) (cy : Nat) (y : List Int) (hyl : y.length ≤ 9223372036854775807) (hys : Sl w0 F ay 1 (y.map fun n => [Value.int .u8 n])) (hyr : ∀ z ∈ y, 0 ≤ z ∧ z ≤ 255) (d : Int) (hd : 0 ≤ d ∧ d ≤ 255) (hs : St w0 w F) :
  Con Tryz.prog 3 [.agg (l.cells q).toArray, .agg (m.cells p).toArray, .agg #[.int .u16 z, .slice ay y.length cy, .int .u8 d]] w fun v w' => v = .bool true ∧ St w0 w' F := by
  refine zAt (n := 230) func3 rfl rfl (zNl rfl) ?_
  have hmt0 := hm2.lt
  refine zAe (fun K2 j5 => (zAa (zCa (v := .agg #[.slice _ _ _, .slice _ _ _, .slice _ _ _]) (cs := [_,_,_]) zAc rfl rfl rfl hs (fun b3 w4 j6 => ?_))))
  refine zCa (v := .agg #[.slice _ _ _, .slice _ _ _, .slice _ _ _]) (cs := [_,_,_]) zAc rfl rfl rfl j6 (fun b6 w7 j7 => ?_)
  refine zCa (v := .agg #[.int _ _, .slice _ _ _, .int _ _]) (cs := [_,_,_]) zAc rfl rfl rfl j7 (fun b9 kA hG => ?_)
  refine zA5 rfl rfl (zAd (zAb (j5 _ _ (zAe (fun kB j8 => (zAa (w_p (zA4 (vs := [_,_,_]) isAgg26 sizeOf26 hG rfl rfl (zAk (i := 2) (vs := [_,_,_]) rfl rfl)) rfl ?_)))))))
  refine zAr zAc call4 rfl rfl rfl rfl (c4 l q hm.cons.cons.cons hG) ?_
  rintro _ kC ⟨rfl, hH⟩
  refine w_p (zAi (v := .tuple _) rfl rfl) rfl (w_p (zAp (v := .int _ _) rfl rfl rfl) rfl (w_p (zAp (v := .int _ _) rfl rfl rfl) rfl (w_p (zAp (v := .int _ _) rfl rfl rfl) rfl (zBe rfl rfl (zBe rfl rfl (zBe rfl rfl ?_))))))
  refine zAd (zAb (j8 _ _ (zAe (fun kD j9 => (zAa (w_p (zA4 (vs := [_,_,_]) isAgg31 sizeOf31 hH rfl rfl (zAk (i := 1) (vs := [_,_,_]) rfl rfl)) rfl (zAr zAc call5 rfl rfl rfl rfl (Sb.c5 m p hm2.cons.cons.cons hH) ?_)))))))
  rintro _ kF ⟨rfl, g5⟩
  refine w_p (zAi (v := .tuple _) rfl rfl) rfl (w_p (zAp (v := .int _ _) rfl rfl rfl) rfl (w_p (zAp (v := .int _ _) rfl rfl rfl) rfl (w_p (zAp (v := .int _ _) rfl rfl rfl) rfl (zBe rfl rfl (zBe rfl rfl (zBe rfl rfl ?_))))))
  refine zAd (zAb (j9 _ _ (zAe (fun kG ja => (zAe (fun kH gv => (zAa (zAz rfl rfl (w_p (zB2 rfl rfl rfl rfl) rfl (w_p (zAi (v := .bool _) rfl rfl) rfl ?_))))))))))
  refine zBi (fun gw => ?_) (fun gw => ?_)
  ·
   try simp only [zS] at gw
   refine zAh rfl rfl rfl ?_
   refine zAh rfl rfl rfl ?_
   refine w_p (zAx (v := _) rfl rfl rfl rfl) rfl (w_p (zAi (v := .bool _) rfl rfl) rfl (zAh rfl rfl rfl ?_))
   refine zAh rfl rfl rfl ?_
   refine zAh rfl rfl rfl ?_
   refine zAh rfl rfl rfl ?_
   refine w_p (zAx (v := _) rfl rfl rfl rfl) rfl (zAd (zAb (gv _ _ (zB1 rfl rfl ?_))))
   refine zAe (fun kI jb => (zAa (zAr zAc call7 rfl rfl rfl rfl (c7 g5) ?_)))
   rintro _ kJ ⟨rfl, jc⟩
   refine w_p (zAi (v := .bool _) rfl rfl) rfl (zAr (zAq rfl rfl rfl) call8 rfl rfl rfl rfl (Sb.c8 jc) ?_)
   rintro _ kK ⟨rfl, jd⟩
   refine w_p (zAx (v := .bool _) rfl rfl rfl rfl) rfl (w_p (zAo (v := .bool _) rfl rfl) rfl (zAd (zAb (jb _ _ (zAy (zAg (zA1 (l := [.tmp 6]) (vs := [_]) rfl ⟨⟨rfl, (rfl : _ = Value.bool _)⟩, trivial⟩ ?_)))))))
   exact ⟨rfl, jd.tail.tail.tail⟩
  try simp only [zS] at gw
  refine w_y rfl rfl rfl (zA2 rfl rfl) rfl ?_
  refine w_y rfl rfl rfl (zB2 rfl rfl rfl rfl) rfl ?_
  refine w_p (zA9 (v := .bool _) rfl rfl rfl rfl) rfl (w_p (zAi (v := .bool _) rfl rfl) rfl (zBi (fun gx => ?_) (fun gx => ?_)))
  ·
   try simp only [zS] at gx
   refine zAh rfl rfl rfl ?_
   refine zAh rfl rfl rfl ?_
   refine zAh rfl rfl rfl ?_
   refine zAh rfl rfl rfl ?_
   refine w_p (zAx (v := _) rfl rfl rfl rfl) rfl (zAd (zAb (gv _ _ (zB1 rfl rfl ?_))))
   refine zAe (fun kL je => (zAa (zAr zAc call7 rfl rfl rfl rfl (c7 g5) ?_)))
   rintro _ kM ⟨rfl, jf⟩
   refine w_p (zAi (v := .bool _) rfl rfl) rfl (zAr (zAq rfl rfl rfl) call8 rfl rfl rfl rfl (Sb.c8 jf) ?_)
   rintro _ kN ⟨rfl, jg⟩
   refine w_p (zAx (v := .bool _) rfl rfl rfl rfl) rfl (w_p (zAo (v := .bool _) rfl rfl) rfl (zAd (zAb (je _ _ (zAy (zAg (zA1 (l := [.tmp 6]) (vs := [_]) rfl ⟨⟨rfl, (rfl : _ = Value.bool _)⟩, trivial⟩ ?_)))))))
   exact ⟨rfl, jg.tail.tail.tail⟩
  try simp only [zS] at gx
  refine w_y rfl rfl rfl (zA4 (vs := [_,_,_]) isAgg26 sizeOf26 g5 rfl rfl (zAk (i := 2) (vs := [_,_,_]) rfl rfl)) rfl ?_
  refine zAr (zAq rfl rfl rfl) call6 rfl rfl rfl rfl ((by have h := c6 l q hm.cons.cons.cons (Ha.check_ok (by assumption)) none 0 [] (by simp) (Sl.nil _ _) g5; rw [waysR_nil] at h; exact h)) ?_
  rintro _ kO ⟨WB, wv, aW, cW, rfl, hslW, helW, g6⟩
  replace g6 := (show St _ _ (WB ++ (_ :: _ :: _ :: F)) from g6)
  refine w_y rfl rfl rfl (zA8 underlying40 rfl rfl) rfl ?_
  refine w_y rfl rfl rfl (zB6 rfl rfl rfl rfl) rfl ?_
  refine w_p (zA9 (v := .bool _) rfl rfl rfl rfl) rfl (zAd (zAb (gv _ _ (zAu rfl rfl (fun gy => ?_) (fun gy => ?_)))))
  ·
   try simp only [zS] at gy
   refine zAe (fun kP jh => (zAa (zAr zAc call7 rfl rfl rfl rfl (c7 g6) ?_)))
   rintro _ kQ ⟨rfl, ji⟩
   refine w_p (zAi (v := .bool _) rfl rfl) rfl (zAr (zAq rfl rfl rfl) call8 rfl rfl rfl rfl (Sb.c8 ji) ?_)
   rintro _ kR ⟨rfl, jj⟩
   refine w_p (zAx (v := .bool _) rfl rfl rfl rfl) rfl (w_p (zAo (v := .bool _) rfl rfl) rfl (zAd (zAb (jh _ _ (zAy (zAg (zA1 (l := [.tmp 6]) (vs := [_]) rfl ⟨⟨rfl, (rfl : _ = Value.bool _)⟩, trivial⟩ ?_)))))))
   exact ⟨rfl, jj.drop.tail.tail.tail⟩
  try simp only [zS] at gy
  refine zAs (zAb (ja _ _ (zAe (fun kS jk => ?_))))
  have hck : (Ha.check l).2.2 = 0 := by assumption
  have hcm : (Sh.check m).2.2 = 0 := by assumption
  have hokl := Ha.check_ok hck
  have hokm := Sh.check_ok hcm
  have hwl : 0 < (Ha.ways l 0).length := by omega
  have hW : Ha.ways l 0 ≠ [] := List.length_pos_iff.1 hwl
  have hn3 := hokm.lr
  have hgl0 := hokl.lg
  have hgl : 0 < l.grades.length := by omega
  have g0 := St.perm (L := WB ++ ([_,_,_] ++ F)) g6 (zBc WB [_,_,_] _)
  replace g0 := (show St _ _ (_ :: _ :: _ :: (WB ++ F)) from g0)
  refine zAa (w_p (zA4 (vs := [_,_,_]) isAgg26 sizeOf26 g0 rfl rfl (zAk (i := 2) (vs := [_,_,_]) rfl rfl)) rfl (w_p (zA4 (vs := [_,_,_]) isAgg35 sizeOf35 g0 rfl rfl (zAk (i := 0) (vs := [_,_,_]) rfl rfl)) rfl ?_))
  refine zAr zAc call9 rfl rfl rfl rfl (c9 l q hm.app.cons.cons.cons hokl hW z hz _ _ y hyl hys.app.cons.cons.cons hyr d hd g0) ?_
  rintro _ kT ⟨h, HB, aH, cH, hin, rfl, hslH, gz⟩
  replace gz := (show St _ _ (HB ++ (_ :: _ :: _ :: WB ++ (F))) from gz)
  have g7 := St.perm (L := HB ++ ([_,_,_] ++ _)) gz (zBc HB [_,_,_] _)
  replace g7 := (show St _ _ (_ :: _ :: _ :: (HB ++ _)) from g7)
  refine w_p (zAo (v := .slice _ _ _) rfl rfl) rfl (zAd (zAb (jk _ _ (zAe (fun kU jl => (zAa (w_p (zA4 (vs := [_,_,_]) isAgg31 sizeOf31 g7 rfl rfl (zAk (i := 1) (vs := [_,_,_]) rfl rfl)) rfl ?_)))))))
  refine zBf (cs := [_,_,_]) zAc zeroValue31 rfl g7 (fun gA kV jm => ?_)
  refine zA6 (i := 0) (v := .agg #[.slice _ _ _, .slice _ _ _, .slice _ _ _]) (vs := [_,_,_]) zAc sizeOf31 rfl rfl rfl rfl rfl (by simp [Value.oneCell']) jm rfl (zNl rfl) (fun kW jn => ?_)
  refine zAd (zAb (jl _ _ (zAe (fun kX jo => (w_cut [64,65,66,67,68,69,70,71,72,73] [] (fun vs w => ∃ aK cK BK aJ cJ BJ, vs = [] ∧ Rt.Own (.slice aK m.rooms.length cK) 50 5 m.rooms.length (Sh.rrows m.rooms).flatten BK ∧ Rt.Own (.slice aJ m.rooms.length cJ) 50 5 m.rooms.length (Sh.rrows m.rooms).flatten BJ ∧ St w0 w ((gA, blk 31 [.slice aJ m.rooms.length cJ, .slice p.az m.shops.length p.cs, .slice p.at_ m.trains.length p.ct]) :: (b9, blk 35 [.int .u16 z, .slice ay y.length cy, .int .u8 d]) :: (b6, blk 31 [.slice aK m.rooms.length cK, .slice p.az m.shops.length p.cs, .slice p.at_ m.trains.length p.ct]) :: (b3, blk 26 (l.cells q)) :: (BK ++ (BJ ++ (HB ++ (WB ++ F)))))) (fun kY gB => ?_) ?_)))))
  ·
   refine w_drawT (C := fun w => St w0 w _) [9,11] (.two [(1,0),(2,1),(5,0),(6,1)] 0 4 (.two [] 3 4 (.done [(8,0),(4,2),(7,2),(9,3),(10,0),(11,3)]) (.done [(3,2),(8,0),(7,2),(9,3),(10,0),(11,3)])) (.done [(0,2),(3,2),(8,0),(7,2),(9,3),(10,0),(11,3)])) zCb (by kernel_rfl) jn (fun _ h => h.drew) (fun kZ g8 => ?_)
   refine dt_two ?_
   refine d_w rfl (fun _ => zAf (o := 0) (i := 0) underlying31 rfl sizeOf27 rfl rfl rfl) rfl ?_
   refine zBd rfl zAc rfl g8 (fun _ hq => (zAj isAgg27 hq rfl rfl (zAk (i := 2) (vs := [_]) rfl rfl))) ?_
   refine d_w rfl (fun _ => zAf (o := 0) (i := 0) underlying31 rfl sizeOf27 rfl rfl rfl) rfl ?_
   refine zBd rfl zAc rfl g8 (fun _ hq => (zAj isAgg27 hq rfl rfl (zAk (i := 2) (vs := [_]) rfl rfl))) ?_
   refine d_two rfl rfl ?_ ?_
   ·
    refine zBb (ps := []) (pv := []) (cs := []) zAc rfl rfl (fun w => zF7  w) g8 (fun m0 m1 gC => ?_)
    refine zAd (qn ⟨gC.tail, ?_⟩)
    refine dt_two ?_
    refine d_two rfl rfl ?_ ?_
    ·
     refine zCk (X := ([])) (B := [_]) (rows := (Sh.rrows m.rooms)) (sz := 5) (bytes := 48) zAc underlying27 zFe rfl rfl rfl rfl rfl rfl rfl rfl rfl gC zFq hm2.r.app.app.cons.cons.cons.cons.cons (zE2 _) hnil (rrow1 _) (by simp only [maxLen]; omega) (by omega) (fun jp m2 g9 jq ga => ?_)
     replace ga := (show St _ _ (g9 ++ (_ :: _ :: _ :: _ :: HB ++ (WB ++ (F)))) from ga)
     refine zAd (qn ⟨ga.drop, ?_⟩)
     refine zHu ?_
     refine d_w rfl (fun _ => zAf (o := 0) (i := 0) underlying31 rfl sizeOf27 rfl rfl rfl) rfl ?_
     refine zCq rfl ?_
     refine zBb (ps := []) (pv := []) (cs := []) zAc rfl rfl (fun w => zF7  w) ga (fun m3 m4 hO => ?_)
     refine zAd (qn ⟨hO.tail.drop, ?_⟩)
     refine zCq rfl ?_
     refine zCk (X := ([])) (B := [_]) (rows := (Sh.rrows m.rooms)) (sz := 5) (bytes := 48) zAc underlying27 zFe rfl rfl rfl rfl rfl rfl rfl rfl rfl hO zFq hm2.r.app.app.cons.cons.cons.cons.app.cons (zE2 _) hnil (rrow1 _) (by simp only [maxLen]; omega) (by omega) (fun jr m5 gE js gb => ?_)
     replace gb := (show St _ _ (gE ++ (g9 ++ (_ :: _ :: _ :: _ :: HB ++ (WB ++ (F))))) from gb)
     refine zAd (qn ⟨gb.drop.drop, ?_⟩)
     have hoK : Rt.Own jp 50 5 m.rooms.length (Sh.rrows m.rooms).flatten g9 := by
       have h9 := jq
       rw [Nat.zero_add, List.nil_append] at h9
       exact h9
     obtain ⟨aK, cK, rfl⟩ := hoK.slice
     have hoJ : Rt.Own jr 50 5 m.rooms.length (Sh.rrows m.rooms).flatten gE := by
       have h9 := js
       rw [Nat.zero_add, List.nil_append] at h9
       exact h9
     obtain ⟨aJ, cJ, rfl⟩ := hoJ.slice
     have gF := two_a gb
     replace gF := (show St _ _ (_ :: _ :: _ :: _ :: g9 ++ (gE ++ (HB ++ (WB ++ (F))))) from gF)
     refine zDc rfl ?_
     refine zA6 (i := 2) (v := .slice _ _ _) (vs := [_]) zAc sizeOf27 rfl rfl rfl rfl rfl (by simp [Value.oneCell']) gF rfl (zNl rfl) (fun m6 jt => ?_)
     refine zAd (qn ?_)
     refine d_w rfl (fun _ => zAf (o := 0) (i := 0) underlying31 rfl sizeOf27 rfl rfl rfl) rfl ?_
     refine zDc rfl ?_
     refine zA6 (i := 0) (v := .slice _ _ _) (vs := [_]) zAc sizeOf27 rfl rfl rfl rfl rfl (by simp [Value.oneCell']) jt rfl (zNl rfl) (fun m7 ju => ?_)
     refine zAd (qn ?_)
     refine zCf ?_
     refine zAb (gB _ _ (Md.intro (by repeat (first | exact zEj | exact zC2 | refine zC1 rfl ?_ | refine zCp rfl ?_ _ | refine zCg rfl ?_)) ?_))
     exact ⟨aK, cK, _, aJ, cJ, _, rfl, hoK, hoJ, ju⟩
    refine zBb (ps := []) (pv := []) (cs := []) zAc rfl rfl (fun w => zF7  w) gC (fun m8 m9 hX => ?_)
    refine zAd (qn ⟨hX.tail.tail, ?_⟩)
    refine zHu ?_
    refine zCq rfl ?_
    refine zCk (X := (_ :: [])) (B := [_]) (rows := (Sh.rrows m.rooms)) (sz := 5) (bytes := 48) zAc underlying27 zFe rfl rfl rfl rfl rfl rfl rfl rfl rfl hX zFq hm2.r.app.app.cons.cons.cons.cons.cons.cons (zE2 _) hnil (rrow1 _) (by simp only [maxLen]; omega) (by omega) (fun jv ma gc jw gd => ?_)
    replace gd := (show St _ _ (_ :: gc ++ (_ :: _ :: _ :: _ :: HB ++ (WB ++ (F)))) from gd)
    refine zAd (qn ⟨gd.tail.drop, ?_⟩)
    refine d_w rfl (fun _ => zAf (o := 0) (i := 0) underlying31 rfl sizeOf27 rfl rfl rfl) rfl ?_
    refine zCq rfl ?_
    refine zCk (X := ([])) (B := [_]) (rows := (Sh.rrows m.rooms)) (sz := 5) (bytes := 48) zAc underlying27 zFe rfl rfl rfl rfl rfl rfl rfl rfl rfl gd zFq hm2.r.app.app.cons.cons.cons.cons.app.cons (zE2 _) hnil (rrow1 _) (by simp only [maxLen]; omega) (by omega) (fun jx mc gG jy gf => ?_)
    replace gf := (show St _ _ (gG ++ (gc ++ (_ :: _ :: _ :: _ :: HB ++ (WB ++ (F))))) from gf)
    refine zAd (qn ⟨gf.drop.drop, ?_⟩)
    have hoK : Rt.Own jv 50 5 m.rooms.length (Sh.rrows m.rooms).flatten gc := by
      have h9 := jw
      rw [Nat.zero_add, List.nil_append] at h9
      exact h9
    obtain ⟨aK, cK, rfl⟩ := hoK.slice
    have hoJ : Rt.Own jx 50 5 m.rooms.length (Sh.rrows m.rooms).flatten gG := by
      have h9 := jy
      rw [Nat.zero_add, List.nil_append] at h9
      exact h9
    obtain ⟨aJ, cJ, rfl⟩ := hoJ.slice
    have gH := two_a gf
    replace gH := (show St _ _ (_ :: _ :: _ :: _ :: gc ++ (gG ++ (HB ++ (WB ++ (F))))) from gH)
    refine zDc rfl ?_
    refine zA6 (i := 2) (v := .slice _ _ _) (vs := [_]) zAc sizeOf27 rfl rfl rfl rfl rfl (by simp [Value.oneCell']) gH rfl (zNl rfl) (fun md jz => ?_)
    refine zAd (qn ?_)
    refine d_w rfl (fun _ => zAf (o := 0) (i := 0) underlying31 rfl sizeOf27 rfl rfl rfl) rfl ?_
    refine zDc rfl ?_
    refine zA6 (i := 0) (v := .slice _ _ _) (vs := [_]) zAc sizeOf27 rfl rfl rfl rfl rfl (by simp [Value.oneCell']) jz rfl (zNl rfl) (fun me jA => ?_)
    refine zAd (qn ?_)
    refine zCf ?_
    refine zAb (gB _ _ (Md.intro (by repeat (first | exact zEj | exact zC2 | refine zC1 rfl ?_ | refine zCp rfl ?_ _ | refine zCg rfl ?_)) ?_))
    exact ⟨aK, cK, _, aJ, cJ, _, rfl, hoK, hoJ, jA⟩
   refine zBb (ps := []) (pv := []) (cs := []) zAc rfl rfl (fun w => zF7  w) g8 (fun mf mg hY => ?_)
   refine zAd (qn ⟨hY.tail, ?_⟩)
   refine zHu ?_
   refine zCq rfl ?_
   refine zBb (ps := []) (pv := []) (cs := []) zAc rfl rfl (fun w => zF7  w) hY (fun mh mi j0 => ?_)
   refine zAd (qn ⟨j0.tail.tail, ?_⟩)
   refine zCq rfl ?_
   refine zCk (X := ([])) (B := [_]) (rows := (Sh.rrows m.rooms)) (sz := 5) (bytes := 48) zAc underlying27 zFe rfl rfl rfl rfl rfl rfl rfl rfl rfl j0 zFq hm2.r.app.app.cons.cons.cons.cons.cons.cons (zE2 _) hnil (rrow1 _) (by simp only [maxLen]; omega) (by omega) (fun jB mj g3 jC gg => ?_)
   replace gg := (show St _ _ (g3 ++ (_ :: _ :: _ :: _ :: _ :: HB ++ (WB ++ (F)))) from gg)
   refine zAd (qn ⟨gg.drop.tail, ?_⟩)
   refine d_w rfl (fun _ => zAf (o := 0) (i := 0) underlying31 rfl sizeOf27 rfl rfl rfl) rfl ?_
   refine zCq rfl ?_
   refine zCk (X := (g3)) (B := [_]) (rows := (Sh.rrows m.rooms)) (sz := 5) (bytes := 48) zAc underlying27 zFe rfl rfl rfl rfl rfl rfl rfl rfl rfl gg zFq hm2.r.app.app.cons.cons.cons.cons.cons.app (zE2 _) hnil (rrow1 _) (by simp only [maxLen]; omega) (by omega) (fun jD ml gI jE gh => ?_)
   replace gh := (show St _ _ (g3 ++ (gI ++ (_ :: _ :: _ :: _ :: HB ++ (WB ++ (F))))) from gh)
   refine zAd (qn ⟨gh.drop.drop, ?_⟩)
   have hoK : Rt.Own jB 50 5 m.rooms.length (Sh.rrows m.rooms).flatten g3 := by
     have h9 := jC
     rw [Nat.zero_add, List.nil_append] at h9
     exact h9
   obtain ⟨aK, cK, rfl⟩ := hoK.slice
   have hoJ : Rt.Own jD 50 5 m.rooms.length (Sh.rrows m.rooms).flatten gI := by
     have h9 := jE
     rw [Nat.zero_add, List.nil_append] at h9
     exact h9
   obtain ⟨aJ, cJ, rfl⟩ := hoJ.slice
   have gJ := two_b gh
   replace gJ := (show St _ _ (_ :: _ :: _ :: _ :: g3 ++ (gI ++ (HB ++ (WB ++ (F))))) from gJ)
   refine zDc rfl ?_
   refine zA6 (i := 2) (v := .slice _ _ _) (vs := [_]) zAc sizeOf27 rfl rfl rfl rfl rfl (by simp [Value.oneCell']) gJ rfl (zNl rfl) (fun mn jF => ?_)
   refine zAd (qn ?_)
   refine d_w rfl (fun _ => zAf (o := 0) (i := 0) underlying31 rfl sizeOf27 rfl rfl rfl) rfl ?_
   refine zDc rfl ?_
   refine zA6 (i := 0) (v := .slice _ _ _) (vs := [_]) zAc sizeOf27 rfl rfl rfl rfl rfl (by simp [Value.oneCell']) jF rfl (zNl rfl) (fun mo jG => ?_)
   refine zAd (qn ?_)
   refine zCf ?_
   refine zAb (gB _ _ (Md.intro (by repeat (first | exact zEj | exact zC2 | refine zC1 rfl ?_ | refine zCp rfl ?_ _ | refine zCg rfl ?_)) ?_))
   exact ⟨aK, cK, _, aJ, cJ, _, rfl, hoK, hoJ, jG⟩
  intro vs μ mp hM
  obtain ⟨aK, cK, BK, aJ, cJ, BJ, rfl, hoK, hoJ, hs⟩ := hM
  refine zAb (jo _ _ (zAe (fun mq jH => (zAe (fun mr jI => (zAa (zA5 rfl rfl (zAd (zAb (jI _ _ (zAw ?_)))))))))))
  refine zBs [6,15,16,17,18,19,74,75,76,77,78,79,80,81,82,83,84,85,86,87,88,89,90,91,92,93,94,95,96,97,98,99,100,101,102,103,104,105,106,107,108,109,110,111,112,113,114,115,116,117,118,119,120] [15] (fun kk vs w => ∃ (i : Nat) (BK BJ : List (Nat × Obj)), vs = [.int .i64 i] ∧ i ≤ m.rooms.length ∧ kk = m.rooms.length - i ∧ Rt.Own (.slice aK m.rooms.length cK) 50 5 m.rooms.length (Sh.rrows (midTo (servR l) m.rooms i)).flatten BK ∧ Rt.Own (.slice aJ m.rooms.length cJ) 50 5 m.rooms.length (Sh.rrows (midTo (knowR l h (scOf l y)) m.rooms i)).flatten BJ ∧ St w0 w ((gA, blk 31 [.slice aJ m.rooms.length cJ, .slice p.az m.shops.length p.cs, .slice p.at_ m.trains.length p.ct]) :: (b9, blk 35 [.int .u16 z, .slice ay y.length cy, .int .u8 d]) :: (b6, blk 31 [.slice aK m.rooms.length cK, .slice p.az m.shops.length p.cs, .slice p.at_ m.trains.length p.ct]) :: (b3, blk 26 (l.cells q)) :: (BK ++ (BJ ++ (HB ++ (WB ++ F)))))) (m.rooms.length) ?_ ?_
  ·
   exact ⟨0, BK, BJ, rfl, by omega, by omega, by rw [mid_zero]; exact hoK, by rw [mid_zero]; exact hoJ, hs⟩
  intro k vs μ ms hI mu jJ
  clear hoK hoJ hs
  obtain ⟨i, BK, BJ, rfl, hia, rfl, hoK, hoJ, hs⟩ := hI
  refine zAe (fun mv jK => (zAe (fun mw jL => (zAa (zAz rfl rfl (w_p (zAf (o := 0) (i := 0) underlying31 rfl sizeOf27 rfl rfl rfl) rfl (w_p (zAj isAgg27 hs rfl rfl (zAk (i := 2) (vs := [_]) rfl rfl)) rfl ?_)))))))
  refine w_p (zA8 underlying27 rfl rfl) rfl (w_p (zBw rfl rfl rfl rfl) rfl (zAd (zAb (jL _ _ (zAu rfl rfl (fun gK => ?_) (fun gK => ?_))))))
  ·
   try simp only [zS] at gK
   refine zAs (zAb (jK _ _ (zAe (fun mx jM => (zAw ?_)))))
   refine zAe (fun my jN => ?_)
   have hi2 : i < m.rooms.length := by omega
   obtain ⟨bA, capA, csA, hvA, hBA, hA1, hA2, hA3, hA4⟩ := zIe hoK (by omega)
   injection hvA with e1 e2x e3
   subst e1 e3 hBA
   obtain ⟨bB, capB, csB, hvB, hBB, hB1, hB2, hB3, hB4⟩ := zIe hoJ (by omega)
   injection hvB with f1 f2x f3
   subst f1 f3 hBB
   replace hs := (show St _ _ (_ :: _ :: _ :: _ :: _ :: _ :: (HB ++ (WB ++ F))) from hs)
   have hmi : i < (midTo (servR l) m.rooms i).length := by rw [zJf]; exact hi2
   have hrow := row_at hs (j := 4) rfl hA4 (zJf _ _ _) hmi
   rw [mid_get hi2] at hrow
   have hga : gradeAt l i < l.grades.length := Nat.mod_lt _ hgl
   have hgi : ((i : Int) % (l.grades.length : Int)) = ((gradeAt l i : Nat) : Int) := by unfold gradeAt; push_cast; rfl
   have ht := grade_in hck hin (sc := scOf l y) (fun b hb => sc_in hokl hb) hgl i
   obtain ⟨bh, oh, hbh, hhx⟩ := zC9 hslH (show gradeAt l i < (grTo l h (scOf l y) l.bunches.length).length by rw [gr_len]; exact hga)
   subst hbh
   rw [gr_at] at hhx
   have hhx2 := hhx.top (F := WB ++ F)
   refine zAa (zAz rfl rfl (w_p (zAf (o := 0) (i := 0) underlying26 rfl sizeOf22 rfl rfl rfl) rfl (w_p (zAj isAgg22 hs rfl rfl (zAk (i := 3) (vs := [_]) rfl rfl)) rfl (w_p (zA8 underlying22 rfl rfl) rfl ?_))))
   refine w_p (y_rem rfl rfl rfl rfl (by omega) (by omega)) rfl (zBe rfl rfl (zAd (zAb (jN _ _ (zAe (fun mz jO => (zAa (w_p (zA4 (vs := [_,_,_]) isAgg26 sizeOf26 hs rfl rfl (zAk (i := 3) (vs := [_,_,_]) rfl rfl)) rfl ?_))))))))
   refine zAz rfl rfl (zAr zAc call10 rfl rfl rfl rfl (c10 l q hm.app.app.cons.cons.cons.cons.cons.cons ((gradeAt l i : Nat) : Int) hs) ?_)
   rintro _ mA ⟨rfl, jP⟩
   refine w_p (zAi (v := .tuple _) rfl rfl) rfl (w_p (zAp (v := .agg _) rfl rfl rfl) rfl (w_p (zAp (v := .int _ _) rfl rfl rfl) rfl (zBf (cs := [_,_]) zAc zeroValue46 rfl jP (fun mB mC jQ => ?_))))
   refine zA6 (i := 0) (v := .agg #[.int _ _, .int _ _]) (vs := [_,_]) zAc sizeOf46 rfl rfl rfl rfl rfl (by simp [Value.oneCell']) jQ rfl (zNl rfl) (fun mD gL => ?_)
   refine zBe rfl rfl (zAd (zAb (jO _ _ (zAe (fun mE jR => (zAe (fun mF jS => (zAa (zAz rfl rfl (w_p (zB2 rfl rfl rfl rfl) rfl (zAd (zAb (jS _ _ (zAu rfl rfl (fun gi => ?_) (fun gi => ?_)))))))))))))))
   ·
    exfalso
    try simp only [zS] at gi
    exact gi ht.1
   try simp only [zS] at gi
   refine zAs (zAb (jR _ _ (zAe (fun mG jT => (zAa (w_p (zAf (o := 0) (i := 0) underlying31 rfl sizeOf27 rfl rfl rfl) rfl (w_p (zAj isAgg27 gL rfl rfl (zAk (i := 3) (vs := [_]) rfl rfl)) rfl ?_)))))))
   refine zAz rfl rfl (w_p (zA3 underlying27 sizeOf50 rfl rfl rfl rfl (i := i) rfl hi2) rfl (w_p (zA4 (vs := [_,_,_,_,_]) isAgg50 sizeOf50 gL.tail rfl rfl hrow) rfl (zBf (cs := [_,_,_,_,_]) zAc zeroValue50 rfl gL (fun mH mI jU => ?_))))
   refine zA6 (i := 0) (v := .agg #[.string _, .int _ _, .int _ _, .int _ _, .int _ _]) (vs := [_,_,_,_,_]) zAc sizeOf50 rfl rfl rfl rfl rfl (by simp [Value.oneCell']) jU rfl (zNl rfl) (fun mJ j1 => ?_)
   refine zAd (zAb (jT _ _ (zAe (fun mK jV => (zAa (w_p (zA4 (vs := [_,_]) isAgg46 sizeOf46 j1 rfl rfl (zAk (i := 1) (vs := [_,_]) rfl rfl)) rfl (w_p (zAf (o := 1) (i := 1) underlying50 rfl sizeOf46 rfl rfl rfl) rfl ?_)))))))
   refine zA6 (i := 0) (v := .agg #[.int _ _, .int _ _]) (vs := [_,_]) zAc sizeOf46 rfl rfl rfl rfl rfl (by simp [Value.oneCell']) j1 rfl (zNl rfl) (fun mL gM => ?_)
   refine zAd (zAb (jV _ _ (zAe (fun mM jW => (zAa (w_p (zAf (o := 0) (i := 0) underlying31 rfl sizeOf27 rfl rfl rfl) rfl (w_p (zAj isAgg27 gM rfl rfl (zAk (i := 4) (vs := [_]) rfl rfl)) rfl ?_)))))))
   refine zAz rfl rfl (w_p (zA4 (vs := [_,_,_,_,_]) isAgg50 sizeOf50 gM rfl rfl (zAk (i := 0) (vs := [_,_,_,_,_]) rfl rfl)) rfl (w_p (zA3 underlying27 sizeOf50 rfl rfl rfl rfl (i := i) rfl hi2) rfl (zA6 (i := 6) (v := .agg #[_,_,_,_,_]) (vs := [_,_,_,_,_]) zAc sizeOf50 rfl rfl rfl rfl rfl (by simp [Value.oneCell']) gM rfl (show 0 + i * 5 + 5 ≤ csA.length by omega) (fun mN gN => ?_))))
   replace gN := (show St _ _ (_ :: _ :: _ :: _ :: _ :: _ :: (bA, blk 50 (setMany csA (i * 5) (servR l i (m.rooms[i]'hi2)).cells)) :: _ :: HB ++ (WB ++ (F))) from (by have h6 := gN; simp only [Nat.zero_add] at h6; exact h6))
   refine zAd (zAb (jW _ _ (zAe (fun mO jX => (zCn [10] [(0,0),(1,0),(2,0),(3,1),(4,0),(5,0),(6,0),(7,1),(8,0),(9,0),(10,3)] zCb (zEn (by kernel_rfl)) gN (fun mP gP => ?_))))))
   refine d_w rfl (fun _ => zAi (v := .slice _ _ _) rfl rfl) rfl ?_
   refine d_w rfl (fun _ => zA2 rfl rfl) rfl ?_
   refine d_w rfl (fun _ => zA3 underlying43 sizeOf3 rfl rfl rfl rfl (i := gradeAt l i) rfl hga) rfl ?_
   refine zBd rfl zAc rfl gP (fun _ hq => (zAj isAgg3 hq.tail.tail.tail.tail.tail.tail.tail.tail rfl rfl hhx2)) ?_
   refine d_w rfl (fun _ => zAi (v := .slice _ _ _) rfl rfl) rfl ?_
   refine d_w rfl (fun _ => zA2 rfl rfl) rfl ?_
   refine d_w rfl (fun _ => zA3 underlying43 sizeOf3 rfl rfl rfl rfl (i := gradeAt l i) rfl hga) rfl ?_
   refine zBd rfl zAc rfl gP (fun _ hq => (zAj isAgg3 hq.tail.tail.tail.tail.tail.tail.tail.tail rfl rfl hhx2)) ?_
   refine d_w rfl (fun _ => zBv (ps := [(0, _),(1, _)]) (pv := [(0, .int _ _),(1, .int _ _)]) rfl rfl (fun w => Try_TB_fb3 _ _ w)) rfl ?_
   refine d_w rfl (fun _ => zAf (o := 1) (i := 1) underlying50 rfl sizeOf46 rfl rfl rfl) rfl ?_
   refine zDc rfl ?_
   refine zA6 (i := 0) (v := .agg #[.int _ _, .int _ _]) (vs := [_,_]) zAc sizeOf46 rfl rfl rfl rfl rfl (by simp [Value.oneCell']) gP rfl (zNl rfl) (fun mQ gQ => ?_)
   refine zAd (qn ?_)
   refine zCf ?_
   refine zAb (jX _ _ (zAa (w_p (zAf (o := 0) (i := 0) underlying31 rfl sizeOf27 rfl rfl rfl) rfl (w_p (zAj isAgg27 gQ rfl rfl (zAk (i := 2) (vs := [_]) rfl rfl)) rfl (zAz rfl rfl (w_p (zA4 (vs := [_,_,_,_,_]) isAgg50 sizeOf50 gQ rfl rfl (zAk (i := 0) (vs := [_,_,_,_,_]) rfl rfl)) rfl ?_))))))
   refine w_p (zA3 underlying27 sizeOf50 rfl rfl rfl rfl (i := i) rfl hi2) rfl (zA6 (i := 7) (v := .agg #[_,_,_,_,_]) (vs := [_,_,_,_,_]) zAc sizeOf50 rfl rfl rfl rfl rfl (by simp [Value.oneCell']) gQ rfl (show 0 + i * 5 + 5 ≤ csB.length by omega) (fun mR gR => ?_))
   replace gR := (show St _ _ (_ :: _ :: _ :: _ :: _ :: _ :: _ :: (bB, blk 50 (setMany csB (i * 5) (knowR l h (scOf l y) i (m.rooms[i]'hi2)).cells)) :: HB ++ (WB ++ (F))) from (by have h6 := gR; simp only [Nat.zero_add] at h6; exact h6))
   refine zAd (zAl (zAb (jM _ _ (zAa (zAz rfl rfl (w_p (zBg rfl rfl rfl rfl (by omega) (by omega)) rfl (zBe rfl rfl (zAd (zAb (jJ _ _ (nxI (m.rooms.length - (i + 1)) (by omega) ?_)))))))))))
   exact ⟨i + 1, [(bA, _)], [(bB, _)], rfl, by omega, rfl, by rw [← mid_set hi2]; exact own_put (row := Sh.Room.cells) (fun _ => rfl) (by rw [zJf]; exact hi2) (zJf _ _ _) hA1 hA2 hA3 hA4, by rw [← mid_set hi2]; exact own_put (row := Sh.Room.cells) (fun _ => rfl) (by rw [zJf]; exact hi2) (zJf _ _ _) hB1 hB2 hB3 hB4, gR.tail.tail⟩
  try simp only [zS] at gK
  refine zBl (zAm (zAm (zA0 (zAb (jH _ _ (zAe (fun mS jY => ?_)))))))
  have hin2 : i = m.rooms.length := by omega
  subst hin2
  rw [mid_end] at hoK hoJ
  obtain ⟨hslK, hcK⟩ := own_rows1 (w0 := w0) hoK (rrow5 _) (by rw [zE2, List.length_mapIdx])
  obtain ⟨hslJ, hcJ⟩ := own_rows1 (w0 := w0) hoJ (rrow5 _) (by rw [zE2, List.length_mapIdx])
  have hc4 : (servM l m).cells (atS aK cK p) = [.slice aK m.rooms.length cK, .slice p.az m.shops.length p.cs, .slice p.at_ m.trains.length p.ct] := by simp [Sh.Market.cells, servM, atS]
  have hc14 : (knowM l h (scOf l y) m).cells (atS aJ cJ p) = [.slice aJ m.rooms.length cJ, .slice p.az m.shops.length p.cs, .slice p.at_ m.trains.length p.ct] := by simp [Sh.Market.cells, knowM, atS]
  obtain ⟨Z, hZ, hsZ⟩ := gen_Z hs
  have hb4 : Ats w0 Z b6 0 ((servM l m).cells (atS aK cK p)) := by rw [hZ]; exact ats_castG (ats_of (i := 2) (vs := [.slice aK m.rooms.length cK, .slice p.az m.shops.length p.cs, .slice p.at_ m.trains.length p.ct]) hs rfl rfl) hc4
  have hb14 : Ats w0 Z gA 0 ((knowM l h (scOf l y) m).cells (atS aJ cJ p)) := by rw [hZ]; exact ats_castG (ats_of (i := 0) (vs := [.slice aJ m.rooms.length cJ, .slice p.az m.shops.length p.cs, .slice p.at_ m.trains.length p.ct]) hs rfl rfl) hc14
  have hmS : Sb.MIn w0 Z (servM l m) (atS aK cK p) := by rw [hZ]; exact mid_min hm2.app.app.app.app.cons.cons.cons.cons hslK.top.cons.cons.cons.cons hcK (fun _ _ => rfl)
  have hmK : Sb.MIn w0 Z (knowM l h (scOf l y) m) (atS aJ cJ p) := by rw [hZ]; exact mid_min hm2.app.app.app.app.cons.cons.cons.cons hslJ.top.app.cons.cons.cons.cons hcJ (fun _ _ => rfl)
  have hrl : (servM l m).rooms.length = m.rooms.length := serv_len l m
  refine zAa (w_p (zA4 (vs := [_,_,_]) isAgg31 sizeOf31 hsZ rfl rfl hb4) rfl (zAr zAc call5 rfl rfl rfl rfl (Sb.c5 (servM l m) _ hmS hsZ) ?_))
  rintro _ mT ⟨rfl, j2⟩
  refine w_p (zAi (v := .tuple _) rfl rfl) rfl (w_p (zAp (v := .int _ _) rfl rfl rfl) rfl (w_p (zAp (v := .int _ _) rfl rfl rfl) rfl (w_p (zAp (v := .int _ _) rfl rfl rfl) rfl (zBe rfl rfl (zAd (zAb (jY _ _ (zAe (fun mU jZ => (zAa (w_p (zA4 (vs := [_,_,_]) isAgg31 sizeOf31 j2 rfl rfl hb14) rfl ?_)))))))))))
  refine zAr zAc call5 rfl rfl rfl rfl (Sb.c5 (knowM l h (scOf l y) m) _ hmK j2) ?_
  rintro _ mV ⟨rfl, gj⟩
  refine w_p (zAi (v := .tuple _) rfl rfl) rfl (w_p (zAp (v := .int _ _) rfl rfl rfl) rfl (w_p (zAp (v := .int _ _) rfl rfl rfl) rfl (w_p (zAp (v := .int _ _) rfl rfl rfl) rfl (zBe rfl rfl (zBe rfl rfl (zBe rfl rfl ?_))))))
  refine zAd (zAb (jZ _ _ (zAe (fun mW k4 => (zAe (fun mX j3 => (zAa (zAz rfl rfl (w_p (zB2 rfl rfl rfl rfl) rfl (w_p (zAi (v := .bool _) rfl rfl) rfl ?_))))))))))
  refine zBi (fun gS => ?_) (fun gS => ?_)
  ·
   try simp only [zS] at gS
   refine zAh rfl rfl rfl ?_
   refine zAh rfl rfl rfl ?_
   refine w_p (zAx (v := _) rfl rfl rfl rfl) rfl (zAd (zAb (j3 _ _ (zB1 rfl rfl ?_))))
   refine zAe (fun mY k5 => (zAa (zAr zAc call7 rfl rfl rfl rfl (c7 gj) ?_)))
   rintro _ mZ ⟨rfl, k6⟩
   refine w_p (zAi (v := .bool _) rfl rfl) rfl (zAr (zAq rfl rfl rfl) call8 rfl rfl rfl rfl (Sb.c8 k6) ?_)
   rintro _ q0 ⟨rfl, k7⟩
   refine w_p (zAx (v := .bool _) rfl rfl rfl rfl) rfl (w_p (zAo (v := .bool _) rfl rfl) rfl (zAd (zAb (k5 _ _ (zAy (zAg (zA1 (l := [.tmp 6]) (vs := [_]) rfl ⟨⟨rfl, (rfl : _ = Value.bool _)⟩, trivial⟩ ?_)))))))
   exact ⟨rfl, (St.cast hZ k7).tail.tail.tail.tail.drop.drop.drop.drop⟩
  try simp only [zS] at gS
  refine w_y rfl rfl rfl (zA2 rfl rfl) rfl ?_
  refine w_y rfl rfl rfl (zB2 rfl rfl rfl rfl) rfl ?_
  refine w_p (zA9 (v := .bool _) rfl rfl rfl rfl) rfl (zAd (zAb (j3 _ _ (zAu rfl rfl (fun gU => ?_) (fun gU => ?_)))))
  ·
   try simp only [zS] at gU
   refine zAe (fun q1 k8 => (zAa (zAr zAc call7 rfl rfl rfl rfl (c7 gj) ?_)))
   rintro _ q3 ⟨rfl, k9⟩
   refine w_p (zAi (v := .bool _) rfl rfl) rfl (zAr (zAq rfl rfl rfl) call8 rfl rfl rfl rfl (Sb.c8 k9) ?_)
   rintro _ q4 ⟨rfl, ka⟩
   refine w_p (zAx (v := .bool _) rfl rfl rfl rfl) rfl (w_p (zAo (v := .bool _) rfl rfl) rfl (zAd (zAb (k8 _ _ (zAy (zAg (zA1 (l := [.tmp 6]) (vs := [_]) rfl ⟨⟨rfl, (rfl : _ = Value.bool _)⟩, trivial⟩ ?_)))))))
   exact ⟨rfl, (St.cast hZ ka).tail.tail.tail.tail.drop.drop.drop.drop⟩
  try simp only [zS] at gU
  refine zAs (zAb (k4 _ _ (zAe (fun q5 kb => ?_))))
  have hcS : (Sh.check (servM l m)).2.2 = 0 := by assumption
  have hcN : (Sh.check (knowM l h (scOf l y) m)).2.2 = 0 := by assumption
  have hF := serv_facts hck hin (sc := scOf l y) (fun b hb => sc_in hokl hb) hgl hcS hcN
  have hokS := Sh.check_ok hcS
  have hokN := Sh.check_ok hcN
  have hgv : (Sh.giveP (servM l m)).1 = (Sh.giveL (servM l m)) := by rw [hF.gp]
  have hg2 : (Sh.giveP (servM l m)).2 = 0 := by rw [hF.gp]
  have hgn : (Sh.giveP (servM l m)).1.length = m.trains.length := by rw [hgv]; exact hF.gl
  have hwe := hF.we
  have hke := hF.ke
  have hwn := hF.len
  have hlt6 := hokm.lt
  have hst6 : (servM l m).trains.length = m.trains.length := rfl
  refine zAa (w_p (zA4 (vs := [_,_,_]) isAgg31 sizeOf31 gj rfl rfl hb4) rfl (zAr zAc call11 rfl rfl rfl rfl (Sb.c11 (servM l m) _ hmS gj) ?_))
  rintro _ q6 ⟨GB, aG, cG, rfl, hslG, gk⟩
  replace gk := (show St _ _ (GB ++ (Z)) from gk)
  refine w_p (zAi (v := .tuple _) rfl rfl) rfl (w_p (zAp (v := .slice _ _ _) rfl rfl rfl) rfl (w_p (zAp (v := .int _ _) rfl rfl rfl) rfl (w_p (zAo (v := .slice _ _ _) rfl rfl) rfl (zBe rfl rfl (zAd (zAb (kb _ _ (zAe (fun q7 kc => (zAa (w_p (zA4 (vs := [_,_,_]) isAgg31 sizeOf31 gk.drop rfl rfl hb4) rfl ?_)))))))))))
  refine zAr zAc call12 rfl rfl rfl rfl (Sb.c12 (servM l m) _ hmS.app gk) ?_
  rintro _ q8 ⟨V1, aV, cV, rfl, hslV, gm⟩
  replace gm := (show St _ _ (V1 ++ (GB ++ (Z))) from gm)
  refine w_p (zAi (v := .tuple _) rfl rfl) rfl (w_p (zAp (v := .slice _ _ _) rfl rfl rfl) rfl (w_p (zAp (v := .int _ _) rfl rfl rfl) rfl (w_p (zAo (v := .slice _ _ _) rfl rfl) rfl (zBe rfl rfl (zAd (zAb (kc _ _ (zAe (fun q9 kd => (zAa (w_p (zA4 (vs := [_,_,_]) isAgg31 sizeOf31 gm.drop.drop rfl rfl hb14) rfl ?_)))))))))))
  refine zAr zAc call12 rfl rfl rfl rfl (Sb.c12 (knowM l h (scOf l y) m) _ hmK.app.app gm) ?_
  rintro _ qa ⟨V2, aU, cU, rfl, hslU, g4⟩
  replace g4 := (show St _ _ (V2 ++ (V1 ++ (GB ++ (Z)))) from g4)
  refine w_p (zAi (v := .tuple _) rfl rfl) rfl (w_p (zAp (v := .slice _ _ _) rfl rfl rfl) rfl (w_p (zAp (v := .int _ _) rfl rfl rfl) rfl (w_p (zAo (v := .slice _ _ _) rfl rfl) rfl (zBe rfl rfl (zAd (zAb (kd _ _ (zAe (fun qb kf => (zAe (fun qc kg => (zAa (zAz rfl rfl ?_)))))))))))))
  refine w_p (zB2 rfl rfl rfl rfl) rfl (w_p (zAi (v := .bool _) rfl rfl) rfl (zBi (fun gn => ?_) (fun gn => ?_)))
  ·
   exfalso
   try simp only [zS] at gn
   exact gn hg2
  try simp only [zS] at gn
  refine w_y rfl rfl rfl (zA2 rfl rfl) rfl ?_
  refine w_y rfl rfl rfl (zB2 rfl rfl rfl rfl) rfl ?_
  refine w_p (zA9 (v := .bool _) rfl rfl rfl rfl) rfl (w_p (zAi (v := .bool _) rfl rfl) rfl (zBi (fun gq => ?_) (fun gq => ?_)))
  ·
   exfalso
   try simp only [zS] at gq
   exact gq hwe
  try simp only [zS] at gq
  refine w_y rfl rfl rfl (zA2 rfl rfl) rfl ?_
  refine w_y rfl rfl rfl (zB2 rfl rfl rfl rfl) rfl ?_
  refine w_p (zA9 (v := .bool _) rfl rfl rfl rfl) rfl (w_p (zAi (v := .bool _) rfl rfl) rfl (zBi (fun gr => ?_) (fun gr => ?_)))
  ·
   exfalso
   try simp only [zS] at gr
   exact gr hke
  try simp only [zS] at gr
  refine w_y rfl rfl rfl (zAi (v := .slice _ _ _) rfl rfl) rfl ?_
  refine w_y rfl rfl rfl (zA8 underlying43 rfl rfl) rfl ?_
  refine w_y rfl rfl rfl (zAf (o := 2) (i := 2) underlying31 rfl sizeOf29 rfl rfl rfl) rfl ?_
  refine w_y rfl rfl rfl (zAj isAgg29 g4.drop.drop.drop rfl rfl (show Ats _ _ _ _ [_] from Ats.part hb4 2 1)) rfl ?_
  refine w_y rfl rfl rfl (zA8 underlying29 rfl rfl) rfl ?_
  refine w_y rfl rfl rfl (zB2 rfl rfl rfl rfl) rfl ?_
  refine w_p (zA9 (v := .bool _) rfl rfl rfl rfl) rfl (w_p (zAi (v := .bool _) rfl rfl) rfl (zBi (fun gV => ?_) (fun gV => ?_)))
  ·
   exfalso
   try simp only [zS] at gV
   omega
  try simp only [zS] at gV
  refine w_y rfl rfl rfl (zAi (v := .slice _ _ _) rfl rfl) rfl ?_
  refine w_y rfl rfl rfl (zA8 underlying43 rfl rfl) rfl ?_
  refine w_y rfl rfl rfl (zAi (v := .slice _ _ _) rfl rfl) rfl ?_
  refine w_y rfl rfl rfl (zA8 underlying43 rfl rfl) rfl ?_
  refine w_y rfl rfl rfl (zD5 rfl rfl rfl rfl) rfl ?_
  refine w_p (zA9 (v := .bool _) rfl rfl rfl rfl) rfl (zAd (zAb (kg _ _ (zAu rfl rfl (fun gW => ?_) (fun gW => ?_)))))
  ·
   exfalso
   try simp only [zS] at gW
   omega
  try simp only [zS] at gW
  refine zAs (zAb (kf _ _ (zAe (fun qd kh => (zAa (w_p (zA4 (vs := [_,_,_]) isAgg31 sizeOf31 g4.drop.drop.drop rfl rfl hb14) rfl (zAr zAc call13 rfl rfl rfl rfl (Sb.c13o (knowM l h (scOf l y) m) _ hmK.app.app.app hokN g4) ?_)))))))
  rintro _ qe ⟨LB, hoL, gX⟩
  replace gX := (show St _ _ (LB ++ (V2 ++ (V1 ++ (GB ++ (Z))))) from gX)
  obtain ⟨aL, cL, rfl⟩ := hoL.slice
  refine w_p (zAo (v := .slice _ _ _) rfl rfl) rfl (zAd (zAb (kh _ _ (zAe (fun qf ki => (zAe (fun qg kj => (zAa (zA5 rfl rfl (zAd (zAb (kj _ _ (zAw ?_)))))))))))))
  refine zBs [6,30,31,185,186,187,188,189,190,191,192,193,194,195,196,197,198,199,200,201,202,203,204,205,206,207,208,209,210,211,212,213,214,215,216,217,218,219,220,221,222,223,224,225] [30] (fun kk vs w => ∃ (k : Nat) (LB : List (Nat × Obj)), vs = [.int .i64 k] ∧ k ≤ m.trains.length ∧ kk = m.trains.length - k ∧ Rt.Own (.slice aL m.rooms.length cL) 3 1 m.rooms.length (iv (Sh.leftTo (knowM l h (scOf l y) m) (Sh.leastL (knowM l h (scOf l y) m)) (Sh.giveL (servM l m)) k)) LB ∧ St w0 w (LB ++ (V2 ++ (V1 ++ (GB ++ Z))))) (m.trains.length) ?_ ?_
  ·
   exact ⟨0, LB, rfl, by omega, by omega, by have h9 := hoL; rw [zKn] at h9; exact h9, gX⟩
  intro k vs μ qh hI qi km
  clear hoL hs
  obtain ⟨k, LB, rfl, hka, rfl, hoL, hs⟩ := hI
  refine zAe (fun qj kn => (zAe (fun qk ko => (zAa (zAz rfl rfl (w_p (zAi (v := .slice _ _ _) rfl rfl) rfl (w_p (zA8 underlying43 rfl rfl) rfl (w_p (zBw rfl rfl rfl rfl) rfl ?_))))))))
  refine zAd (zAb (ko _ _ (zAu rfl rfl (fun gY => ?_) (fun gY => ?_))))
  ·
   try simp only [zS] at gY
   refine zAs (zAb (kn _ _ (zAe (fun ql kp => (zAw ?_)))))
   refine zAe (fun qm kq => ?_)
   have hk2 : k < m.trains.length := by omega
   obtain ⟨bt, ot, hbt, hxt⟩ := Sb.sl_trows hmS.t hk2
   replace hxt : Ats w0 Z bt (ot + k * 4) (m.trains[k]'hk2).cells := hxt
   have htt : 0 ≤ (m.trains[k]'hk2).room ∧ (m.trains[k]'hk2).room < (m.rooms.length : Int) := by
     have h9 := hokS.train _ (List.getElem_mem (l := (servM l m).trains) hk2)
     rw [hrl] at h9
     exact ⟨h9.1, h9.2.1⟩
   have hcap := hF.cap k hk2
   have hgz := hF.gs
   have hf := hF.left k (by omega)
   have hg : ((Sh.subAt (Sh.leftTo (knowM l h (scOf l y) m) (Sh.leastL (knowM l h (scOf l y) m)) (Sh.giveL (servM l m)) k) (m.trains[k]'hk2).room.toNat (Sh.gD (Sh.giveL (servM l m)) k))).length = m.rooms.length ∧ ∀ z ∈ (Sh.subAt (Sh.leftTo (knowM l h (scOf l y) m) (Sh.leastL (knowM l h (scOf l y) m)) (Sh.giveL (servM l m)) k) (m.trains[k]'hk2).room.toNat (Sh.gD (Sh.giveL (servM l m)) k)), 0 ≤ z ∧ z ≤ 200 := by
     have h9 := hF.left (k + 1) (by omega)
     rw [Sh.leftTo_succ (m := (knowM l h (scOf l y) m)) hk2] at h9
     exact h9
   have hkl : ((knowM l h (scOf l y) m)).rooms.length = m.rooms.length := zKn _ _ _ _
   have hf1 := hf.1
   have hg1 := hg.1
   have hr2 : (m.trains[k]'hk2).room.toNat < (Sh.leftTo (knowM l h (scOf l y) m) (Sh.leastL (knowM l h (scOf l y) m)) (Sh.giveL (servM l m)) k).length := by omega
   have hr3 : (m.trains[k]'hk2).room.toNat < (Sh.subAt (Sh.leftTo (knowM l h (scOf l y) m) (Sh.leastL (knowM l h (scOf l y) m)) (Sh.giveL (servM l m)) k) (m.trains[k]'hk2).room.toNat (Sh.gD (Sh.giveL (servM l m)) k)).length := by rw [Sh.subAt_len]; omega
   have hrb := hf.2 _ (List.getElem_mem hr2)
   have hrb3 := hg.2 _ (List.getElem_mem hr3)
   have hkg : k < (Sh.giveP (servM l m)).1.length := by omega
   have hkv : (Sh.giveP (servM l m)).1[k] = (Sh.gD (Sh.giveL (servM l m)) k) := by
     have h9 : k < (Sh.giveL (servM l m)).length := by rw [hF.gl]; exact hk2
     rw [Sh.gD_get h9]; simp only [hgv]
   obtain ⟨bx, ox, hbx2, hx0⟩ := zC9 hslG hkg
   subst hbx2
   rw [hkv] at hx0
   have hx := hx0.top (F := Z)
   have hk60 : (Sh.gD (Sh.giveL (servM l m)) k) ≤ 60 := by rw [← hkv]; have := hgz _ (by rw [← hgv]; exact List.getElem_mem hkg); omega
   obtain ⟨bl, capl, csl, hvL, hBl, hcl1, hcl2, hcl3, hcl4⟩ := zIe hoL (by omega)
   injection hvL with e1 e2x e3
   subst e1 e3 hBl
   replace hs := (show St _ _ ((bl, blk 3 csl) :: (V2 ++ (V1 ++ (GB ++ Z)))) from hs)
   obtain ⟨by_, oy, hby2, hy⟩ := zC9 (Hn.sl_own_ints (w0 := w0) (L := (bl, blk 3 csl) :: (V2 ++ (V1 ++ (GB ++ Z)))) (i := 0) rfl hf1 hcl4) hr2
   cases hby2
   refine zAa (w_p (zAf (o := 2) (i := 2) underlying31 rfl sizeOf29 rfl rfl rfl) rfl (w_p (zG5 hbt (zAj isAgg29 hs.tail.drop.drop.drop rfl rfl (show Ats _ _ _ _ [_] from Ats.part hb4 2 1))) rfl (zAz rfl rfl (w_p (zA3 underlying29 sizeOf55 rfl rfl rfl rfl (i := k) rfl hk2) rfl ?_))))
   refine w_p (zAf (o := 0) (i := 0) underlying55 rfl sizeOf3 rfl rfl rfl) rfl (w_p (zAj isAgg3 hs.tail.drop.drop.drop rfl rfl (show Ats _ _ _ _ [_] from Ats.part hxt 0 1)) rfl (zBe rfl rfl (zAd (zAb (kq _ _ (zAe (fun qo kr => (zAe (fun qp ku => (zCn [] [(0,0),(1,0),(2,0),(3,1),(4,0),(5,1),(6,0),(7,0),(8,0),(9,1),(10,2),(11,0)] zCb (zEn (by kernel_rfl)) hs (fun qq gt => ?_)))))))))))
   refine d_w rfl (fun _ => zAi (v := .slice _ _ _) rfl rfl) rfl ?_
   refine d_w rfl (fun _ => zA2 rfl rfl) rfl ?_
   refine d_w rfl (fun _ => zA3 underlying43 sizeOf3 rfl rfl rfl rfl (i := k) rfl hkg) rfl ?_
   refine zBd rfl zAc rfl gt (fun _ hq => (zAj isAgg3 hq.tail.drop.drop rfl rfl hx)) ?_
   refine d_w rfl (fun _ => zAf (o := 2) (i := 2) underlying31 rfl sizeOf29 rfl rfl rfl) rfl ?_
   refine zBd rfl zAc rfl gt (fun _ hq => (zG5 hbt (zAj isAgg29 hq.tail.drop.drop.drop rfl rfl (show Ats _ _ _ _ [_] from Ats.part hb4 2 1)))) ?_
   refine d_w rfl (fun _ => zA2 rfl rfl) rfl ?_
   refine d_w rfl (fun _ => zA3 underlying29 sizeOf55 rfl rfl rfl rfl (i := k) rfl hk2) rfl ?_
   refine d_w rfl (fun _ => zAf (o := 3) (i := 3) underlying55 rfl sizeOf3 rfl rfl rfl) rfl ?_
   refine zBd rfl zAc rfl gt (fun _ hq => (zAj isAgg3 hq.tail.drop.drop.drop rfl rfl (show Ats _ _ _ _ [_] from Ats.part hxt 3 1))) ?_
   refine zCq rfl ?_
   refine zAr zAc call14 rfl rfl rfl rfl ((zD8 (c14 _ 0 _ gt) (decide_eq_true ⟨hcap.1, hcap.2⟩))) ?_
   rintro _ qr ⟨rfl, j4⟩
   refine zAd (qn ⟨j4, ?_⟩)
   refine d_w rfl (fun _ => zDz rfl rfl) rfl ?_
   refine zCf ?_
   refine zAb (ku _ _ (zBx rfl rfl ?_))
   refine zAs (zAb (kr _ _ (zAe (fun qs kv => (zCn [12] [(0,0),(1,0),(2,0),(3,0),(4,0),(5,1),(6,0),(7,0),(8,0),(9,1),(10,0),(11,0),(12,3)] zCb (zEn (by kernel_rfl)) j4 (fun qt gZ => ?_))))))
   refine d_w rfl (fun _ => zAi (v := .slice _ _ _) rfl rfl) rfl ?_
   refine d_w rfl (fun _ => zA2 rfl rfl) rfl ?_
   refine d_w rfl (fun _ => zAi (v := .slice _ _ _) rfl rfl) rfl ?_
   refine d_w rfl (fun _ => zA2 rfl rfl) rfl ?_
   refine d_w rfl (fun _ => zA3 underlying43 sizeOf3 rfl rfl rfl rfl (i := (m.trains[k]'hk2).room.toNat) (by omega) (by omega)) rfl ?_
   refine zBd rfl zAc rfl gZ (fun _ hq => (zAj isAgg3 hq rfl rfl hy)) ?_
   refine d_w rfl (fun _ => zAi (v := .slice _ _ _) rfl rfl) rfl ?_
   refine d_w rfl (fun _ => zA2 rfl rfl) rfl ?_
   refine d_w rfl (fun _ => zA3 underlying43 sizeOf3 rfl rfl rfl rfl (i := k) rfl hkg) rfl ?_
   refine zBd rfl zAc rfl gZ (fun _ hq => (zAj isAgg3 hq.tail.drop.drop rfl rfl hx)) ?_
   refine d_w rfl (fun _ => zE0 rfl rfl rfl rfl (by omega) (by omega)) rfl ?_
   refine d_w rfl (fun _ => zA3 underlying43 sizeOf3 rfl rfl rfl rfl (i := (m.trains[k]'hk2).room.toNat) (by omega) (by omega)) rfl ?_
   refine zDc rfl ?_
   refine zA6 (i := 0) (v := .int _ _) (vs := [_]) zAc sizeOf3 rfl rfl rfl rfl rfl (by simp [Value.oneCell']) gZ rfl (show 0 + (m.trains[k]'hk2).room.toNat * 1 + 1 ≤ csl.length by omega) (fun qu gu => ?_)
   have hcl5 : (csl.set ((m.trains[k]'hk2).room.toNat) (.int .i64 ((Sh.leftTo (knowM l h (scOf l y) m) (Sh.leastL (knowM l h (scOf l y) m)) (Sh.giveL (servM l m)) k)[(m.trains[k]'hk2).room.toNat]'hr2 - (Sh.gD (Sh.giveL (servM l m)) k)))).take (m.rooms.length * 1) = iv (Sh.subAt (Sh.leftTo (knowM l h (scOf l y) m) (Sh.leastL (knowM l h (scOf l y) m)) (Sh.giveL (servM l m)) k) (m.trains[k]'hk2).room.toNat (Sh.gD (Sh.giveL (servM l m)) k)) := Sh.subAt_cells hf1 hr2 hcl4
   replace gu := (show St _ _ ((bl, blk 3 (csl.set ((m.trains[k]'hk2).room.toNat) (.int .i64 ((Sh.leftTo (knowM l h (scOf l y) m) (Sh.leastL (knowM l h (scOf l y) m)) (Sh.giveL (servM l m)) k)[(m.trains[k]'hk2).room.toNat]'hr2 - (Sh.gD (Sh.giveL (servM l m)) k))))) :: V2 ++ (V1 ++ (GB ++ (Z)))) from (by have h6 := gu; simp only [setMany, Nat.zero_add, Nat.mul_one] at h6; exact h6))
   refine zAd (qn ?_)
   refine zCf ?_
   refine zAb (kv _ _ (zAe (fun qv kw => ?_)))
   obtain ⟨bz, oz, hbz2, hz⟩ := zC9 (Hn.sl_own_ints (w0 := w0) (L := (bl, blk 3 (csl.set ((m.trains[k]'hk2).room.toNat) (.int .i64 ((Sh.leftTo (knowM l h (scOf l y) m) (Sh.leastL (knowM l h (scOf l y) m)) (Sh.giveL (servM l m)) k)[(m.trains[k]'hk2).room.toNat]'hr2 - (Sh.gD (Sh.giveL (servM l m)) k))))) :: (V2 ++ (V1 ++ (GB ++ Z)))) (i := 0) rfl hg1 hcl5) hr3
   cases hbz2
   refine zAa (w_p (zAi (v := .slice _ _ _) rfl rfl) rfl (zAz rfl rfl (w_p (zA3 underlying43 sizeOf3 rfl rfl rfl rfl (i := (m.trains[k]'hk2).room.toNat) (by omega) (by omega)) rfl (w_p (zAj isAgg3 gu rfl rfl hz) rfl ?_))))
   refine w_p (zBw rfl rfl rfl rfl) rfl (zAd (zAb (kw _ _ (zAu rfl rfl (fun hD => ?_) (fun hD => ?_)))))
   ·
    exfalso
    try simp only [zS] at hD
    omega
   try simp only [zS] at hD
   refine zAs (zAl (zAb (kp _ _ (zAa (zAz rfl rfl (w_p (zBg rfl rfl rfl rfl (by omega) (by omega)) rfl (zBe rfl rfl (zAd (zAb (km _ _ (nxI (m.trains.length - (k + 1)) (by omega) ?_)))))))))))
   exact ⟨k + 1, [(bl, _)], rfl, by omega, rfl, by rw [Sh.leftTo_succ (m := (knowM l h (scOf l y) m)) hk2]; exact own_setS hf1 hcl1 hcl2 hcl3 hcl5, gu⟩
  try simp only [zS] at gY
  refine zBl (zAm (zAm (zA0 (zAb (ki _ _ (zAe (fun qw kx => (zAa (zAr zAc call7 rfl rfl rfl rfl (c7 hs) ?_)))))))))
  rintro _ qx ⟨rfl, ky⟩
  refine w_p (zAi (v := .bool _) rfl rfl) rfl (zAr (zAq rfl rfl rfl) call8 rfl rfl rfl rfl (Sb.c8 ky) ?_)
  rintro _ qy ⟨rfl, kz⟩
  refine w_p (zAx (v := .bool _) rfl rfl rfl rfl) rfl (w_p (zAo (v := .bool _) rfl rfl) rfl (zAd (zAb (kx _ _ (zAy (zA1 (l := [.tmp 6]) (vs := [_]) rfl ⟨⟨rfl, (rfl : _ = Value.bool _)⟩, trivial⟩ ?_))))))
  exact ⟨rfl, (St.cast hZ kz.drop.drop.drop.drop).tail.tail.tail.tail.drop.drop.drop.drop⟩

end Go.Proofs.Tg
/- Arguments of TopServed, opened; what a law that holds leaves behind. No conditions. -/
set_option maxRecDepth 100000
namespace Go.Proofs.YtjmfdiaafnnlcaaGreat
open Go.Proofs.Tryz
open Go.Rt Go.Rt.Ha Go.Proofs.Hn Go.RowKit Go.ChangeShapes Go.WideShapes Go.ChangeAt
instance : Inhabited Grade := ⟨⟨ByteArray.empty, 0,0⟩⟩
instance : Inhabited Bunch := ⟨⟨0,0,0,0⟩⟩
instance : Inhabited Count := ⟨⟨0,0⟩⟩
theorem Tryz.own : ownKnob Tryz.prog.godebug = none := by kernel_rfl
theorem Tryz.laidOut : laidOutB Tryz.prog = true := by kernel_rfl
theorem cells61 : Tryz.prog.cellsOf 61 = 3 := by kernel_rfl
theorem cells65 : Tryz.prog.cellsOf 65 = 4 := by kernel_rfl
theorem cells67 : Tryz.prog.cellsOf 67 = 2 := by kernel_rfl
theorem cells46 : Tryz.prog.cellsOf 46 = 2 := by kernel_rfl
theorem cells26 : Tryz.prog.cellsOf 26 = 3 := by kernel_rfl
theorem cells22 : Tryz.prog.cellsOf 22 = 1 := by kernel_rfl
theorem cells23 : Tryz.prog.cellsOf 23 = 1 := by kernel_rfl
theorem cells24 : Tryz.prog.cellsOf 24 = 1 := by kernel_rfl
theorem cells3 : Tryz.prog.cellsOf 3 = 1 := by kernel_rfl
theorem cells9 : Tryz.prog.cellsOf 9 = 1 := by kernel_rfl
variable {H : Type} {enc : TypeId × Value → H} {W : World} {sp : Nat → Bool} {held : Bool}
theorem u8_wf {n : Int} (h : (Lit.int .u8 n).wf = true) : 0 ≤ n ∧ n ≤ 255 := by
  simp only [Lit.wf, Bool.and_eq_true, decide_eq_true_eq] at h
  exact h
theorem u16_wf {n : Int} (h : (Lit.int .u16 n).wf = true) : 0 ≤ n ∧ n ≤ 65535 := by
  simp only [Lit.wf, Bool.and_eq_true, decide_eq_true_eq] at h
  exact h
theorem zIg {fuel : Nat} {cs : List Value} {x : DataW H × List MemPlace} (h : DataW.trod enc Tryz.prog W 0 sp held fuel 46 cs = some x) : ∃ a b : Int, cs = [.int .i64 a, .int .i64 b] := by
  have hl := zFo underlying46 h
  rw [cells46] at hl
  obtain ⟨n, y, h0⟩ := zBm underlying46 h 0 3 0 1 rfl rfl rfl cells3
  obtain ⟨n1, y1, h1⟩ := zBm underlying46 h 1 3 1 1 rfl rfl rfl cells3
  match cs, hl with
  | [c0, c1], _ =>
    obtain ⟨a, e0⟩ := zDr underlying3 h0
    obtain ⟨b, e1⟩ := zDr underlying3 h1
    simp at e0 e1
    exact ⟨a, b, by rw [e0, e1]⟩
theorem open_grade (fuel : Nat) (cs : List Value) (y : DataW H × List MemPlace) (h : DataW.trod enc Tryz.prog W 0 sp held fuel 61 cs = some y) : ∃ f : Grade, cs = f.cells ∧ f.name.size ≤ 9223372036854775807 := by
  have hl := zFo underlying61 h
  rw [cells61] at hl
  obtain ⟨_, _, h0⟩ := zBm underlying61 h 0 9 0 1 rfl rfl rfl cells9
  obtain ⟨_, _, h1⟩ := zBm underlying61 h 1 3 1 1 rfl rfl rfl cells3
  obtain ⟨_, _, h2⟩ := zBm underlying61 h 2 3 2 1 rfl rfl rfl cells3
  match cs, hl with
  | [c0, c1, c2], _ =>
    obtain ⟨s, e0, _, hs⟩ := DataW.trod_string underlying9 h0
    obtain ⟨x1, e1⟩ := zDr underlying3 h1
    obtain ⟨x2, e2⟩ := zDr underlying3 h2
    simp at e0 e1 e2
    exact ⟨⟨s, x1, x2⟩, by rw [e0, e1, e2]; rfl, by simpa [maxLen] using hs⟩
theorem open_bunch (fuel : Nat) (cs : List Value) (y : DataW H × List MemPlace) (h : DataW.trod enc Tryz.prog W 0 sp held fuel 65 cs = some y) : ∃ f : Bunch, cs = f.cells ∧ True := by
  have hl := zFo underlying65 h
  rw [cells65] at hl
  obtain ⟨_, _, h0⟩ := zBm underlying65 h 0 46 0 2 rfl rfl rfl cells46
  obtain ⟨_, _, h1⟩ := zBm underlying65 h 1 46 2 2 rfl rfl rfl cells46
  match cs, hl with
  | [c0, c1, c2, c3], _ =>
    obtain ⟨x0, x1, e0⟩ := zIg h0
    obtain ⟨x2, x3, e1⟩ := zIg h1
    simp at e0 e1
    exact ⟨⟨x0, x1, x2, x3⟩, by rw [e0.1, e0.2, e1.1, e1.2]; rfl, trivial⟩
theorem open_count (fuel : Nat) (cs : List Value) (y : DataW H × List MemPlace) (h : DataW.trod enc Tryz.prog W 0 sp held fuel 67 cs = some y) : ∃ f : Count, cs = f.cells ∧ True := by
  have hl := zFo underlying67 h
  rw [cells67] at hl
  obtain ⟨_, _, h0⟩ := zBm underlying67 h 0 3 0 1 rfl rfl rfl cells3
  obtain ⟨_, _, h1⟩ := zBm underlying67 h 1 3 1 1 rfl rfl rfl cells3
  match cs, hl with
  | [c0, c1], _ =>
    obtain ⟨x0, e0⟩ := zDr underlying3 h0
    obtain ⟨x1, e1⟩ := zDr underlying3 h1
    simp at e0 e1
    exact ⟨⟨x0, x1⟩, by rw [e0, e1]; rfl, trivial⟩
theorem open_lot {v : Value} {d : DataW H} {ps : List MemPlace} {r : Reach} {b0 : Nat} (hval : Value.okWide Tryz.prog W r b0 26 v) (h : DataW.Trod enc Tryz.prog W 0 sp held 26 v d ps) :
    ∃ (m : Lot) (p : At3), v = .agg (m.cells p).toArray ∧ LIn W [] m p := by
  obtain ⟨xs, rfl, hsz⟩ : ∃ xs, v = .agg xs ∧ xs.size = 3 := by
    unfold Value.okWide at hval
    rw [underlying26] at hval
    obtain ⟨cs, h1, h2, _⟩ := hval
    exact ⟨cs, h1, by rw [h2, cells26]⟩
  obtain ⟨fuel, hf⟩ := h
  have hf2 : DataW.trod enc Tryz.prog W 0 sp held fuel 26 xs.toList = some (d, ps) := hf
  obtain ⟨_, _, h0⟩ := zBm underlying26 hf2 0 22 0 1 rfl rfl rfl cells22
  obtain ⟨_, _, h1⟩ := zBm underlying26 hf2 1 23 1 1 rfl rfl rfl cells23
  obtain ⟨_, _, h2⟩ := zBm underlying26 hf2 2 24 2 1 rfl rfl rfl cells24
  obtain ⟨xl, rfl⟩ : ∃ l : List Value, xs = l.toArray := ⟨xs.toList, by simp⟩
  have hl3 : xl.length = 3 := by simpa using hsz
  match xl, hl3 with
  | [c0, c1, c2], _ =>
    obtain ⟨a, ca, la, e0, hsa, hca, hma, hna⟩ := zFj (row := Grade.cells) (ok := fun f => f.name.size ≤ 9223372036854775807) underlying22 cells61 (by omega) (fun _ => rfl) open_grade h0
    obtain ⟨b, cb, lb, e1, hsb, hcb, hmb, hnb⟩ := zFj (row := Bunch.cells) (ok := fun f => True) underlying23 cells65 (by omega) (fun _ => rfl) open_bunch h1
    obtain ⟨c, cc, lc, e2, hsc, hcc, hmc, hnc⟩ := zFj (row := Count.cells) (ok := fun f => True) underlying24 cells67 (by omega) (fun _ => rfl) open_count h2
    simp at e0 e1 e2
    exact ⟨⟨la, lb, lc⟩, ⟨a, ca, b, cb, c, cc⟩, by rw [e0, e1, e2]; rfl, ⟨hsa, hsb, hsc, hma, hmb, hmc, hca, hcb, hcc, hna⟩⟩
theorem slice_nil {fuel : Nat} {t el : TypeId} {a : Option Addr} {n c : Nat} {y : DataW H × List MemPlace} (ht : Tryz.prog.underlying t = some (.slice el)) (h : DataW.trod enc Tryz.prog W 0 sp held fuel t [.slice a n c] = some y) : a = none → c = 0 := by
  rcases DataW.trod_slice ht h with ⟨hcs, _⟩ | ⟨a', len, cap, elems, rest, m, _, hcs, _⟩
  · have e : Value.slice a n c = .slice none 0 0 := (List.cons.inj hcs).1
    injection e with e1 e2 e3
    exact fun _ => e3
  · have e : Value.slice a n c = .slice (some a') len cap := (List.cons.inj hcs).1
    injection e with e1 e2 e3
    exact fun h => (by rw [h] at e1; cases e1)
theorem cells35 : Tryz.prog.cellsOf 35 = 3 := by kernel_rfl
theorem cells33 : Tryz.prog.cellsOf 33 = 1 := by kernel_rfl
theorem cells32 : Tryz.prog.cellsOf 32 = 1 := by kernel_rfl
theorem cells5 : Tryz.prog.cellsOf 5 = 1 := by kernel_rfl
theorem cel5 {fuel : Nat} {cs : List Value} {y : DataW H × List MemPlace} (h : DataW.trod enc Tryz.prog W 0 sp held fuel 5 cs = some y) : ∃ (x0 : Int), cs = [.int .u8 x0] ∧ (0 ≤ x0 ∧ x0 ≤ 255) := by
  obtain ⟨n, e, _, hw⟩ := DataW.trod_int underlying5 h
  exact ⟨n, e, u8_wf hw⟩
theorem cel32 {fuel : Nat} {cs : List Value} {y : DataW H × List MemPlace} (h : DataW.trod enc Tryz.prog W 0 sp held fuel 32 cs = some y) : ∃ (x0 : Int), cs = [.int .u16 x0] ∧ (0 ≤ x0 ∧ x0 ≤ 65535) := by
  obtain ⟨n, e, _, hw⟩ := DataW.trod_int underlying32 h
  exact ⟨n, e, u16_wf hw⟩
theorem open_felt {v : Value} {d : DataW H} {ps : List MemPlace} {r : Reach} {b0 : Nat} (hval : Value.okWide Tryz.prog W r b0 35 v) (h : DataW.Trod enc Tryz.prog W 0 sp held 35 v d ps) :
    ∃ (z : Int) (a : Option Addr) (c : Nat) (x : List Int) (n : Int), v = .agg #[.int .u16 z, .slice a x.length c, .int .u8 n] ∧ (0 ≤ z ∧ z ≤ 65535) ∧ x.length ≤ 9223372036854775807 ∧ Sl W [] a 1 (x.map fun n => [Value.int .u8 n]) ∧ (∀ y ∈ x, 0 ≤ y ∧ y ≤ 255) ∧ (0 ≤ n ∧ n ≤ 255) := by
  obtain ⟨xs, rfl, hsz⟩ : ∃ xs, v = .agg xs ∧ xs.size = 3 := by
    unfold Value.okWide at hval
    rw [underlying35] at hval
    obtain ⟨cs, h1, h2, _⟩ := hval
    exact ⟨cs, h1, by rw [h2, cells35]⟩
  obtain ⟨fuel, hf⟩ := h
  have hf2 : DataW.trod enc Tryz.prog W 0 sp held fuel 35 xs.toList = some (d, ps) := hf
  obtain ⟨_, _, h0⟩ := zBm underlying35 hf2 0 32 0 1 rfl rfl rfl cells32
  obtain ⟨_, _, h1⟩ := zBm underlying35 hf2 1 33 1 1 rfl rfl rfl cells33
  obtain ⟨_, _, h2⟩ := zBm underlying35 hf2 2 5 2 1 rfl rfl rfl cells5
  obtain ⟨xl, rfl⟩ : ∃ l : List Value, xs = l.toArray := ⟨xs.toList, by simp⟩
  have hl3 : xl.length = 3 := by simpa using hsz
  match xl, hl3 with
  | [c0, c1, c2], _ =>
    obtain ⟨z, e0, hz⟩ := cel32 h0
    obtain ⟨a1, k1, l1, e1, g0, hc1, hm1, hr1⟩ := zFj (row := fun x : Int => [Value.int .u8 x]) (ok := fun x => (0 ≤ x ∧ x ≤ 255)) underlying33 cells5 (by omega) (fun _ => rfl) (fun fuel cs y h => cel5 h) h1
    obtain ⟨n, e2, hn⟩ := cel5 h2
    simp at e0 e1 e2
    exact ⟨z, a1, k1, l1, n, by rw [e0, e1, e2], hz, hm1, g0, hr1, hn⟩
end Go.Proofs.YtjmfdiaafnnlcaaGreat

namespace Go.Proofs.YtjmfdiaafnnlcaaGreat.Lm
open Go.Proofs.Tryz
open Go.Rt Go.Rt.Sh Go.Proofs.Sb Go.RowKit Go.ChangeShapes Go.WideShapes Go.ChangeAt
instance : Inhabited Room := ⟨⟨ByteArray.empty, 0,0,0,0⟩⟩
instance : Inhabited Shop := ⟨⟨ByteArray.empty, 0,0⟩⟩
instance : Inhabited Train := ⟨⟨0,0,0,0⟩⟩
theorem cells50 : Tryz.prog.cellsOf 50 = 5 := by kernel_rfl
theorem cells71 : Tryz.prog.cellsOf 71 = 3 := by kernel_rfl
theorem cells55 : Tryz.prog.cellsOf 55 = 4 := by kernel_rfl
theorem cells46 : Tryz.prog.cellsOf 46 = 2 := by kernel_rfl
theorem cells31 : Tryz.prog.cellsOf 31 = 3 := by kernel_rfl
theorem cells27 : Tryz.prog.cellsOf 27 = 1 := by kernel_rfl
theorem cells28 : Tryz.prog.cellsOf 28 = 1 := by kernel_rfl
theorem cells29 : Tryz.prog.cellsOf 29 = 1 := by kernel_rfl
theorem cells3 : Tryz.prog.cellsOf 3 = 1 := by kernel_rfl
theorem cells9 : Tryz.prog.cellsOf 9 = 1 := by kernel_rfl
variable {H : Type} {enc : TypeId × Value → H} {W : World} {sp : Nat → Bool} {held : Bool}
theorem zIg {fuel : Nat} {cs : List Value} {x : DataW H × List MemPlace} (h : DataW.trod enc Tryz.prog W 0 sp held fuel 46 cs = some x) : ∃ a b : Int, cs = [.int .i64 a, .int .i64 b] := by
  have hl := zFo underlying46 h
  rw [cells46] at hl
  obtain ⟨n, y, h0⟩ := zBm underlying46 h 0 3 0 1 rfl rfl rfl cells3
  obtain ⟨n1, y1, h1⟩ := zBm underlying46 h 1 3 1 1 rfl rfl rfl cells3
  match cs, hl with
  | [c0, c1], _ =>
    obtain ⟨a, e0⟩ := zDr underlying3 h0
    obtain ⟨b, e1⟩ := zDr underlying3 h1
    simp at e0 e1
    exact ⟨a, b, by rw [e0, e1]⟩
theorem open_room (fuel : Nat) (cs : List Value) (y : DataW H × List MemPlace) (h : DataW.trod enc Tryz.prog W 0 sp held fuel 50 cs = some y) : ∃ f : Room, cs = f.cells ∧ f.name.size ≤ 9223372036854775807 := by
  have hl := zFo underlying50 h
  rw [cells50] at hl
  obtain ⟨_, _, h0⟩ := zBm underlying50 h 0 9 0 1 rfl rfl rfl cells9
  obtain ⟨_, _, h1⟩ := zBm underlying50 h 1 46 1 2 rfl rfl rfl cells46
  obtain ⟨_, _, h2⟩ := zBm underlying50 h 2 3 3 1 rfl rfl rfl cells3
  obtain ⟨_, _, h3⟩ := zBm underlying50 h 3 3 4 1 rfl rfl rfl cells3
  match cs, hl with
  | [c0, c1, c2, c3, c4], _ =>
    obtain ⟨s, e0, _, hs⟩ := DataW.trod_string underlying9 h0
    obtain ⟨x1, x2, e1⟩ := zIg h1
    obtain ⟨x3, e3⟩ := zDr underlying3 h2
    obtain ⟨x4, e4⟩ := zDr underlying3 h3
    simp at e0 e1 e3 e4
    exact ⟨⟨s, x1, x2, x3, x4⟩, by rw [e0, e1.1, e1.2, e3, e4]; rfl, by simpa [maxLen] using hs⟩
theorem open_shop (fuel : Nat) (cs : List Value) (y : DataW H × List MemPlace) (h : DataW.trod enc Tryz.prog W 0 sp held fuel 71 cs = some y) : ∃ f : Shop, cs = f.cells ∧ f.name.size ≤ 9223372036854775807 := by
  have hl := zFo underlying71 h
  rw [cells71] at hl
  obtain ⟨_, _, h0⟩ := zBm underlying71 h 0 9 0 1 rfl rfl rfl cells9
  obtain ⟨_, _, h1⟩ := zBm underlying71 h 1 3 1 1 rfl rfl rfl cells3
  obtain ⟨_, _, h2⟩ := zBm underlying71 h 2 3 2 1 rfl rfl rfl cells3
  match cs, hl with
  | [c0, c1, c2], _ =>
    obtain ⟨s, e0, _, hs⟩ := DataW.trod_string underlying9 h0
    obtain ⟨x1, e1⟩ := zDr underlying3 h1
    obtain ⟨x2, e2⟩ := zDr underlying3 h2
    simp at e0 e1 e2
    exact ⟨⟨s, x1, x2⟩, by rw [e0, e1, e2]; rfl, by simpa [maxLen] using hs⟩
theorem open_train (fuel : Nat) (cs : List Value) (y : DataW H × List MemPlace) (h : DataW.trod enc Tryz.prog W 0 sp held fuel 55 cs = some y) : ∃ f : Train, cs = f.cells ∧ True := by
  have hl := zFo underlying55 h
  rw [cells55] at hl
  obtain ⟨_, _, h0⟩ := zBm underlying55 h 0 3 0 1 rfl rfl rfl cells3
  obtain ⟨_, _, h1⟩ := zBm underlying55 h 1 3 1 1 rfl rfl rfl cells3
  obtain ⟨_, _, h2⟩ := zBm underlying55 h 2 3 2 1 rfl rfl rfl cells3
  obtain ⟨_, _, h3⟩ := zBm underlying55 h 3 3 3 1 rfl rfl rfl cells3
  match cs, hl with
  | [c0, c1, c2, c3], _ =>
    obtain ⟨x0, e0⟩ := zDr underlying3 h0
    obtain ⟨x1, e1⟩ := zDr underlying3 h1
    obtain ⟨x2, e2⟩ := zDr underlying3 h2
    obtain ⟨x3, e3⟩ := zDr underlying3 h3
    simp at e0 e1 e2 e3
    exact ⟨⟨x0, x1, x2, x3⟩, by rw [e0, e1, e2, e3]; rfl, trivial⟩
theorem open_market {v : Value} {d : DataW H} {ps : List MemPlace} {r : Reach} {b0 : Nat} (hval : Value.okWide Tryz.prog W r b0 31 v) (h : DataW.Trod enc Tryz.prog W 0 sp held 31 v d ps) :
    ∃ (m : Market) (p : At3), v = .agg (m.cells p).toArray ∧ MIn W [] m p := by
  obtain ⟨xs, rfl, hsz⟩ : ∃ xs, v = .agg xs ∧ xs.size = 3 := by
    unfold Value.okWide at hval
    rw [underlying31] at hval
    obtain ⟨cs, h1, h2, _⟩ := hval
    exact ⟨cs, h1, by rw [h2, cells31]⟩
  obtain ⟨fuel, hf⟩ := h
  have hf2 : DataW.trod enc Tryz.prog W 0 sp held fuel 31 xs.toList = some (d, ps) := hf
  obtain ⟨_, _, h0⟩ := zBm underlying31 hf2 0 27 0 1 rfl rfl rfl cells27
  obtain ⟨_, _, h1⟩ := zBm underlying31 hf2 1 28 1 1 rfl rfl rfl cells28
  obtain ⟨_, _, h2⟩ := zBm underlying31 hf2 2 29 2 1 rfl rfl rfl cells29
  obtain ⟨xl, rfl⟩ : ∃ l : List Value, xs = l.toArray := ⟨xs.toList, by simp⟩
  have hl3 : xl.length = 3 := by simpa using hsz
  match xl, hl3 with
  | [c0, c1, c2], _ =>
    obtain ⟨a, ca, la, e0, hsa, hca, hma, hna⟩ := zFj (row := Room.cells) (ok := fun f => f.name.size ≤ 9223372036854775807) underlying27 cells50 (by omega) (fun _ => rfl) open_room h0
    obtain ⟨b, cb, lb, e1, hsb, hcb, hmb, hnb⟩ := zFj (row := Shop.cells) (ok := fun f => f.name.size ≤ 9223372036854775807) underlying28 cells71 (by omega) (fun _ => rfl) open_shop h1
    obtain ⟨c, cc, lc, e2, hsc, hcc, hmc, hnc⟩ := zFj (row := Train.cells) (ok := fun f => True) underlying29 cells55 (by omega) (fun _ => rfl) open_train h2
    simp at e0 e1 e2
    exact ⟨⟨la, lb, lc⟩, ⟨a, ca, b, cb, c, cc⟩, by rw [e0, e1, e2]; rfl, ⟨hsa, hsb, hsc, hma, hmb, hmc, hca, hcb, hcc, hna, hnb⟩⟩
theorem market_nil {m : Market} {p : At3} {d : DataW H} {ps : List MemPlace} (h : DataW.Trod enc Tryz.prog W 0 sp held 31 (.agg (m.cells p).toArray) d ps) : (p.ar = none → p.cr = 0) ∧ (p.az = none → p.cs = 0) ∧ (p.at_ = none → p.ct = 0) := by
  obtain ⟨fuel, hf⟩ := h
  have hf2 : DataW.trod enc Tryz.prog W 0 sp held fuel 31 (m.cells p) = some (d, ps) := hf
  obtain ⟨_, _, h0⟩ := zBm underlying31 hf2 0 27 0 1 rfl rfl rfl cells27
  obtain ⟨_, _, h1⟩ := zBm underlying31 hf2 1 28 1 1 rfl rfl rfl cells28
  obtain ⟨_, _, h2⟩ := zBm underlying31 hf2 2 29 2 1 rfl rfl rfl cells29
  exact ⟨slice_nil underlying27 h0, slice_nil underlying28 h1, slice_nil underlying29 h2⟩
end Go.Proofs.YtjmfdiaafnnlcaaGreat.Lm
