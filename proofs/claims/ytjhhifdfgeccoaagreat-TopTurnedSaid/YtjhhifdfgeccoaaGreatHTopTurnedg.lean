/- Own texts of this claim, joined. No conditions. -/
import Derived.Test.YtjhhifdfgeccoaaGreatHTopTurneda
import Derived.Test.YtjhhifdfgeccoaaGreatHTopTurnedb
import Derived.Test.YtjhhifdfgeccoaaGreatHTopTurnedc
import Derived.Test.YtjhhifdfgeccoaaGreatHTopTurnedd
import Derived.Test.YtjhhifdfgeccoaaGreatHTopTurnede
import Derived.Test.YtjhhifdfgeccoaaGreatHTopTurnedf
/- Plain words of the turn layer's reference: lots of a hold, all that can be of one, its ways, whether there is a truth; the program's truths are the same. No conditions. -/
set_option linter.unusedSimpArgs false
set_option linter.unusedVariables false
namespace Go.Rt.Tu
open Go.Rt.Ha (firstE failE felt spanL upto bit listL fewest Bunch zC8 zD4 felt_snoc zC4 at_ zBv zDu upto_nodup zC2 bit01 bit_iff)
theorem zH2 : ∀ (n : Nat) (lo : Int), upto lo (n + 1) = upto lo n ++ [lo + n]
  | 0, lo => by simp [upto]
  | n + 1, lo => by
    rw [upto, zH2 n (lo + 1), upto, List.cons_append]
    simp only [List.cons.injEq, true_and]
    congr 2
    omega
def ofRTo (c : Cargo) (hold : Int) : Nat → List Int
  | 0 => []
  | i + 1 => if (lotAt c i).hold = hold then ofRTo c hold i ++ [(i : Int)] else ofRTo c hold i
def ofR (c : Cargo) (hold : Int) : List Int := ofRTo c hold c.lots.length
theorem ofR_yes {c : Cargo} {hold : Int} {i : Nat} (hi : i < c.lots.length) (h : c.lots[i].hold = hold) : ofRTo c hold (i + 1) = ofRTo c hold i ++ [(i : Int)] := by rw [ofRTo, zC5 hi, if_pos h]
theorem ofR_no {c : Cargo} {hold : Int} {i : Nat} (hi : i < c.lots.length) (h : ¬ c.lots[i].hold = hold) : ofRTo c hold (i + 1) = ofRTo c hold i := by rw [ofRTo, zC5 hi, if_neg h]
theorem ofR_len (c : Cargo) (hold : Int) : ∀ i, (ofRTo c hold i).length ≤ i
  | 0 => by simp [ofRTo]
  | i + 1 => by have := ofR_len c hold i; rw [ofRTo]; split <;> simp <;> omega
theorem ofR_mem (c : Cargo) (hold : Int) : ∀ (i : Nat) (z : Int), z ∈ ofRTo c hold i ↔ ∃ k : Nat, z = (k : Int) ∧ k < i ∧ (lotAt c k).hold = hold
  | 0, z => by simp [ofRTo]
  | i + 1, z => by
    have ih := ofR_mem c hold i z
    rw [ofRTo]
    split
    · rename_i h
      rw [List.mem_append, ih, List.mem_singleton]
      constructor
      · rintro (⟨k, h1, h2, h3⟩ | rfl)
        · exact ⟨k, h1, by omega, h3⟩
        · exact ⟨i, rfl, by omega, h⟩
      · rintro ⟨k, h1, h2, h3⟩
        by_cases e : k = i
        · subst e; exact .inr h1
        · exact .inl ⟨k, h1, by omega, h3⟩
    · rename_i h
      rw [ih]
      constructor
      · rintro ⟨k, h1, h2, h3⟩; exact ⟨k, h1, by omega, h3⟩
      · rintro ⟨k, h1, h2, h3⟩
        by_cases e : k = i
        · subst e; exact absurd h3 h
        · exact ⟨k, h1, by omega, h3⟩
theorem ofR_nodup (c : Cargo) (hold : Int) : ∀ i, (ofRTo c hold i).Nodup
  | 0 => .nil
  | i + 1 => by
    have ih := ofR_nodup c hold i
    rw [ofRTo]
    split
    · rw [List.nodup_append]
      refine ⟨ih, by simp, fun a ha b hb => ?_⟩
      obtain ⟨k, h1, h2, _⟩ := (ofR_mem c hold i a).1 ha
      rw [List.mem_singleton] at hb
      omega
    · exact ih
theorem ofR_lis (c : Cargo) (hold : Int) : Lis c (ofR c hold) := ⟨ofR_nodup .., fun z hz => by obtain ⟨k, h1, h2, _⟩ := (ofR_mem c hold _ z).1 hz; exact ⟨k, h1, h2⟩⟩
theorem of_bit (c : Cargo) (hold : Int) : ∀ n i, (ofTo c hold n).testBit i = (decide (i < n) && decide ((lotAt c i).hold = hold))
  | 0, i => by simp [ofTo]
  | n + 1, i => by
    have ih := of_bit c hold n i
    rw [ofTo]
    split
    · rename_i h
      rw [Nat.testBit_or, ih, Nat.shiftLeft_eq, Nat.one_mul, Nat.testBit_two_pow]
      by_cases e : n = i
      · subst e; simp [h]
      · by_cases e2 : i < n
        · simp [e, e2, show i < n + 1 by omega]
        · simp [e, e2, show ¬ i < n + 1 by omega]
    · rename_i h
      rw [ih]
      by_cases e : n = i
      · subst e; simp [h]
      · by_cases e2 : i < n
        · simp [e, e2, show i < n + 1 by omega]
        · simp [e, e2, show ¬ i < n + 1 by omega]
theorem bit_zero (m i : Nat) : bit m i = 0 ↔ m.testBit i = false := by
  have h := bit_iff m i
  have h2 := bit01 m i
  cases hb : m.testBit i with
  | true => rw [hb] at h; have := h.2 rfl; simp; omega
  | false => rw [hb] at h; simp; rcases h2 with h2 | h2
             · exact h2
             · exact absurd (h.1 h2) (by simp)
theorem of_bit0 {c : Cargo} {hold : Int} {i : Nat} (hi : i < c.lots.length) : bit (ofH c hold) i = 0 ↔ ¬ (lotAt c i).hold = hold := by
  rw [bit_zero, ofH, of_bit]; simp [hi]
def bunR (c : Cargo) (hold : Nat) (i : Nat) : Bunch := bunAt c (ofH c hold) i
def feltC (c : Cargo) (hold i : Nat) : List (List Int) := felt ((bun c (ofH c hold)).take i)
def cNext (b : Bunch) (h : List Int) : List (List Int) := (spanL b.lo b.hi).map fun n => h ++ [n]
def cTo (b : Bunch) (ws : List (List Int)) (k : Nat) : List (List Int) := (ws.take k).flatMap (cNext b)
def cPart (b : Bunch) (h : List Int) (q : Nat) : List (List Int) := (upto b.lo q).map fun n => h ++ [n]
theorem feltC_zero (c : Cargo) (hold : Nat) : feltC c hold 0 = [[]] := rfl
theorem feltC_step {c : Cargo} {hold i : Nat} (hi : i < c.lots.length) : cTo (bunR c hold i) (feltC c hold i) (feltC c hold i).length = feltC c hold (i + 1) := by
  unfold cTo feltC
  have h2 : i < (bun c (ofH c hold)).length := by rw [zFa]; exact hi
  rw [List.take_length, List.take_succ_eq_append_getElem h2, felt_snoc, bun_get hi]; rfl
theorem cTo_succ {b : Bunch} {ws : List (List Int)} {k : Nat} (hk : k < ws.length) : cTo b ws (k + 1) = cTo b ws k ++ cNext b ws[k] := by
  unfold cTo; rw [List.take_succ_eq_append_getElem hk, List.flatMap_append]; simp
theorem cPart_succ (b : Bunch) (h : List Int) (q : Nat) : cPart b h (q + 1) = cPart b h q ++ [h ++ [b.lo + q]] := by unfold cPart; rw [zH2, List.map_append]; rfl
theorem cPart_all {b : Bunch} {h : List Int} {q : Nat} (hq : q = (b.hi + 1 - b.lo).toNat) : cPart b h q = cNext b h := by subst hq; rfl
theorem cPart_len (b : Bunch) (h : List Int) (q : Nat) : (cPart b h q).length = q := by simp [cPart, zFm]
theorem cTo_len {b : Bunch} {ws : List (List Int)} (hb : b.hi + 1 - b.lo ≤ 4) (k : Nat) : (cTo b ws k).length ≤ 4 * ws.length := by
  have h1 : (cTo b ws k).length ≤ (ws.take k).length * 4 := zI9 fun x _ => by unfold cNext spanL; rw [List.length_map, zFm]; omega
  have h2 : (ws.take k).length ≤ ws.length := by rw [List.length_take]; omega
  have h3 : (ws.take k).length * 4 ≤ ws.length * 4 := Nat.mul_le_mul_right 4 h2
  omega
theorem bunR_in {c : Cargo} (hc : c.Ok) {hold i : Nat} (hi : i < c.lots.length) : 0 ≤ (bunR c hold i).lo ∧ (bunR c hold i).lo ≤ (bunR c hold i).hi ∧ (bunR c hold i).hi ≤ 40 ∧ (bunR c hold i).lo = c.lots[i].lo ∧ (bunR c hold i).hi = (if c.lots[i].hold = hold then c.lots[i].hi else c.lots[i].lo) ∧ (bunR c hold i).hi + 1 - (bunR c hold i).lo ≤ 4 := by
  have h := bun_in hc (m := ofH c hold) hi
  have h3 : (bunAt c (ofH c hold) i).hi = (if c.lots[i].hold = hold then c.lots[i].hi else c.lots[i].lo) := by
    show (if bit (ofH c hold) i = 0 then (lotAt c i).lo else (lotAt c i).hi) = _
    have hb := of_bit0 (hold := (hold : Int)) hi
    rw [zC5 hi] at hb ⊢
    by_cases e : c.lots[i].hold = (hold : Int)
    · rw [if_neg (fun x => hb.1 x e), if_pos e]
    · rw [if_pos (hb.2 e), if_neg e]
  refine ⟨h.1, h.2.1, h.2.2.1, h.2.2.2, h3, ?_⟩
  have ho := hc.lot _ (List.getElem_mem hi)
  have h5 := ho.w
  show (bunAt c (ofH c hold) i).hi + 1 - (bunAt c (ofH c hold) i).lo ≤ 4
  rw [h3, h.2.2.2]
  split <;> omega
theorem feltC_len {c : Cargo} (hc : c.Ok) {hold i : Nat} (hi : i ≤ c.lots.length) : (feltC c hold i).length ≤ 256 := by
  have h1 := felt_len4 (bs := (bun c (ofH c hold)).take i) (fun b hb => by
    obtain ⟨k, hk, he⟩ := List.getElem_of_mem (List.mem_of_mem_take hb)
    rw [zFa] at hk
    rw [← he, bun_get hk]
    exact (bunR_in hc (hold := hold) hk).2.2.2.2.2)
  have hll := hc.ll
  have h2 : ((bun c (ofH c hold)).take i).length ≤ 4 := by rw [List.length_take, zFa]; omega
  have h3 : 4 ^ ((bun c (ofH c hold)).take i).length ≤ 4 ^ 4 := Nat.pow_le_pow_right (by omega) h2
  unfold feltC; omega
theorem feltC_in {c : Cargo} {hold i : Nat} (hi : i ≤ c.lots.length) {h : List Int} (hh : h ∈ feltC c hold i) : h.length = i := by
  have := ((zD4 _ _).1 hh).1
  rw [List.length_take, zFa, Nat.min_eq_left hi] at this; exact this
theorem feltC_all (c : Cargo) (hold : Nat) : feltC c hold c.lots.length = felt (bun c (ofH c hold)) := by unfold feltC; rw [List.take_of_length_le (by rw [zFa]; omega)]
def warmPart (c : Cargo) (hold : Nat) (w : Int) (k : Nat) : List (Int × List Int) := ((felt (bun c (ofH c hold))).take k).map fun g => (w, g)
def warmTo (c : Cargo) (hold : Nat) (q : Nat) : List (Int × List Int) := (upto (holdAt c hold).1 q).flatMap fun w => (felt (bun c (ofH c hold))).map fun g => (w, g)
def allR (c : Cargo) (hold : Nat) : List (Int × List Int) := warmTo c hold ((holdAt c hold).2 + 1 - (holdAt c hold).1).toNat
theorem zHa {c : Cargo} {hold : Nat} {w : Int} {k : Nat} (hk : k < (felt (bun c (ofH c hold))).length) : warmPart c hold w (k + 1) = warmPart c hold w k ++ [(w, (felt (bun c (ofH c hold)))[k])] := by
  unfold warmPart; rw [List.take_succ_eq_append_getElem hk, List.map_append]; rfl
theorem warmTo_succ (c : Cargo) (hold q : Nat) : warmTo c hold (q + 1) = warmTo c hold q ++ warmPart c hold ((holdAt c hold).1 + q) (felt (bun c (ofH c hold))).length := by
  unfold warmTo warmPart; rw [zH2, List.flatMap_append, List.take_length]; simp
theorem warmTo_len {c : Cargo} (hc : c.Ok) {hold : Nat} : ∀ q, (warmTo c hold q).length ≤ q * 256 := by
  intro q
  have hf := feltC_len hc (hold := hold) (Nat.le_refl _)
  rw [feltC_all] at hf
  have := zI9 (f := fun w => (felt (bun c (ofH c hold))).map fun g => (w, g)) (k := 256) (l := upto (holdAt c hold).1 q) fun x _ => by rw [List.length_map]; exact hf
  rw [zFm] at this
  exact this
def soTo (c : Cargo) (hold : Int) (t : List Int) : Nat → Bool
  | 0 => true
  | k + 1 => if (lotAt c (seenAt c k).lot.toNat).hold = hold then soTo c hold t k && (decide (t.getD (seenAt c k).lot.toNat 0 ≤ (seenAt c k).hour) == (seenAt c k).turned) else soTo c hold t k
def soR (c : Cargo) (hold : Int) (t : List Int) : Bool := soTo c hold t c.seen.length
theorem soTo_no {c : Cargo} {hold : Int} {t : List Int} {k : Nat} (hk : k < c.seen.length) {l : Lot} (hl : lotAt c c.seen[k].lot.toNat = l) (h : ¬ l.hold = hold) : soTo c hold t (k + 1) = soTo c hold t k := by subst hl; rw [soTo, seen_at hk, if_neg h]
theorem zE0 {c : Cargo} {hold : Int} {t : List Int} {k : Nat} (hk : k < c.seen.length) {l : Lot} (hl : lotAt c c.seen[k].lot.toNat = l) (h : l.hold = hold) : soTo c hold t (k + 1) = (soTo c hold t k && (decide (t.getD c.seen[k].lot.toNat 0 ≤ c.seen[k].hour) == c.seen[k].turned)) := by subst hl; rw [soTo, seen_at hk, if_pos h]
def wayOk (c : Cargo) (hold : Nat) (x : Int × List Int) : Bool := soR c hold (rTimes c (ofR c hold) x.1 x.2)
def waysR (c : Cargo) (hold : Nat) : List (Int × List Int) := (allR c hold).filter (wayOk c hold)
theorem okAt_0 {c : Cargo} {hold : Int} {t : List Int} {k : Nat} : okAt c 0 hold t k = if (lotAt c (seenAt c k).lot.toNat).hold = hold then (decide (t.getD (seenAt c k).lot.toNat 0 ≤ (seenAt c k).hour) == (seenAt c k).turned) else true := by
  unfold okAt
  have : bit 0 k = 0 := by simp [bit]
  rw [this]
  by_cases h : (lotAt c (seenAt c k).lot.toNat).hold = hold
  · rw [if_pos h]
    cases decide (t.getD (seenAt c k).lot.toNat 0 ≤ (seenAt c k).hour) <;> cases (seenAt c k).turned <;> simp [h]
  · rw [if_neg h]; simp [h]
theorem so_same {c : Cargo} (hc : c.Ok) {hold : Int} {t t2 : List Int} (h : ∀ i : Nat, i < c.lots.length → (lotAt c i).hold = hold → t.getD i 0 = t2.getD i 0) : ∀ k, k ≤ c.seen.length → soTo c hold t2 k = seenTo c 0 hold t k
  | 0, _ => rfl
  | k + 1, hk => by
    have ih := so_same hc h k (by omega)
    have hk2 : k < c.seen.length := by omega
    rw [soTo, seenTo, okAt_0, ih]
    split
    · rename_i e
      have hs := hc.seen _ (List.getElem_mem hk2)
      obtain ⟨h1, h2, _⟩ := hs
      rw [h _ (by rw [seen_at hk2]; omega) e]
    · simp
theorem same_mk {c : Cargo} (hc : c.Ok) {hold : Nat} (hh : hold < c.holds.length) {w : Int} {g : List Int} (hg : g ∈ felt (bun c (ofH c hold))) : Same c (ofR c hold) (mkS hold w (ofH c hold) g) g := by
  have hgl := (zGf hc hg).1
  have hll := hc.ll
  have h5 := zGm (h := g) (by omega)
  have hm : mkS hold w (ofH c hold) g = mkG hold w (pad5 g) (ofH c hold) := rfl
  refine ⟨ofR_lis c hold, by omega, by rw [hm]; exact zG4 h5, hgl, fun i hi => ?_, fun i hi => ?_⟩
  · rw [hm]
    unfold tt
    rw [mkG_t h5, show ((ofH c hold : Nat) : Int).toNat = ofH c hold from rfl, of_bit0 hi, ofR, ofR_mem]
    constructor
    · intro h; exact ⟨i, rfl, hi, by simpa using h⟩
    · rintro ⟨k, h1, _, h3⟩; have : k = i := by omega
      subst this; simpa using h3
  · rw [hm, mkG_g h5 (by omega), pad5_at]
theorem time_same {c : Cargo} (hc : c.Ok) {hold : Nat} (hh : hold < c.holds.length) {w : Int} {g : List Int} (hg : g ∈ felt (bun c (ofH c hold))) {i : Nat} (hi : i < c.lots.length) (e : (lotAt c i).hold = hold) :
    tOf c (mkS hold w (ofH c hold) g) i = (rTimes c (ofR c hold) w g).getD i 0 := by
  have h := times_ref (same_mk hc hh (w := w) hg) hi ((ofR_mem _ _ _ _).2 ⟨i, rfl, hi, e⟩)
  exact h
theorem way_ok {c : Cargo} (hc : c.Ok) {hold : Nat} (hh : hold < c.holds.length) {w : Int} {g : List Int} (hg : g ∈ felt (bun c (ofH c hold))) : wayOk c hold (w, g) = okS c 0 hold (mkS hold w (ofH c hold) g) := by
  unfold wayOk okS soR seenOk
  exact so_same hc (fun i hi e => time_same hc hh hg hi e) _ (Nat.le_refl _)
theorem truths_ref {c : Cargo} (hc : c.Ok) {hold : Nat} (hh : hold < c.holds.length) : truths c 0 hold = (waysR c hold).map fun x => mkS hold x.1 (ofH c hold) x.2 := by
  unfold truths waysR allR warmTo
  have key : ∀ ws : List Int, (ws.flatMap fun w => (allW c hold w).filter (okS c 0 hold)) = ((ws.flatMap fun w => (felt (bun c (ofH c hold))).map fun g => (w, g)).filter (wayOk c hold)).map fun x => mkS hold x.1 (ofH c hold) x.2 := by
    intro ws
    induction ws with
    | nil => rfl
    | cons w ws ih =>
      rw [List.flatMap_cons, List.flatMap_cons, List.filter_append, List.map_append, ih]
      congr 1
      unfold allW
      rw [List.filter_map, List.filter_map, List.map_map]
      have : (felt (bun c (ofH c hold))).filter (okS c 0 hold ∘ mkS hold w (ofH c hold)) = (felt (bun c (ofH c hold))).filter (wayOk c hold ∘ fun g => (w, g)) := by
        apply List.filter_congr
        intro g hg
        exact (way_ok hc hh hg).symm
      rw [this]
      apply List.map_congr_left
      intro g hg; rfl
  exact key _
theorem ways_len {c : Cargo} (hc : c.Ok) {hold : Nat} (hh : hold < c.holds.length) : (waysR c hold).length = (truths c 0 hold).length := by rw [truths_ref hc hh, List.length_map]
theorem all_in {c : Cargo} {hold : Nat} {x : Int × List Int} (h : x ∈ allR c hold) : x.2 ∈ felt (bun c (ofH c hold)) ∧ (holdAt c hold).1 ≤ x.1 ∧ x.1 ≤ (holdAt c hold).2 := by
  unfold allR warmTo at h
  rw [List.mem_flatMap] at h
  obtain ⟨w, hw, hx⟩ := h
  obtain ⟨g, hg, rfl⟩ := List.mem_map.1 hx
  have h2 := zBv.1 (show w ∈ spanL (holdAt c hold).1 (holdAt c hold).2 from hw)
  exact ⟨hg, h2.1, h2.2⟩
end Go.Rt.Tu
/- Plain words of the turn layer's reference, step by step, as the walk of it needs them. No conditions. -/
namespace Go.Rt.Tu
open Go.Rt.Ha (firstE failE felt spanL upto bit listL fewest Bunch zC8 zD4 felt_snoc zC4 at_ zBv zDu upto_nodup zC2 bit01 bit_iff)
def fillR (n : Nat) (z : Int) : Nat → List Int
  | 0 => List.replicate n 0
  | i + 1 => (fillR n z i).set i z
theorem zFo (n : Nat) (z : Int) : ∀ i, (fillR n z i).length = n
  | 0 => by simp [fillR]
  | i + 1 => by rw [fillR, List.length_set, zFo n z i]
theorem fillR_at (n : Nat) (z : Int) (k : Nat) (hk : k < n) : ∀ i, (fillR n z i).getD k 0 = if k < i then z else 0
  | 0 => by simp [fillR, List.getD, hk]
  | i + 1 => by
    have ih := fillR_at n z k hk i
    have hl := zFo n z i
    rw [fillR]
    by_cases e : i = k
    · subst e; rw [zEh (by omega), if_pos (by omega)]
    · rw [getD_set_ne e, ih]
      by_cases e2 : k < i
      · rw [if_pos e2, if_pos (by omega)]
      · rw [if_neg e2, if_neg (by omega)]
theorem fillR_all (n : Nat) (z : Int) : fillR n z n = List.replicate n z := by
  refine List.ext_getElem (by simp [zFo]) fun k h1 h2 => ?_
  have hk : k < n := by rw [zFo] at h1; exact h1
  have h := fillR_at n z k hk n
  rw [if_pos hk, List.getD, List.getElem?_eq_getElem h1] at h
  simpa using h
def hasD (l : List Int) (z : Int) : Bool := decide (z ∈ l)
theorem zHs {l : List Int} {z : Int} {i : Nat} (hi : i < l.length) : hasD (l.take (i + 1)) z = (hasD (l.take i) z || decide (l[i] = z)) := by
  unfold hasD
  rw [Bool.eq_iff_iff, decide_eq_true_eq, zEn hi, Bool.or_eq_true, decide_eq_true_eq, decide_eq_true_eq]
  constructor
  · rintro (h | h)
    · exact .inl h
    · exact .inr h.symm
  · rintro (h | h)
    · exact .inl h
    · exact .inr h.symm
theorem mark_no {c : Cargo} {h : Nat} {left ls out : List Int} {k j : Nat} (hk : k < ls.length) (hj : ls[k] = (j : Int)) (hjl : j < c.lots.length) (hn : ¬ ((rMark c h left ls out k).getD j 0 = never c ∧ c.lots[j].frm ≤ (h : Int) ∧ left.getD j 0 ≤ 0)) :
    rMark c h left ls out (k + 1) = rMark c h left ls out k := by
  rw [rMark, rMarkS, zFf hk, hj, show ((j : Int)).toNat = j from rfl, zC5 hjl, if_neg hn]
theorem zI8 {c : Cargo} {h : Nat} {left ls out : List Int} {k j : Nat} (hk : k < ls.length) (hj : ls[k] = (j : Int)) (hjl : j < c.lots.length) (h1 : (rMark c h left ls out k).getD j 0 = never c) (h2 : c.lots[j].frm ≤ (h : Int)) (h3 : left.getD j 0 ≤ 0) :
    (rMark c h left ls out k).set j (h : Int) = rMark c h left ls out (k + 1) := by
  rw [rMark, rMarkS, zFf hk, hj, show ((j : Int)).toNat = j from rfl, zC5 hjl, if_pos ⟨h1, h2, h3⟩]
theorem gas_yes {h : Nat} {out ls : List Int} {k j : Nat} {b : Bool} (hk : k < ls.length) (hj : ls[k] = (j : Int)) (hb : rGas h out ls k = b) : rGas h out ls (k + 1) = (b || decide (out.getD j 0 ≤ (h : Int))) := by
  rw [rGas, zFf hk, hj, show ((j : Int)).toNat = j from rfl, hb]
theorem dec_no {c : Cargo} {h : Nat} {warm : Int} {left ls out : List Int} {k j : Nat} (hk : k < ls.length) (hj : ls[k] = (j : Int)) (hjl : j < c.lots.length) (hn : ¬ out.getD j 0 = never c ∨ (h : Int) < c.lots[j].frm) :
    rDec c h warm out ls left (k + 1) = rDec c h warm out ls left k := by
  rw [rDec, rDecS, zFf hk, hj, show ((j : Int)).toNat = j from rfl, zC5 hjl, if_pos hn]
theorem dec_yes {c : Cargo} {h : Nat} {warm : Int} {left ls out : List Int} {k j : Nat} {g : Bool} (hk : k < ls.length) (hj : ls[k] = (j : Int)) (hjl : j < c.lots.length) (h1 : out.getD j 0 = never c) (h2 : c.lots[j].frm ≤ (h : Int)) (hg : rGas h out ls ls.length = g) :
    rDec c h warm out ls left (k + 1) = (rDec c h warm out ls left k).set j ((rDec c h warm out ls left k).getD j 0 - rTake c h warm g) := by
  rw [rDec, rDecS, zFf hk, hj, show ((j : Int)).toNat = j from rfl, zC5 hjl, if_neg (by rintro (x | x); exact x h1; omega), hg]
theorem dec_a {c : Cargo} {h : Nat} (hh : h < c.heat.length) {warm : Int} {left ls out : List Int} {k j : Nat} (hk : k < ls.length) (hj : ls[k] = (j : Int)) (hjl : j < c.lots.length) (h1 : out.getD j 0 = never c) (h2 : c.lots[j].frm ≤ (h : Int)) (hg : rGas h out ls ls.length = false) :
    (rDec c h warm out ls left k).set j ((rDec c h warm out ls left k).getD j 0 - c.heat[h] - warm) = rDec c h warm out ls left (k + 1) := by
  rw [dec_yes hk hj hjl h1 h2 hg]
  congr 1
  unfold rTake
  rw [heat_at hh]
  simp; omega
theorem dec_b {c : Cargo} {h : Nat} (hh : h < c.heat.length) {warm : Int} {left ls out : List Int} {k j : Nat} (hk : k < ls.length) (hj : ls[k] = (j : Int)) (hjl : j < c.lots.length) (hlen : left.length = c.lots.length) (h1 : out.getD j 0 = never c) (h2 : c.lots[j].frm ≤ (h : Int)) (hg : rGas h out ls ls.length = true) :
    ((rDec c h warm out ls left k).set j ((rDec c h warm out ls left k).getD j 0 - c.heat[h] - warm)).set j (((rDec c h warm out ls left k).set j ((rDec c h warm out ls left k).getD j 0 - c.heat[h] - warm)).getD j 0 - c.gas) = rDec c h warm out ls left (k + 1) := by
  have hl := zFh c h warm out ls left k
  rw [dec_yes hk hj hjl h1 h2 hg, List.set_set, zEh (by omega)]
  congr 1
  unfold rTake
  rw [heat_at hh]
  simp; omega
def Bd (h : Nat) (l : List Int) : Prop := ∀ i, -12 * (h : Int) ≤ l.getD i 0 ∧ l.getD i 0 ≤ 40
theorem bd_dec {c : Cargo} (hc : c.TOk) {ls : List Int} (hl : Lis c ls) {warm : Int} (hw : 0 ≤ warm ∧ warm ≤ 6) {h : Nat} (hh : h < c.heat.length) {out left : List Int} (hlen : left.length = c.lots.length) (hb : Bd h left) {k : Nat} (hk : k ≤ ls.length) : Bd (h + 1) (rDec c h warm out ls left k) := by
  intro i
  have hbi := hb i
  by_cases hi : i < c.lots.length
  · rw [dec_at hl hlen hi k hk]
    have h1 := hc.heat _ (List.getElem_mem hh)
    have h2 := hc.gas
    have h3 : 0 ≤ rTake c h warm (rGas h out ls ls.length) ∧ rTake c h warm (rGas h out ls ls.length) ≤ 12 := by
      unfold rTake; rw [heat_at hh]; split <;> omega
    split <;> omega
  · have h1 := zFh c h warm out ls left k
    have h2 : (rDec c h warm out ls left k).getD i 0 = 0 := by
      rw [List.getD, List.getElem?_eq_none (by omega)]; rfl
    rw [h2]; omega
theorem bd_hour {c : Cargo} (hc : c.TOk) {ls : List Int} (hl : Lis c ls) {warm : Int} (hw : 0 ≤ warm ∧ warm ≤ 6) {greens : List Int} (hg : greens.length = c.lots.length) (hb : ∀ i, 0 ≤ greens.getD i 0 ∧ greens.getD i 0 ≤ 40) : ∀ h, h ≤ c.heat.length → Bd h (rHourTo c warm ls greens h).2
  | 0, _ => fun i => by have := hb i; show -12 * ((0 : Nat) : Int) ≤ greens.getD i 0 ∧ greens.getD i 0 ≤ 40; omega
  | h + 1, hh => by
    have ih := bd_hour hc hl hw hg hb h (by omega)
    have hlen := zIc c warm ls greens h
    rw [rHourTo, rHour]
    exact bd_dec hc hl hw (by omega) (by omega) ih (Nat.le_refl _)
theorem zCd {α : Type} {err : List α → α → Int} {lo most : Int} {l : List α} (h : ¬ (lo ≤ (l.length : Int) ∧ (l.length : Int) ≤ most)) : failE err lo most l = (0,3) := by
  unfold failE out; rw [if_pos (by simp; omega)]
theorem zBq {α : Type} {err : List α → α → Int} {lo most : Int} {l : List α} (h : lo ≤ (l.length : Int) ∧ (l.length : Int) ≤ most) : failE err lo most l = firstE err [] 0 l := by
  unfold failE out; rw [if_neg (by simp; omega)]
theorem zDi {bf : List Int} {n : Int} (h : ¬ (0 ≤ n ∧ n ≤ 3)) : heatE bf n = 7 := by unfold heatE out; rw [if_pos (by simp; omega)]
theorem heat_ok {bf : List Int} {n : Int} (h : 0 ≤ n ∧ n ≤ 3) : heatE bf n = 0 := by unfold heatE out; rw [if_neg (by simp; omega)]
theorem zF9 {c : Cargo} {bf : List Look} {s : Look} (h : ¬ (0 ≤ s.lot ∧ s.lot ≤ (c.lots.length : Int) - 1)) : seenE c bf s = 4 := by unfold seenE out; rw [if_pos (by simp; omega)]
theorem zF8 {c : Cargo} {bf : List Look} {s : Look} (h : 0 ≤ s.lot ∧ s.lot ≤ (c.lots.length : Int) - 1) (hi : s.lot.toNat < c.lots.length) (h2 : ¬ (c.lots[s.lot.toNat].frm ≤ s.hour ∧ s.hour ≤ (c.heat.length : Int))) : seenE c bf s = 7 := by
  unfold seenE out; rw [if_neg (by simp; omega), zC5 hi, if_pos (by simp; omega)]
theorem seen_3 {c : Cargo} {bf : List Look} {s : Look} (h : 0 ≤ s.lot ∧ s.lot ≤ (c.lots.length : Int) - 1) (hi : s.lot.toNat < c.lots.length) (h2 : c.lots[s.lot.toNat].frm ≤ s.hour ∧ s.hour ≤ (c.heat.length : Int)) : seenE c bf s = 0 := by
  unfold seenE out; rw [if_neg (by simp; omega), zC5 hi, if_neg (by simp; omega)]
theorem zD9 (s : Int × Int) (m : Int) : widthE s m = if ends s.1 s.2 0 m = 0 ∧ 3 < s.2 - s.1 then 2 else ends s.1 s.2 0 m := by
  unfold widthE ends out
  simp only [Bool.or_eq_true, decide_eq_true_eq]
  repeat' split
  all_goals first | rfl | omega
theorem lot_1 {nh ne : Nat} {bf : List Lot} {l : Lot} (h : ¬ (0 ≤ l.hold ∧ l.hold ≤ (nh : Int) - 1)) : lotE nh ne bf l = 4 := by unfold lotE out; rw [if_pos (by simp; omega)]
theorem lot_2 {nh ne : Nat} {bf : List Lot} {l : Lot} (h : 0 ≤ l.hold ∧ l.hold ≤ (nh : Int) - 1) (h2 : ¬ (0 ≤ l.frm ∧ l.frm ≤ (ne : Int))) : lotE nh ne bf l = 7 := by unfold lotE out; rw [if_neg (by simp; omega), if_pos (by simp; omega)]
theorem lot_3 {nh ne : Nat} {bf : List Lot} {l : Lot} (h : 0 ≤ l.hold ∧ l.hold ≤ (nh : Int) - 1) (h2 : 0 ≤ l.frm ∧ l.frm ≤ (ne : Int)) : lotE nh ne bf l = widthE (l.lo, l.hi) 40 := by unfold lotE out; rw [if_neg (by simp; omega), if_neg (by simp; omega)]
theorem ck_a {c : Cargo} {x : Int × Int} (h : failE heatE 0 8 c.heat = x) (hx : x.2 ≠ 0) : check c = (1, x.1, x.2) := by unfold check; rw [h, if_pos hx]
theorem ck_g {c : Cargo} (hA : failE heatE 0 8 c.heat = (0,0)) (h : ¬ (0 ≤ c.gas ∧ c.gas ≤ 3)) : check c = (2,0,7) := by unfold check; rw [hA, if_neg (by simp), if_pos (by unfold out; simp; omega)]
theorem ck_h {c : Cargo} {x : Int × Int} (hA : failE heatE 0 8 c.heat = (0,0)) (hG : 0 ≤ c.gas ∧ c.gas ≤ 3) (h : failE holdE 1 3 c.holds = x) (hx : x.2 ≠ 0) : check c = (3, x.1, x.2) := by
  unfold check; rw [hA, if_neg (by simp), if_neg (by unfold out; simp; omega), h, if_pos hx]
theorem ck_l {c : Cargo} {x : Int × Int} (hA : failE heatE 0 8 c.heat = (0,0)) (hG : 0 ≤ c.gas ∧ c.gas ≤ 3) (hH : failE holdE 1 3 c.holds = (0,0)) (h : failE (lotE c.holds.length c.heat.length) 0 4 c.lots = x) (hx : x.2 ≠ 0) : check c = (4, x.1, x.2) := by
  unfold check; rw [hA, if_neg (by simp), if_neg (by unfold out; simp; omega), hH, if_neg (by simp), h, if_pos hx]
theorem zGy {c : Cargo} {x : Int × Int} (hA : failE heatE 0 8 c.heat = (0,0)) (hG : 0 ≤ c.gas ∧ c.gas ≤ 3) (hH : failE holdE 1 3 c.holds = (0,0)) (hL : failE (lotE c.holds.length c.heat.length) 0 4 c.lots = (0,0)) (h : failE (seenE c) 0 4 c.seen = x) (hx : x.2 ≠ 0) : check c = (5, x.1, x.2) := by
  unfold check; rw [hA, if_neg (by simp), if_neg (by unfold out; simp; omega), hH, if_neg (by simp), hL, if_neg (by simp), h, if_pos hx]
theorem ck_ok {c : Cargo} (hA : failE heatE 0 8 c.heat = (0,0)) (hG : 0 ≤ c.gas ∧ c.gas ≤ 3) (hH : failE holdE 1 3 c.holds = (0,0)) (hL : failE (lotE c.holds.length c.heat.length) 0 4 c.lots = (0,0)) (h : failE (seenE c) 0 4 c.seen = (0,0)) : check c = (0,0,0) := by
  unfold check; rw [hA, if_neg (by simp), if_neg (by unfold out; simp; omega), hH, if_neg (by simp), hL, if_neg (by simp), h, if_neg (by simp)]
end Go.Rt.Tu
set_option maxRecDepth 20000
namespace Go.Proofs.Ur
open Go.Proofs.Tryz
open Go.Rt Go.Rt.Tu Go.Proofs.Ut
open Go.Rt.Ha (firstE zB3 zAp zBn failE felt spanL upto zBv listL bit Bunch)
attribute [local irreducible] WL WC Con Yd At Ats Sl Agree DW

theorem zCl {P : Program} {a : Act} {o : Oper} {w : World} {x y : Option Addr} {l c : Nat} (h : x = y) (hy : Yd P a o w (.slice x l c)) : Yd P a o w (.slice y l c) := h ▸ hy
theorem bi2 {a b : Bool} {c d : Int} (h : a = b) (k : c = d) : [Value.bool a, Value.int .i64 c] = [Value.bool b, Value.int .i64 d] := by rw [h, k]
theorem iv_v {v : Value} {a b : Int} (h : a = b) : [v, Value.int .i64 a] = [v, Value.int .i64 b] := by rw [h]
theorem c12 {w0 w : World} {F : List (Nat × Obj)} (c : Cargo) (p : AtT) (hle : c.heat.length ≤ 9223372036854775806) (hs : St w0 w F) :
  Con Tryz.prog 12 [.agg (c.cells p).toArray] w fun v w' => v = .int .i64 (never c) ∧ St w0 w' F := by
  refine zAo (n := 7) func12 rfl rfl (zNl rfl) ?_
  refine zAf (fun K2 g3 => (zAb (zCj (v := .agg #[.slice _ _ _, .int _ _, .slice _ _ _, .slice _ _ _, .slice _ _ _]) (cs := [_,_,_,_,_]) zAa rfl rfl rfl hs (fun b3 w4 g0 => ?_))))
  refine zBi rfl rfl (zAd (zAc (g3 _ _ (zAf (fun K7 g4 => (zAb (w_p (zAe (o := 0) (i := 0) underlying27 rfl sizeOf22 rfl rfl rfl) rfl (w_p (zAg isAgg22 g0 rfl rfl (aow 0 [_])) rfl ?_))))))))
  refine w_p (zBc underlying22 rfl rfl) rfl (w_p (zBo rfl rfl rfl rfl (by omega) (by omega)) rfl (zBw rfl rfl (zAd (zAc (g4 _ _ (zA8 (zBa (l := [.tmp 2]) (vs := [_]) rfl ⟨⟨rfl, (rfl : _ = Value.int _ _)⟩, trivial⟩ ?_)))))))
  exact ⟨rfl, g0.tail⟩

theorem c17 {w0 w : World} {F : List (Nat × Obj)} (s : Int × Int) (m : Int) (hmm : 0 ≤ m ∧ m ≤ 1000) (hs : St w0 w F) :
  Con Tryz.prog 17 [.agg (scells s).toArray, .int .i64 m] w fun v w' => v = .int .i64 (widthE s m) ∧ St w0 w' F := by
  refine zAo (n := 20) func17 rfl rfl (zNl rfl) ?_
  refine zAf (fun K2 g8 => (zAb (zCj (v := .agg #[.int _ _, .int _ _]) (cs := [_,_]) zAa rfl rfl rfl hs (fun b3 w4 g6 => ?_))))
  refine zBi rfl rfl (zAd (zAc (g8 _ _ (zAf (fun K7 g9 => (zAb (w_p (zA2 (vs := [_,_]) isAgg36 sizeOf36 g6 rfl rfl (aow 0 [_,_])) rfl (zA6 rfl rfl ?_))))))))
  refine zCo zAa call47 rfl rfl rfl rfl (c47 _ _ _ _ g6) (fun w9 g0 => ?_)
  refine zBw rfl rfl (zAd (zAc (g9 _ _ (zAf (fun ge g3 => (zAf (fun gf g7 => ?_)))))))
  have hq : 0 ≤ s.1 ∨ ¬ 0 ≤ s.1 := by omega
  refine zAb (zA6 rfl rfl (w_p (zCa rfl rfl rfl rfl) rfl (w_p (zAt rfl rfl) rfl (zB5 (fun g4 => ?_) (fun g4 => ?_)))))
  ·
   try simp only [zS] at g4
   refine w_y rfl rfl rfl (zAe (o := 1) (i := 1) underlying36 rfl sizeOf3 rfl rfl rfl) rfl ?_
   refine w_y rfl rfl rfl (zAg isAgg3 g0 rfl rfl (aow 0 [_])) rfl ?_
   refine w_y rfl rfl rfl (zAe (o := 0) (i := 0) underlying36 rfl sizeOf3 rfl rfl rfl) rfl ?_
   refine w_y rfl rfl rfl (zAg isAgg3 g0 rfl rfl (aow 0 [_])) rfl ?_
   have heq : ends s.1 s.2 0 m = 0 := by assumption
   have heb : 0 ≤ s.1 ∧ s.1 ≤ 1000 ∧ 0 ≤ s.2 ∧ s.2 ≤ 1000 := by
     unfold ends out at heq
     simp only [Bool.or_eq_true, decide_eq_true_eq] at heq
     split at heq
     · cases heq
     · omega
   refine w_y rfl rfl rfl (zFb rfl rfl rfl rfl (by omega) (by omega)) rfl ?_
   refine w_y rfl rfl rfl (zEf rfl rfl rfl rfl) rfl ?_
   refine w_p (zA5 (v := .bool _) rfl rfl rfl rfl) rfl (zAd (zAc (g7 _ _ (zAr rfl rfl (fun g5 => ?_) (fun g5 => ?_)))))
   ·
    try simp only [zS] at g5
    refine zAb (zBi rfl rfl (zAd (zAc (g3 _ _ (zAf (fun gg ga => (zAb (zA6 rfl rfl (zBw rfl rfl (zAd (zAc (ga _ _ (zA8 (zBa (l := [.tmp 4]) (vs := [_]) rfl ⟨⟨rfl, (rfl : _ = Value.int _ _)⟩, trivial⟩ ?_))))))))))))))
    first
      | exact ⟨congrArg (Value.int .i64) (by rw [zD9, if_pos ⟨by assumption, by omega⟩]), g0.tail⟩
      | exact ⟨congrArg (Value.int .i64) (by rw [zD9, if_neg (fun x => by have := x.2; omega)]), g0.tail⟩
      | exact ⟨congrArg (Value.int .i64) (by rw [zD9, if_neg (fun x => absurd x.1 (by assumption))]), g0.tail⟩
   try simp only [zS] at g5
   refine zAn (zAc (g3 _ _ (zAf (fun gh gc => (zAb (zA6 rfl rfl (zBw rfl rfl (zAd (zAc (gc _ _ (zA8 (zBa (l := [.tmp 4]) (vs := [_]) rfl ⟨⟨rfl, (rfl : _ = Value.int _ _)⟩, trivial⟩ ?_))))))))))))
   first
     | exact ⟨congrArg (Value.int .i64) (by rw [zD9, if_pos ⟨by assumption, by omega⟩]), g0.tail⟩
     | exact ⟨congrArg (Value.int .i64) (by rw [zD9, if_neg (fun x => by have := x.2; omega)]), g0.tail⟩
     | exact ⟨congrArg (Value.int .i64) (by rw [zD9, if_neg (fun x => absurd x.1 (by assumption))]), g0.tail⟩
  try simp only [zS] at g4
  refine zAm rfl rfl rfl ?_
  refine zAm rfl rfl rfl ?_
  refine zAm rfl rfl rfl ?_
  refine zAm rfl rfl rfl ?_
  refine zAm rfl rfl rfl ?_
  refine zAm rfl rfl rfl ?_
  refine w_p (zBg (v := _) rfl rfl rfl rfl) rfl (zAd (zAc (g7 _ _ (zBs rfl rfl ?_))))
  refine zAn (zAc (g3 _ _ (zAf (fun gi gd => (zAb (zA6 rfl rfl (zBw rfl rfl (zAd (zAc (gd _ _ (zA8 (zBa (l := [.tmp 4]) (vs := [_]) rfl ⟨⟨rfl, (rfl : _ = Value.int _ _)⟩, trivial⟩ ?_))))))))))))
  first
    | exact ⟨congrArg (Value.int .i64) (by rw [zD9, if_pos ⟨by assumption, by omega⟩]), g0.tail⟩
    | exact ⟨congrArg (Value.int .i64) (by rw [zD9, if_neg (fun x => by have := x.2; omega)]), g0.tail⟩
    | exact ⟨congrArg (Value.int .i64) (by rw [zD9, if_neg (fun x => absurd x.1 (by assumption))]), g0.tail⟩

theorem c18 {w0 w : World} {F : List (Nat × Obj)} (c : Cargo) (p : AtT) (hm : TIn w0 F c p) (l : Tu.Lot) (bf : List Tu.Lot) (hs : St w0 w F) :
  Con Tryz.prog 18 [.agg (c.cells p).toArray, .agg l.cells.toArray] w fun v w' => v = .int .i64 (lotE c.holds.length c.heat.length bf l) ∧ St w0 w' F := by
  refine zAo (n := 23) func18 rfl rfl (zNl rfl) ?_
  have hle := hm.le
  have hlh := hm.lh
  refine zAf (fun K2 g8 => (zAb (zCj (v := .agg #[.slice _ _ _, .int _ _, .slice _ _ _, .slice _ _ _, .slice _ _ _]) (cs := [_,_,_,_,_]) zAa rfl rfl rfl hs (fun b3 w4 g9 => ?_))))
  refine zCj (v := .agg #[.int _ _, .int _ _, .int _ _, .int _ _]) (cs := [_,_,_,_]) zAa rfl rfl rfl g9 (fun b6 w7 g4 => ?_)
  refine zBi rfl rfl (zAd (zAc (g8 _ _ (zAf (fun gi ga => (zAf (fun gj gc => (zAb (w_p (zAe (o := 0) (i := 0) underlying38 rfl sizeOf3 rfl rfl rfl) rfl ?_)))))))))
  refine w_p (zAg isAgg3 g4 rfl rfl (aow 0 [_])) rfl (w_p (zAe (o := 2) (i := 2) underlying27 rfl sizeOf23 rfl rfl rfl) rfl (w_p (zAg isAgg23 g4 rfl rfl (aow 1 [_])) rfl (w_p (zBc underlying23 rfl rfl) rfl (w_p (zFb rfl rfl rfl rfl (by omega) (by omega)) rfl ?_))))
  refine zCo zAa call13 rfl rfl rfl rfl (c13 _ _ _ g4) (fun gk g0 => ?_)
  refine w_p (zDo rfl rfl) rfl (zAd (zAc (gc _ _ (zAr rfl rfl (fun g5 => ?_) (fun g5 => ?_)))))
  ·
   try simp only [zS] at g5
   refine zAf (fun gm gd => (zAb (zBi rfl rfl (zAd (zAc (gd _ _ (zA8 (zAl (zBa (l := [.tmp 4]) (vs := [_]) rfl ⟨⟨rfl, (rfl : _ = Value.int _ _)⟩, trivial⟩ ?_)))))))))
   first
     | exact ⟨congrArg (Value.int .i64) (lot_1 (by assumption)).symm, g0.tail.tail⟩
     | exact ⟨congrArg (Value.int .i64) (lot_2 (by assumption) (by assumption)).symm, g0.tail.tail⟩
     | exact ⟨congrArg (Value.int .i64) (lot_3 (by assumption) (by assumption)).symm, g0.tail.tail⟩
  try simp only [zS] at g5
  refine zAn (zAc (ga _ _ (zAf (fun gn ge => (zAf (fun go gf => (zAb (w_p (zAe (o := 1) (i := 1) underlying38 rfl sizeOf3 rfl rfl rfl) rfl (w_p (zAg isAgg3 g0 rfl rfl (aow 0 [_])) rfl ?_)))))))))
  refine w_p (zAe (o := 0) (i := 0) underlying27 rfl sizeOf22 rfl rfl rfl) rfl (w_p (zAg isAgg22 g0 rfl rfl (aow 1 [_])) rfl (w_p (zBc underlying22 rfl rfl) rfl ?_))
  refine zCo zAa call13 rfl rfl rfl rfl (c13 _ _ _ g0) (fun gp g3 => ?_)
  refine w_p (zDo rfl rfl) rfl (zAd (zAc (gf _ _ (zAr rfl rfl (fun g6 => ?_) (fun g6 => ?_)))))
  ·
   try simp only [zS] at g6
   refine zAf (fun gq gg => (zAb (zBi rfl rfl (zAd (zAc (gg _ _ (zA8 (zAl (zBa (l := [.tmp 4]) (vs := [_]) rfl ⟨⟨rfl, (rfl : _ = Value.int _ _)⟩, trivial⟩ ?_)))))))))
   first
     | exact ⟨congrArg (Value.int .i64) (lot_1 (by assumption)).symm, g3.tail.tail⟩
     | exact ⟨congrArg (Value.int .i64) (lot_2 (by assumption) (by assumption)).symm, g3.tail.tail⟩
     | exact ⟨congrArg (Value.int .i64) (lot_3 (by assumption) (by assumption)).symm, g3.tail.tail⟩
  try simp only [zS] at g6
  refine zAn (zAc (ge _ _ (zAf (fun gt gh => (zAb (w_p (zAe (o := 2) (i := 2) underlying38 rfl sizeOf36 rfl rfl rfl) rfl (w_p (zA2 (vs := [_,_]) isAgg36 sizeOf36 g3 rfl rfl (aow 0 [_,_])) rfl ?_)))))))
  refine zCo zAa call17 rfl rfl rfl rfl (c17 (l.lo, l.hi) 40 (by omega) g3) (fun gu g7 => ?_)
  refine zBw rfl rfl (zAd (zAc (gh _ _ (zA8 (zBa (l := [.tmp 4]) (vs := [_]) rfl ⟨⟨rfl, (rfl : _ = Value.int _ _)⟩, trivial⟩ ?_)))))
  first
    | exact ⟨congrArg (Value.int .i64) (lot_1 (by assumption)).symm, g7.tail.tail⟩
    | exact ⟨congrArg (Value.int .i64) (lot_2 (by assumption) (by assumption)).symm, g7.tail.tail⟩
    | exact ⟨congrArg (Value.int .i64) (lot_3 (by assumption) (by assumption)).symm, g7.tail.tail⟩

theorem c4 {w0 w : World} {F : List (Nat × Obj)} (c : Cargo) (p : AtT) (hm : TIn w0 F c p)  (hs : St w0 w F) :
  Con Tryz.prog 4 [.agg (c.cells p).toArray] w fun v w' => v = .tuple #[.int .i64 (check c).1, .int .i64 (check c).2.1, .int .i64 (check c).2.2] ∧ St w0 w' F := by
  refine zAo (n := 119) func4 rfl rfl (zNl rfl) ?_
  obtain ⟨ae, ce, ah, ch, al, cl, an, cn⟩ := p
  have hle := hm.le
  have hlh := hm.lh
  have hll := hm.ll
  have hln := hm.ln
  refine zAf (fun K2 gv => (zAb (zCj (v := .agg #[.slice _ _ _, .int _ _, .slice _ _ _, .slice _ _ _, .slice _ _ _]) (cs := [_,_,_,_,_]) zAa rfl rfl rfl hs (fun b3 w4 g0 => ?_))))
  refine zBi rfl rfl (zBi rfl rfl (zBi rfl rfl (zAd (zAc (gv _ _ (zAf (fun K7 gw => (zAf (fun K9 gx => (zAb (w_p (zAe (o := 0) (i := 0) underlying27 rfl sizeOf22 rfl rfl rfl) rfl ?_)))))))))))
  refine w_p (zAg isAgg22 g0 rfl rfl (aow 0 [_])) rfl (w_p (zBc underlying22 rfl rfl) rfl (w_p (zEf rfl rfl rfl rfl) rfl (zAd ?_)))
  refine zAc (gx _ _ (zAr rfl rfl (fun gd => ?_) (fun gd => ?_)))
  ·
   try simp only [zS] at gd
   refine zAf (fun jl gy => (zAb (zBi rfl rfl (zBi rfl rfl (zBi rfl rfl (zAd (zAc (gy _ _ (zA8 (zAl (zBa (l := [.tmp 2, .tmp 3, .tmp 4]) (vs := [_,_,_]) rfl ⟨⟨rfl, (rfl : _ = Value.int _ _)⟩, ⟨rfl, (rfl : _ = Value.int _ _)⟩, ⟨rfl, (rfl : _ = Value.int _ _)⟩, trivial⟩ ?_)))))))))))
   first
     | exact ⟨tup3 (ck_a (zCd (by omega)) (by decide)), g0.tail⟩
     | exact ⟨tup3 (ck_a (x := ((i : Int), 7)) ((zBq (by omega : 0 ≤ (c.heat.length : Int) ∧ (c.heat.length : Int) ≤ 8)).trans (hinv.trans ((zAp hi2 (by rw [zDi (by assumption)]; decide)).trans (by rw [zDi (by assumption)])))) (by show ¬ (7 : Int) = 0; decide)), g0.tail⟩
     | exact ⟨tup3 (ck_g hA (by assumption)), g0.tail⟩
     | exact ⟨tup3 (ck_h hA (by assumption) (zCd (by omega)) (by decide)), g0.tail⟩
     | exact ⟨tup3 (ck_h hA (by assumption) ((zBq (by omega : 1 ≤ (c.holds.length : Int) ∧ (c.holds.length : Int) ≤ 3)).trans (hinv.trans (zAp hi2 (by assumption)))) (by assumption)), g0.tail⟩
     | exact ⟨tup3 (ck_l hA (by assumption) hH (zCd (by omega)) (by decide)), g0.tail⟩
     | exact ⟨tup3 (ck_l hA (by assumption) hH ((zBq (by omega : 0 ≤ (c.lots.length : Int) ∧ (c.lots.length : Int) ≤ 4)).trans (hinv.trans (zAp hi2 (by assumption)))) (by assumption)), g0.tail⟩
     | exact ⟨tup3 (zGy hA (by assumption) hH hL (zCd (by omega)) (by decide)), g0.tail⟩
     | (have hce := zF9 (bf := c.seen.take i) (by assumption : ¬ (0 ≤ c.seen[i].lot ∧ c.seen[i].lot ≤ (c.lots.length : Int) - 1))
        exact ⟨tup3 (zGy (x := ((i : Int), 4)) hA (by assumption) hH hL ((zBq (by omega : 0 ≤ (c.seen.length : Int) ∧ (c.seen.length : Int) ≤ 4)).trans (hinv.trans ((zAp hi2 (by rw [hce]; decide)).trans (by rw [hce])))) (by show ¬ (4 : Int) = 0; decide)), g0.tail⟩)
     | (have hce := zF8 (bf := c.seen.take i) (by assumption : 0 ≤ c.seen[i].lot ∧ c.seen[i].lot ≤ (c.lots.length : Int) - 1) hj2 (by assumption)
        exact ⟨tup3 (zGy (x := ((i : Int), 7)) hA (by assumption) hH hL ((zBq (by omega : 0 ≤ (c.seen.length : Int) ∧ (c.seen.length : Int) ≤ 4)).trans (hinv.trans ((zAp hi2 (by rw [hce]; decide)).trans (by rw [hce])))) (by show ¬ (7 : Int) = 0; decide)), g0.tail⟩)
     | exact ⟨tup3 (ck_ok hA (by assumption) hH hL ((zBq (by omega : 0 ≤ (c.seen.length : Int) ∧ (c.seen.length : Int) ≤ 4)).trans (hinv.trans (zBn (by omega) _)))), g0.tail⟩
  try simp only [zS] at gd
  refine zAn (zAc (gw _ _ (zAf (fun jm gz => (zAf (fun jo gA => (zAb (zBi rfl rfl (zAd (zAc (gA _ _ (zAq ?_))))))))))))
  refine zB6 [2,3,4,5,16,17,18,19,20,21,22,23,24,25,26,27,28,29,30] [5] (fun k vs w => ∃ (i : Nat), vs = [.int .i64 i] ∧ i ≤ c.heat.length ∧ k = c.heat.length - i ∧ firstE heatE [] 0 c.heat = firstE heatE (c.heat.take i) i (c.heat.drop i) ∧ St w0 w ((b3, blk 27 (c.cells ⟨ae, ce, ah, ch, al, cl, an, cn⟩)) :: F)) (c.heat.length) ?_ ?_
  ·
   exact ⟨0, rfl, by omega, by omega, rfl, g0⟩
  intro k vs μ jp hI jq gB
  try clear hia hinv
  obtain ⟨i, rfl, hia, rfl, hinv, hs⟩ := hI
  refine zAf (fun jr gC => (zAf (fun js gD => (zAb (zA6 rfl rfl (w_p (zAe (o := 0) (i := 0) underlying27 rfl sizeOf22 rfl rfl rfl) rfl (w_p (zAg isAgg22 hs rfl rfl (aow 0 [_])) rfl ?_)))))))
  refine w_p (zBc underlying22 rfl rfl) rfl (w_p (zCp rfl rfl rfl rfl) rfl (zAd (zAc (gD _ _ (zAr rfl rfl (fun ge => ?_) (fun ge => ?_))))))
  ·
   try simp only [zS] at ge
   refine zAn (zAc (gC _ _ (zAf (fun jt gE => (zAq ?_)))))
   refine zAf (fun ju gF => ?_)
   have hi2 : i < c.heat.length := by omega
   obtain ⟨bx, ox, rfl, hx⟩ := zCx hm.e hi2
   refine zAb (w_p (zAe (o := 0) (i := 0) underlying27 rfl sizeOf22 rfl rfl rfl) rfl (w_p (zAg isAgg22 hs rfl rfl (aow 0 [_])) rfl (zA6 rfl rfl (w_p (zA7 underlying22 sizeOf3 rfl rfl rfl rfl (i := _) rfl (by omega)) rfl ?_))))
   refine w_p (zAg isAgg3 hs.tail rfl rfl hx) rfl (zCo zAa call13 rfl rfl rfl rfl (c13 _ _ _ hs) (fun jv g6 => ?_))
   refine w_p (zDo rfl rfl) rfl (zAd (zAc (gF _ _ (zAr rfl rfl (fun gf => ?_) (fun gf => ?_)))))
   ·
    try simp only [zS] at gf
    refine zAf (fun jw gG => (zAb (zA6 rfl rfl (zBi rfl rfl (zBw rfl rfl (zBi rfl rfl (zAd (zAc (gG _ _ (zA8 (zA9 (zAl (zAl (zA9 (zAl (zBa (l := [.tmp 2, .tmp 3, .tmp 4]) (vs := [_,_,_]) rfl ⟨⟨rfl, (rfl : _ = Value.int _ _)⟩, ⟨rfl, (rfl : _ = Value.int _ _)⟩, ⟨rfl, (rfl : _ = Value.int _ _)⟩, trivial⟩ ?_))))))))))))))))
    first
      | exact ⟨tup3 (ck_a (zCd (by omega)) (by decide)), g6.tail⟩
      | exact ⟨tup3 (ck_a (x := ((i : Int), 7)) ((zBq (by omega : 0 ≤ (c.heat.length : Int) ∧ (c.heat.length : Int) ≤ 8)).trans (hinv.trans ((zAp hi2 (by rw [zDi (by assumption)]; decide)).trans (by rw [zDi (by assumption)])))) (by show ¬ (7 : Int) = 0; decide)), g6.tail⟩
      | exact ⟨tup3 (ck_g hA (by assumption)), g6.tail⟩
      | exact ⟨tup3 (ck_h hA (by assumption) (zCd (by omega)) (by decide)), g6.tail⟩
      | exact ⟨tup3 (ck_h hA (by assumption) ((zBq (by omega : 1 ≤ (c.holds.length : Int) ∧ (c.holds.length : Int) ≤ 3)).trans (hinv.trans (zAp hi2 (by assumption)))) (by assumption)), g6.tail⟩
      | exact ⟨tup3 (ck_l hA (by assumption) hH (zCd (by omega)) (by decide)), g6.tail⟩
      | exact ⟨tup3 (ck_l hA (by assumption) hH ((zBq (by omega : 0 ≤ (c.lots.length : Int) ∧ (c.lots.length : Int) ≤ 4)).trans (hinv.trans (zAp hi2 (by assumption)))) (by assumption)), g6.tail⟩
      | exact ⟨tup3 (zGy hA (by assumption) hH hL (zCd (by omega)) (by decide)), g6.tail⟩
      | (have hce := zF9 (bf := c.seen.take i) (by assumption : ¬ (0 ≤ c.seen[i].lot ∧ c.seen[i].lot ≤ (c.lots.length : Int) - 1))
         exact ⟨tup3 (zGy (x := ((i : Int), 4)) hA (by assumption) hH hL ((zBq (by omega : 0 ≤ (c.seen.length : Int) ∧ (c.seen.length : Int) ≤ 4)).trans (hinv.trans ((zAp hi2 (by rw [hce]; decide)).trans (by rw [hce])))) (by show ¬ (4 : Int) = 0; decide)), g6.tail⟩)
      | (have hce := zF8 (bf := c.seen.take i) (by assumption : 0 ≤ c.seen[i].lot ∧ c.seen[i].lot ≤ (c.lots.length : Int) - 1) hj2 (by assumption)
         exact ⟨tup3 (zGy (x := ((i : Int), 7)) hA (by assumption) hH hL ((zBq (by omega : 0 ≤ (c.seen.length : Int) ∧ (c.seen.length : Int) ≤ 4)).trans (hinv.trans ((zAp hi2 (by rw [hce]; decide)).trans (by rw [hce])))) (by show ¬ (7 : Int) = 0; decide)), g6.tail⟩)
      | exact ⟨tup3 (ck_ok hA (by assumption) hH hL ((zBq (by omega : 0 ≤ (c.seen.length : Int) ∧ (c.seen.length : Int) ≤ 4)).trans (hinv.trans (zBn (by omega) _)))), g6.tail⟩
   try simp only [zS] at gf
   refine zAn (zAi (zAc (gE _ _ (zAb (zA6 rfl rfl (w_p (zBo rfl rfl rfl rfl (by omega) (by omega)) rfl (zBw rfl rfl (zAd (zAc (gB _ _ (nxI (c.heat.length - (i + 1)) (by omega) ?_)))))))))))
   exact ⟨i + 1, rfl, by omega, rfl, hinv.trans (zB3 hi2 (heat_ok (by assumption))), g6⟩
  try simp only [zS] at ge
  refine zBt (zAj (zAj (zAv (zAc (gz _ _ (zAf (fun jx gH => (zAf (fun jy gI => ?_)))))))))
  have hA : failE heatE 0 8 c.heat = (0,0) := (zBq (by omega : 0 ≤ (c.heat.length : Int) ∧ (c.heat.length : Int) ≤ 8)).trans (hinv.trans (zBn (by omega) _))
  refine zAb (w_p (zAe (o := 1) (i := 1) underlying27 rfl sizeOf3 rfl rfl rfl) rfl (w_p (zAg isAgg3 hs rfl rfl (aow 0 [_])) rfl ?_))
  refine zCo zAa call13 rfl rfl rfl rfl (c13 _ _ _ hs) (fun jz g3 => ?_)
  refine w_p (zDo rfl rfl) rfl (zAd (zAc (gI _ _ (zAr rfl rfl (fun gg => ?_) (fun gg => ?_)))))
  ·
   try simp only [zS] at gg
   refine zAf (fun jA gJ => (zAb (zBi rfl rfl (zBi rfl rfl (zBi rfl rfl (zAd (zAc (gJ _ _ (zA8 (zAl (zBa (l := [.tmp 2, .tmp 3, .tmp 4]) (vs := [_,_,_]) rfl ⟨⟨rfl, (rfl : _ = Value.int _ _)⟩, ⟨rfl, (rfl : _ = Value.int _ _)⟩, ⟨rfl, (rfl : _ = Value.int _ _)⟩, trivial⟩ ?_)))))))))))
   first
     | exact ⟨tup3 (ck_a (zCd (by omega)) (by decide)), g3.tail⟩
     | exact ⟨tup3 (ck_a (x := ((i : Int), 7)) ((zBq (by omega : 0 ≤ (c.heat.length : Int) ∧ (c.heat.length : Int) ≤ 8)).trans (hinv.trans ((zAp hi2 (by rw [zDi (by assumption)]; decide)).trans (by rw [zDi (by assumption)])))) (by show ¬ (7 : Int) = 0; decide)), g3.tail⟩
     | exact ⟨tup3 (ck_g hA (by assumption)), g3.tail⟩
     | exact ⟨tup3 (ck_h hA (by assumption) (zCd (by omega)) (by decide)), g3.tail⟩
     | exact ⟨tup3 (ck_h hA (by assumption) ((zBq (by omega : 1 ≤ (c.holds.length : Int) ∧ (c.holds.length : Int) ≤ 3)).trans (hinv.trans (zAp hi2 (by assumption)))) (by assumption)), g3.tail⟩
     | exact ⟨tup3 (ck_l hA (by assumption) hH (zCd (by omega)) (by decide)), g3.tail⟩
     | exact ⟨tup3 (ck_l hA (by assumption) hH ((zBq (by omega : 0 ≤ (c.lots.length : Int) ∧ (c.lots.length : Int) ≤ 4)).trans (hinv.trans (zAp hi2 (by assumption)))) (by assumption)), g3.tail⟩
     | exact ⟨tup3 (zGy hA (by assumption) hH hL (zCd (by omega)) (by decide)), g3.tail⟩
     | (have hce := zF9 (bf := c.seen.take i) (by assumption : ¬ (0 ≤ c.seen[i].lot ∧ c.seen[i].lot ≤ (c.lots.length : Int) - 1))
        exact ⟨tup3 (zGy (x := ((i : Int), 4)) hA (by assumption) hH hL ((zBq (by omega : 0 ≤ (c.seen.length : Int) ∧ (c.seen.length : Int) ≤ 4)).trans (hinv.trans ((zAp hi2 (by rw [hce]; decide)).trans (by rw [hce])))) (by show ¬ (4 : Int) = 0; decide)), g3.tail⟩)
     | (have hce := zF8 (bf := c.seen.take i) (by assumption : 0 ≤ c.seen[i].lot ∧ c.seen[i].lot ≤ (c.lots.length : Int) - 1) hj2 (by assumption)
        exact ⟨tup3 (zGy (x := ((i : Int), 7)) hA (by assumption) hH hL ((zBq (by omega : 0 ≤ (c.seen.length : Int) ∧ (c.seen.length : Int) ≤ 4)).trans (hinv.trans ((zAp hi2 (by rw [hce]; decide)).trans (by rw [hce])))) (by show ¬ (7 : Int) = 0; decide)), g3.tail⟩)
     | exact ⟨tup3 (ck_ok hA (by assumption) hH hL ((zBq (by omega : 0 ≤ (c.seen.length : Int) ∧ (c.seen.length : Int) ≤ 4)).trans (hinv.trans (zBn (by omega) _)))), g3.tail⟩
  try simp only [zS] at gg
  refine zAn (zAc (gH _ _ (zAf (fun jB gK => (zAf (fun jC gL => (zAb (w_p (zAe (o := 2) (i := 2) underlying27 rfl sizeOf23 rfl rfl rfl) rfl (w_p (zAg isAgg23 g3 rfl rfl (aow 0 [_])) rfl ?_)))))))))
  refine w_p (zBc underlying23 rfl rfl) rfl (zCo zAa call13 rfl rfl rfl rfl (c13 _ _ _ g3) (fun jD g7 => ?_))
  refine w_p (zDo rfl rfl) rfl (zAd (zAc (gL _ _ (zAr rfl rfl (fun gh => ?_) (fun gh => ?_)))))
  ·
   try simp only [zS] at gh
   refine zAf (fun jE gM => (zAb (zBi rfl rfl (zBi rfl rfl (zBi rfl rfl (zAd (zAc (gM _ _ (zA8 (zAl (zBa (l := [.tmp 2, .tmp 3, .tmp 4]) (vs := [_,_,_]) rfl ⟨⟨rfl, (rfl : _ = Value.int _ _)⟩, ⟨rfl, (rfl : _ = Value.int _ _)⟩, ⟨rfl, (rfl : _ = Value.int _ _)⟩, trivial⟩ ?_)))))))))))
   first
     | exact ⟨tup3 (ck_a (zCd (by omega)) (by decide)), g7.tail⟩
     | exact ⟨tup3 (ck_a (x := ((i : Int), 7)) ((zBq (by omega : 0 ≤ (c.heat.length : Int) ∧ (c.heat.length : Int) ≤ 8)).trans (hinv.trans ((zAp hi2 (by rw [zDi (by assumption)]; decide)).trans (by rw [zDi (by assumption)])))) (by show ¬ (7 : Int) = 0; decide)), g7.tail⟩
     | exact ⟨tup3 (ck_g hA (by assumption)), g7.tail⟩
     | exact ⟨tup3 (ck_h hA (by assumption) (zCd (by omega)) (by decide)), g7.tail⟩
     | exact ⟨tup3 (ck_h hA (by assumption) ((zBq (by omega : 1 ≤ (c.holds.length : Int) ∧ (c.holds.length : Int) ≤ 3)).trans (hinv.trans (zAp hi2 (by assumption)))) (by assumption)), g7.tail⟩
     | exact ⟨tup3 (ck_l hA (by assumption) hH (zCd (by omega)) (by decide)), g7.tail⟩
     | exact ⟨tup3 (ck_l hA (by assumption) hH ((zBq (by omega : 0 ≤ (c.lots.length : Int) ∧ (c.lots.length : Int) ≤ 4)).trans (hinv.trans (zAp hi2 (by assumption)))) (by assumption)), g7.tail⟩
     | exact ⟨tup3 (zGy hA (by assumption) hH hL (zCd (by omega)) (by decide)), g7.tail⟩
     | (have hce := zF9 (bf := c.seen.take i) (by assumption : ¬ (0 ≤ c.seen[i].lot ∧ c.seen[i].lot ≤ (c.lots.length : Int) - 1))
        exact ⟨tup3 (zGy (x := ((i : Int), 4)) hA (by assumption) hH hL ((zBq (by omega : 0 ≤ (c.seen.length : Int) ∧ (c.seen.length : Int) ≤ 4)).trans (hinv.trans ((zAp hi2 (by rw [hce]; decide)).trans (by rw [hce])))) (by show ¬ (4 : Int) = 0; decide)), g7.tail⟩)
     | (have hce := zF8 (bf := c.seen.take i) (by assumption : 0 ≤ c.seen[i].lot ∧ c.seen[i].lot ≤ (c.lots.length : Int) - 1) hj2 (by assumption)
        exact ⟨tup3 (zGy (x := ((i : Int), 7)) hA (by assumption) hH hL ((zBq (by omega : 0 ≤ (c.seen.length : Int) ∧ (c.seen.length : Int) ≤ 4)).trans (hinv.trans ((zAp hi2 (by rw [hce]; decide)).trans (by rw [hce])))) (by show ¬ (7 : Int) = 0; decide)), g7.tail⟩)
     | exact ⟨tup3 (ck_ok hA (by assumption) hH hL ((zBq (by omega : 0 ≤ (c.seen.length : Int) ∧ (c.seen.length : Int) ≤ 4)).trans (hinv.trans (zBn (by omega) _)))), g7.tail⟩
  try simp only [zS] at gh
  refine zAn (zAc (gK _ _ (zAf (fun jF gN => (zAf (fun jG gO => (zAb (zBi rfl rfl (zAd (zAc (gO _ _ (zAq ?_))))))))))))
  refine zB6 [2,3,4,6,7,40,41,42,43,44,45,46,47,48,49,50,51,52,53,54,55,56] [6] (fun k vs w => ∃ (i : Nat), vs = [.int .i64 i] ∧ i ≤ c.holds.length ∧ k = c.holds.length - i ∧ firstE holdE [] 0 c.holds = firstE holdE (c.holds.take i) i (c.holds.drop i) ∧ St w0 w ((b3, blk 27 (c.cells ⟨ae, ce, ah, ch, al, cl, an, cn⟩)) :: F)) (c.holds.length) ?_ ?_
  ·
   exact ⟨0, rfl, by omega, by omega, rfl, g7⟩
  intro k vs μ jH hI jI gP
  try clear hia hinv
  obtain ⟨i, rfl, hia, rfl, hinv, hs⟩ := hI
  refine zAf (fun jJ gQ => (zAf (fun jK gR => (zAb (zA6 rfl rfl (w_p (zAe (o := 2) (i := 2) underlying27 rfl sizeOf23 rfl rfl rfl) rfl (w_p (zAg isAgg23 hs rfl rfl (aow 0 [_])) rfl ?_)))))))
  refine w_p (zBc underlying23 rfl rfl) rfl (w_p (zCp rfl rfl rfl rfl) rfl (zAd (zAc (gR _ _ (zAr rfl rfl (fun gi => ?_) (fun gi => ?_))))))
  ·
   try simp only [zS] at gi
   refine zAn (zAc (gQ _ _ (zAf (fun jL gS => (zAq ?_)))))
   refine zAf (fun jM gT => ?_)
   have hi2 : i < c.holds.length := by omega
   obtain ⟨bx, ox, rfl, hx⟩ := zI1 hm.h hi2
   refine zAb (w_p (zAe (o := 2) (i := 2) underlying27 rfl sizeOf23 rfl rfl rfl) rfl (w_p (zAg isAgg23 hs rfl rfl (aow 0 [_])) rfl (zA6 rfl rfl (w_p (zA7 underlying23 sizeOf36 rfl rfl rfl rfl (i := _) rfl (by omega)) rfl ?_))))
   refine w_p (zA2 (vs := [_,_]) isAgg36 sizeOf36 hs.tail rfl rfl hx) rfl (zCo zAa call17 rfl rfl rfl rfl (c17 c.holds[i] 6 (by omega) hs) (fun jN g8 => ?_))
   refine zBw rfl rfl (zAd (zAc (gT _ _ (zAf (fun jO gU => (zAb (zA6 rfl rfl (w_p (zCs rfl rfl rfl rfl) rfl (zAd (zAc (gU _ _ (zAr rfl rfl (fun gj => ?_) (fun gj => ?_)))))))))))))
   ·
    try simp only [zS] at gj
    refine zAf (fun jP gV => (zAb (zA6 rfl rfl (zA6 rfl rfl (zBi rfl rfl (zBw rfl rfl (zBw rfl rfl (zAd (zAc (gV _ _ (zA8 (zA9 (zAl (zAl (zA9 (zAl (zBa (l := [.tmp 2, .tmp 3, .tmp 4]) (vs := [_,_,_]) rfl ⟨⟨rfl, (rfl : _ = Value.int _ _)⟩, ⟨rfl, (rfl : _ = Value.int _ _)⟩, ⟨rfl, (rfl : _ = Value.int _ _)⟩, trivial⟩ ?_)))))))))))))))))
    first
      | exact ⟨tup3 (ck_a (zCd (by omega)) (by decide)), g8.tail⟩
      | exact ⟨tup3 (ck_a (x := ((i : Int), 7)) ((zBq (by omega : 0 ≤ (c.heat.length : Int) ∧ (c.heat.length : Int) ≤ 8)).trans (hinv.trans ((zAp hi2 (by rw [zDi (by assumption)]; decide)).trans (by rw [zDi (by assumption)])))) (by show ¬ (7 : Int) = 0; decide)), g8.tail⟩
      | exact ⟨tup3 (ck_g hA (by assumption)), g8.tail⟩
      | exact ⟨tup3 (ck_h hA (by assumption) (zCd (by omega)) (by decide)), g8.tail⟩
      | exact ⟨tup3 (ck_h hA (by assumption) ((zBq (by omega : 1 ≤ (c.holds.length : Int) ∧ (c.holds.length : Int) ≤ 3)).trans (hinv.trans (zAp hi2 (by assumption)))) (by assumption)), g8.tail⟩
      | exact ⟨tup3 (ck_l hA (by assumption) hH (zCd (by omega)) (by decide)), g8.tail⟩
      | exact ⟨tup3 (ck_l hA (by assumption) hH ((zBq (by omega : 0 ≤ (c.lots.length : Int) ∧ (c.lots.length : Int) ≤ 4)).trans (hinv.trans (zAp hi2 (by assumption)))) (by assumption)), g8.tail⟩
      | exact ⟨tup3 (zGy hA (by assumption) hH hL (zCd (by omega)) (by decide)), g8.tail⟩
      | (have hce := zF9 (bf := c.seen.take i) (by assumption : ¬ (0 ≤ c.seen[i].lot ∧ c.seen[i].lot ≤ (c.lots.length : Int) - 1))
         exact ⟨tup3 (zGy (x := ((i : Int), 4)) hA (by assumption) hH hL ((zBq (by omega : 0 ≤ (c.seen.length : Int) ∧ (c.seen.length : Int) ≤ 4)).trans (hinv.trans ((zAp hi2 (by rw [hce]; decide)).trans (by rw [hce])))) (by show ¬ (4 : Int) = 0; decide)), g8.tail⟩)
      | (have hce := zF8 (bf := c.seen.take i) (by assumption : 0 ≤ c.seen[i].lot ∧ c.seen[i].lot ≤ (c.lots.length : Int) - 1) hj2 (by assumption)
         exact ⟨tup3 (zGy (x := ((i : Int), 7)) hA (by assumption) hH hL ((zBq (by omega : 0 ≤ (c.seen.length : Int) ∧ (c.seen.length : Int) ≤ 4)).trans (hinv.trans ((zAp hi2 (by rw [hce]; decide)).trans (by rw [hce])))) (by show ¬ (7 : Int) = 0; decide)), g8.tail⟩)
      | exact ⟨tup3 (ck_ok hA (by assumption) hH hL ((zBq (by omega : 0 ≤ (c.seen.length : Int) ∧ (c.seen.length : Int) ≤ 4)).trans (hinv.trans (zBn (by omega) _)))), g8.tail⟩
   try simp only [zS] at gj
   refine zAn (zAi (zAc (gS _ _ (zAb (zA6 rfl rfl (w_p (zBo rfl rfl rfl rfl (by omega) (by omega)) rfl (zBw rfl rfl (zAd (zAc (gP _ _ (nxI (c.holds.length - (i + 1)) (by omega) ?_)))))))))))
   exact ⟨i + 1, rfl, by omega, rfl, hinv.trans (zB3 hi2 (by assumption)), g8⟩
  try simp only [zS] at gi
  refine zBt (zAj (zAj (zAv (zAc (gN _ _ (zAf (fun jQ gW => (zAf (fun jR gX => ?_)))))))))
  have hH : failE holdE 1 3 c.holds = (0,0) := (zBq (by omega : 1 ≤ (c.holds.length : Int) ∧ (c.holds.length : Int) ≤ 3)).trans (hinv.trans (zBn (by omega) _))
  refine zAb (w_p (zAe (o := 3) (i := 3) underlying27 rfl sizeOf24 rfl rfl rfl) rfl (w_p (zAg isAgg24 hs rfl rfl (aow 0 [_])) rfl (w_p (zBc underlying24 rfl rfl) rfl (w_p (zEf rfl rfl rfl rfl) rfl (zAd ?_)))))
  refine zAc (gX _ _ (zAr rfl rfl (fun gk => ?_) (fun gk => ?_)))
  ·
   try simp only [zS] at gk
   refine zAf (fun jS gY => (zAb (zBi rfl rfl (zBi rfl rfl (zBi rfl rfl (zAd (zAc (gY _ _ (zA8 (zAl (zBa (l := [.tmp 2, .tmp 3, .tmp 4]) (vs := [_,_,_]) rfl ⟨⟨rfl, (rfl : _ = Value.int _ _)⟩, ⟨rfl, (rfl : _ = Value.int _ _)⟩, ⟨rfl, (rfl : _ = Value.int _ _)⟩, trivial⟩ ?_)))))))))))
   first
     | exact ⟨tup3 (ck_a (zCd (by omega)) (by decide)), hs.tail⟩
     | exact ⟨tup3 (ck_a (x := ((i : Int), 7)) ((zBq (by omega : 0 ≤ (c.heat.length : Int) ∧ (c.heat.length : Int) ≤ 8)).trans (hinv.trans ((zAp hi2 (by rw [zDi (by assumption)]; decide)).trans (by rw [zDi (by assumption)])))) (by show ¬ (7 : Int) = 0; decide)), hs.tail⟩
     | exact ⟨tup3 (ck_g hA (by assumption)), hs.tail⟩
     | exact ⟨tup3 (ck_h hA (by assumption) (zCd (by omega)) (by decide)), hs.tail⟩
     | exact ⟨tup3 (ck_h hA (by assumption) ((zBq (by omega : 1 ≤ (c.holds.length : Int) ∧ (c.holds.length : Int) ≤ 3)).trans (hinv.trans (zAp hi2 (by assumption)))) (by assumption)), hs.tail⟩
     | exact ⟨tup3 (ck_l hA (by assumption) hH (zCd (by omega)) (by decide)), hs.tail⟩
     | exact ⟨tup3 (ck_l hA (by assumption) hH ((zBq (by omega : 0 ≤ (c.lots.length : Int) ∧ (c.lots.length : Int) ≤ 4)).trans (hinv.trans (zAp hi2 (by assumption)))) (by assumption)), hs.tail⟩
     | exact ⟨tup3 (zGy hA (by assumption) hH hL (zCd (by omega)) (by decide)), hs.tail⟩
     | (have hce := zF9 (bf := c.seen.take i) (by assumption : ¬ (0 ≤ c.seen[i].lot ∧ c.seen[i].lot ≤ (c.lots.length : Int) - 1))
        exact ⟨tup3 (zGy (x := ((i : Int), 4)) hA (by assumption) hH hL ((zBq (by omega : 0 ≤ (c.seen.length : Int) ∧ (c.seen.length : Int) ≤ 4)).trans (hinv.trans ((zAp hi2 (by rw [hce]; decide)).trans (by rw [hce])))) (by show ¬ (4 : Int) = 0; decide)), hs.tail⟩)
     | (have hce := zF8 (bf := c.seen.take i) (by assumption : 0 ≤ c.seen[i].lot ∧ c.seen[i].lot ≤ (c.lots.length : Int) - 1) hj2 (by assumption)
        exact ⟨tup3 (zGy (x := ((i : Int), 7)) hA (by assumption) hH hL ((zBq (by omega : 0 ≤ (c.seen.length : Int) ∧ (c.seen.length : Int) ≤ 4)).trans (hinv.trans ((zAp hi2 (by rw [hce]; decide)).trans (by rw [hce])))) (by show ¬ (7 : Int) = 0; decide)), hs.tail⟩)
     | exact ⟨tup3 (ck_ok hA (by assumption) hH hL ((zBq (by omega : 0 ≤ (c.seen.length : Int) ∧ (c.seen.length : Int) ≤ 4)).trans (hinv.trans (zBn (by omega) _)))), hs.tail⟩
  try simp only [zS] at gk
  refine zAn (zAc (gW _ _ (zAf (fun jT gZ => (zAf (fun jU hD => (zAb (zBi rfl rfl (zAd (zAc (hD _ _ (zAq ?_))))))))))))
  refine zB6 [2,3,4,8,9,61,62,63,64,65,66,67,68,69,70,71,72,73,74,75,76,77,78] [8] (fun k vs w => ∃ (i : Nat), vs = [.int .i64 i] ∧ i ≤ c.lots.length ∧ k = c.lots.length - i ∧ firstE (lotE c.holds.length c.heat.length) [] 0 c.lots = firstE (lotE c.holds.length c.heat.length) (c.lots.take i) i (c.lots.drop i) ∧ St w0 w ((b3, blk 27 (c.cells ⟨ae, ce, ah, ch, al, cl, an, cn⟩)) :: F)) (c.lots.length) ?_ ?_
  ·
   exact ⟨0, rfl, by omega, by omega, rfl, hs⟩
  intro k vs μ jV hI jW hN
  try clear hia hinv
  obtain ⟨i, rfl, hia, rfl, hinv, hs⟩ := hI
  refine zAf (fun jX hP => (zAf (fun jY hX => (zAb (zA6 rfl rfl (w_p (zAe (o := 3) (i := 3) underlying27 rfl sizeOf24 rfl rfl rfl) rfl (w_p (zAg isAgg24 hs rfl rfl (aow 0 [_])) rfl ?_)))))))
  refine w_p (zBc underlying24 rfl rfl) rfl (w_p (zCp rfl rfl rfl rfl) rfl (zAd (zAc (hX _ _ (zAr rfl rfl (fun gm => ?_) (fun gm => ?_))))))
  ·
   try simp only [zS] at gm
   refine zAn (zAc (hP _ _ (zAf (fun jZ hY => (zAq ?_)))))
   refine zAf (fun k4 j0 => ?_)
   have hi2 : i < c.lots.length := by omega
   obtain ⟨bx, ox, hbx, hx⟩ := sl_lrows hm.l hi2
   refine zCq [] [(0,1),(1,0),(2,1),(3,0),(4,0),(5,1),(6,2),(7,0)] zB4 (zBk (by kernel_rfl)) hs (fun k5 gc => ?_)
   refine zAz rfl zAa rfl gc (fun _ hq => (zA2 (vs := [_,_,_,_,_]) isAgg27 sizeOf27 hq rfl rfl (aow 0 [_,_,_,_,_]))) ?_
   refine d_w rfl (fun _ => zAe (o := 3) (i := 3) underlying27 rfl sizeOf24 rfl rfl rfl) rfl ?_
   refine zAz rfl zAa rfl gc (fun _ hq => (zCl hbx (zAg isAgg24 hq rfl rfl (aow 0 [_])))) ?_
   refine d_w rfl (fun _ => zAy rfl rfl) rfl (d_w rfl (fun _ => zA7 underlying24 sizeOf38 rfl rfl rfl rfl (i := _) rfl (by omega)) rfl ?_)
   refine zAz rfl zAa rfl gc (fun _ hq => (zA2 (vs := [_,_,_,_]) isAgg38 sizeOf38 hq.tail rfl rfl hx)) ?_
   refine zBh rfl ?_
   refine zCo zAa call18 rfl rfl rfl rfl (c18 c _ hm.cons c.lots[i] (c.lots.take i) gc) (fun k6 g4 => ?_)
   refine zAd (qn ⟨g4, ?_⟩)
   refine d_w rfl (fun _ => zA0 rfl rfl) rfl ?_
   refine zBm ?_
   refine zAc (j0 _ _ (zAf (fun k7 j1 => (zAb (zA6 rfl rfl (w_p (zCs rfl rfl rfl rfl) rfl (zAd (zAc (j1 _ _ (zAr rfl rfl (fun gn => ?_) (fun gn => ?_)))))))))))
   ·
    try simp only [zS] at gn
    refine zAf (fun k8 j3 => (zAb (zA6 rfl rfl (zA6 rfl rfl (zBi rfl rfl (zBw rfl rfl (zBw rfl rfl (zAd (zAc (j3 _ _ (zA8 (zA9 (zAl (zAl (zA9 (zAl (zBa (l := [.tmp 2, .tmp 3, .tmp 4]) (vs := [_,_,_]) rfl ⟨⟨rfl, (rfl : _ = Value.int _ _)⟩, ⟨rfl, (rfl : _ = Value.int _ _)⟩, ⟨rfl, (rfl : _ = Value.int _ _)⟩, trivial⟩ ?_)))))))))))))))))
    first
      | exact ⟨tup3 (ck_a (zCd (by omega)) (by decide)), g4.tail⟩
      | exact ⟨tup3 (ck_a (x := ((i : Int), 7)) ((zBq (by omega : 0 ≤ (c.heat.length : Int) ∧ (c.heat.length : Int) ≤ 8)).trans (hinv.trans ((zAp hi2 (by rw [zDi (by assumption)]; decide)).trans (by rw [zDi (by assumption)])))) (by show ¬ (7 : Int) = 0; decide)), g4.tail⟩
      | exact ⟨tup3 (ck_g hA (by assumption)), g4.tail⟩
      | exact ⟨tup3 (ck_h hA (by assumption) (zCd (by omega)) (by decide)), g4.tail⟩
      | exact ⟨tup3 (ck_h hA (by assumption) ((zBq (by omega : 1 ≤ (c.holds.length : Int) ∧ (c.holds.length : Int) ≤ 3)).trans (hinv.trans (zAp hi2 (by assumption)))) (by assumption)), g4.tail⟩
      | exact ⟨tup3 (ck_l hA (by assumption) hH (zCd (by omega)) (by decide)), g4.tail⟩
      | exact ⟨tup3 (ck_l hA (by assumption) hH ((zBq (by omega : 0 ≤ (c.lots.length : Int) ∧ (c.lots.length : Int) ≤ 4)).trans (hinv.trans (zAp hi2 (by assumption)))) (by assumption)), g4.tail⟩
      | exact ⟨tup3 (zGy hA (by assumption) hH hL (zCd (by omega)) (by decide)), g4.tail⟩
      | (have hce := zF9 (bf := c.seen.take i) (by assumption : ¬ (0 ≤ c.seen[i].lot ∧ c.seen[i].lot ≤ (c.lots.length : Int) - 1))
         exact ⟨tup3 (zGy (x := ((i : Int), 4)) hA (by assumption) hH hL ((zBq (by omega : 0 ≤ (c.seen.length : Int) ∧ (c.seen.length : Int) ≤ 4)).trans (hinv.trans ((zAp hi2 (by rw [hce]; decide)).trans (by rw [hce])))) (by show ¬ (4 : Int) = 0; decide)), g4.tail⟩)
      | (have hce := zF8 (bf := c.seen.take i) (by assumption : 0 ≤ c.seen[i].lot ∧ c.seen[i].lot ≤ (c.lots.length : Int) - 1) hj2 (by assumption)
         exact ⟨tup3 (zGy (x := ((i : Int), 7)) hA (by assumption) hH hL ((zBq (by omega : 0 ≤ (c.seen.length : Int) ∧ (c.seen.length : Int) ≤ 4)).trans (hinv.trans ((zAp hi2 (by rw [hce]; decide)).trans (by rw [hce])))) (by show ¬ (7 : Int) = 0; decide)), g4.tail⟩)
      | exact ⟨tup3 (ck_ok hA (by assumption) hH hL ((zBq (by omega : 0 ≤ (c.seen.length : Int) ∧ (c.seen.length : Int) ≤ 4)).trans (hinv.trans (zBn (by omega) _)))), g4.tail⟩
   try simp only [zS] at gn
   refine zAn (zAi (zAc (hY _ _ (zAb (zA6 rfl rfl (w_p (zBo rfl rfl rfl rfl (by omega) (by omega)) rfl (zBw rfl rfl (zAd (zAc (hN _ _ (nxI (c.lots.length - (i + 1)) (by omega) ?_)))))))))))
   exact ⟨i + 1, rfl, by omega, rfl, hinv.trans (zB3 hi2 (by assumption)), g4⟩
  try simp only [zS] at gm
  refine zBt (zAj (zAj (zAv (zAc (gZ _ _ (zAf (fun k9 j4 => (zAf (fun ka j5 => ?_)))))))))
  have hL : failE (lotE c.holds.length c.heat.length) 0 4 c.lots = (0,0) := (zBq (by omega : 0 ≤ (c.lots.length : Int) ∧ (c.lots.length : Int) ≤ 4)).trans (hinv.trans (zBn (by omega) _))
  refine zAb (w_p (zAe (o := 4) (i := 4) underlying27 rfl sizeOf25 rfl rfl rfl) rfl (w_p (zAg isAgg25 hs rfl rfl (aow 0 [_])) rfl (w_p (zBc underlying25 rfl rfl) rfl (w_p (zEf rfl rfl rfl rfl) rfl (zAd ?_)))))
  refine zAc (j5 _ _ (zAr rfl rfl (fun go => ?_) (fun go => ?_)))
  ·
   try simp only [zS] at go
   refine zAf (fun kb j6 => (zAb (zBi rfl rfl (zBi rfl rfl (zBi rfl rfl (zAd (zAc (j6 _ _ (zA8 (zAl (zBa (l := [.tmp 2, .tmp 3, .tmp 4]) (vs := [_,_,_]) rfl ⟨⟨rfl, (rfl : _ = Value.int _ _)⟩, ⟨rfl, (rfl : _ = Value.int _ _)⟩, ⟨rfl, (rfl : _ = Value.int _ _)⟩, trivial⟩ ?_)))))))))))
   first
     | exact ⟨tup3 (ck_a (zCd (by omega)) (by decide)), hs.tail⟩
     | exact ⟨tup3 (ck_a (x := ((i : Int), 7)) ((zBq (by omega : 0 ≤ (c.heat.length : Int) ∧ (c.heat.length : Int) ≤ 8)).trans (hinv.trans ((zAp hi2 (by rw [zDi (by assumption)]; decide)).trans (by rw [zDi (by assumption)])))) (by show ¬ (7 : Int) = 0; decide)), hs.tail⟩
     | exact ⟨tup3 (ck_g hA (by assumption)), hs.tail⟩
     | exact ⟨tup3 (ck_h hA (by assumption) (zCd (by omega)) (by decide)), hs.tail⟩
     | exact ⟨tup3 (ck_h hA (by assumption) ((zBq (by omega : 1 ≤ (c.holds.length : Int) ∧ (c.holds.length : Int) ≤ 3)).trans (hinv.trans (zAp hi2 (by assumption)))) (by assumption)), hs.tail⟩
     | exact ⟨tup3 (ck_l hA (by assumption) hH (zCd (by omega)) (by decide)), hs.tail⟩
     | exact ⟨tup3 (ck_l hA (by assumption) hH ((zBq (by omega : 0 ≤ (c.lots.length : Int) ∧ (c.lots.length : Int) ≤ 4)).trans (hinv.trans (zAp hi2 (by assumption)))) (by assumption)), hs.tail⟩
     | exact ⟨tup3 (zGy hA (by assumption) hH hL (zCd (by omega)) (by decide)), hs.tail⟩
     | (have hce := zF9 (bf := c.seen.take i) (by assumption : ¬ (0 ≤ c.seen[i].lot ∧ c.seen[i].lot ≤ (c.lots.length : Int) - 1))
        exact ⟨tup3 (zGy (x := ((i : Int), 4)) hA (by assumption) hH hL ((zBq (by omega : 0 ≤ (c.seen.length : Int) ∧ (c.seen.length : Int) ≤ 4)).trans (hinv.trans ((zAp hi2 (by rw [hce]; decide)).trans (by rw [hce])))) (by show ¬ (4 : Int) = 0; decide)), hs.tail⟩)
     | (have hce := zF8 (bf := c.seen.take i) (by assumption : 0 ≤ c.seen[i].lot ∧ c.seen[i].lot ≤ (c.lots.length : Int) - 1) hj2 (by assumption)
        exact ⟨tup3 (zGy (x := ((i : Int), 7)) hA (by assumption) hH hL ((zBq (by omega : 0 ≤ (c.seen.length : Int) ∧ (c.seen.length : Int) ≤ 4)).trans (hinv.trans ((zAp hi2 (by rw [hce]; decide)).trans (by rw [hce])))) (by show ¬ (7 : Int) = 0; decide)), hs.tail⟩)
     | exact ⟨tup3 (ck_ok hA (by assumption) hH hL ((zBq (by omega : 0 ≤ (c.seen.length : Int) ∧ (c.seen.length : Int) ≤ 4)).trans (hinv.trans (zBn (by omega) _)))), hs.tail⟩
  try simp only [zS] at go
  refine zAn (zAc (j4 _ _ (zAf (fun kc j7 => (zAf (fun kd j8 => (zAb (zBi rfl rfl (zAd (zAc (j8 _ _ (zAq ?_))))))))))))
  refine zB6 [2,3,4,10,11,83,84,85,86,87,88,89,90,91,92,93,94,95,96,97,98,99,100,101,102,103,104,105,106,107,108,109,110,111,112,113,114,115,116,117,118] [10] (fun k vs w => ∃ (i : Nat), vs = [.int .i64 i] ∧ i ≤ c.seen.length ∧ k = c.seen.length - i ∧ firstE (seenE c) [] 0 c.seen = firstE (seenE c) (c.seen.take i) i (c.seen.drop i) ∧ St w0 w ((b3, blk 27 (c.cells ⟨ae, ce, ah, ch, al, cl, an, cn⟩)) :: F)) (c.seen.length) ?_ ?_
  ·
   exact ⟨0, rfl, by omega, by omega, rfl, hs⟩
  intro k vs μ ke hI kf j9
  try clear hia hinv
  obtain ⟨i, rfl, hia, rfl, hinv, hs⟩ := hI
  refine zAf (fun kg ja => (zAf (fun kh jb => (zAb (zA6 rfl rfl (w_p (zAe (o := 4) (i := 4) underlying27 rfl sizeOf25 rfl rfl rfl) rfl (w_p (zAg isAgg25 hs rfl rfl (aow 0 [_])) rfl ?_)))))))
  refine w_p (zBc underlying25 rfl rfl) rfl (w_p (zCp rfl rfl rfl rfl) rfl (zAd (zAc (jb _ _ (zAr rfl rfl (fun gp => ?_) (fun gp => ?_))))))
  ·
   try simp only [zS] at gp
   refine zAn (zAc (ja _ _ (zAf (fun ki jc => (zAq ?_)))))
   refine zAf (fun kj jd => ?_)
   have hi2 : i < c.seen.length := by omega
   obtain ⟨bx, ox, rfl, hx⟩ := zI2 hm.n hi2
   refine zAb (w_p (zAe (o := 4) (i := 4) underlying27 rfl sizeOf25 rfl rfl rfl) rfl (w_p (zAg isAgg25 hs rfl rfl (aow 0 [_])) rfl (zA6 rfl rfl (w_p (zA7 underlying25 sizeOf62 rfl rfl rfl rfl (i := _) rfl (by omega)) rfl ?_))))
   refine w_p (zA2 (vs := [_,_,_]) isAgg62 sizeOf62 hs.tail rfl rfl hx) rfl (zA1 (cs := [_,_,_]) zAa zeroValue62 rfl hs (fun km kn je => ?_))
   refine zBj 0 (.agg #[.int _ _, .int _ _, .bool _]) [_,_,_] sizeOf62 je (fun ko gq => ?_)
   refine zAd (zAc (jd _ _ (zAf (fun kp jf => (zAf (fun kq jg => (zAb (w_p (zAe (o := 0) (i := 0) underlying62 rfl sizeOf3 rfl rfl rfl) rfl (w_p (zAg isAgg3 gq rfl rfl (aow 0 [_])) rfl ?_)))))))))
   refine w_p (zAe (o := 3) (i := 3) underlying27 rfl sizeOf24 rfl rfl rfl) rfl (w_p (zAg isAgg24 gq rfl rfl (aow 1 [_])) rfl (w_p (zBc underlying24 rfl rfl) rfl (w_p (zFb rfl rfl rfl rfl (by omega) (by omega)) rfl ?_)))
   refine zCo zAa call13 rfl rfl rfl rfl (c13 _ _ _ gq) (fun kr g9 => ?_)
   refine w_p (zDo rfl rfl) rfl (zAd (zAc (jg _ _ (zAr rfl rfl (fun gt => ?_) (fun gt => ?_)))))
   ·
    try simp only [zS] at gt
    refine zAf (fun ku jh => (zAb (zA6 rfl rfl (zBi rfl rfl (zBw rfl rfl (zBi rfl rfl (zAd (zAc (jh _ _ (zA8 (zAl (zA9 (zAl (zAl (zA9 (zAl (zBa (l := [.tmp 2, .tmp 3, .tmp 4]) (vs := [_,_,_]) rfl ⟨⟨rfl, (rfl : _ = Value.int _ _)⟩, ⟨rfl, (rfl : _ = Value.int _ _)⟩, ⟨rfl, (rfl : _ = Value.int _ _)⟩, trivial⟩ ?_)))))))))))))))))
    first
      | exact ⟨tup3 (ck_a (zCd (by omega)) (by decide)), g9.tail.tail⟩
      | exact ⟨tup3 (ck_a (x := ((i : Int), 7)) ((zBq (by omega : 0 ≤ (c.heat.length : Int) ∧ (c.heat.length : Int) ≤ 8)).trans (hinv.trans ((zAp hi2 (by rw [zDi (by assumption)]; decide)).trans (by rw [zDi (by assumption)])))) (by show ¬ (7 : Int) = 0; decide)), g9.tail.tail⟩
      | exact ⟨tup3 (ck_g hA (by assumption)), g9.tail.tail⟩
      | exact ⟨tup3 (ck_h hA (by assumption) (zCd (by omega)) (by decide)), g9.tail.tail⟩
      | exact ⟨tup3 (ck_h hA (by assumption) ((zBq (by omega : 1 ≤ (c.holds.length : Int) ∧ (c.holds.length : Int) ≤ 3)).trans (hinv.trans (zAp hi2 (by assumption)))) (by assumption)), g9.tail.tail⟩
      | exact ⟨tup3 (ck_l hA (by assumption) hH (zCd (by omega)) (by decide)), g9.tail.tail⟩
      | exact ⟨tup3 (ck_l hA (by assumption) hH ((zBq (by omega : 0 ≤ (c.lots.length : Int) ∧ (c.lots.length : Int) ≤ 4)).trans (hinv.trans (zAp hi2 (by assumption)))) (by assumption)), g9.tail.tail⟩
      | exact ⟨tup3 (zGy hA (by assumption) hH hL (zCd (by omega)) (by decide)), g9.tail.tail⟩
      | (have hce := zF9 (bf := c.seen.take i) (by assumption : ¬ (0 ≤ c.seen[i].lot ∧ c.seen[i].lot ≤ (c.lots.length : Int) - 1))
         exact ⟨tup3 (zGy (x := ((i : Int), 4)) hA (by assumption) hH hL ((zBq (by omega : 0 ≤ (c.seen.length : Int) ∧ (c.seen.length : Int) ≤ 4)).trans (hinv.trans ((zAp hi2 (by rw [hce]; decide)).trans (by rw [hce])))) (by show ¬ (4 : Int) = 0; decide)), g9.tail.tail⟩)
      | (have hce := zF8 (bf := c.seen.take i) (by assumption : 0 ≤ c.seen[i].lot ∧ c.seen[i].lot ≤ (c.lots.length : Int) - 1) hj2 (by assumption)
         exact ⟨tup3 (zGy (x := ((i : Int), 7)) hA (by assumption) hH hL ((zBq (by omega : 0 ≤ (c.seen.length : Int) ∧ (c.seen.length : Int) ≤ 4)).trans (hinv.trans ((zAp hi2 (by rw [hce]; decide)).trans (by rw [hce])))) (by show ¬ (7 : Int) = 0; decide)), g9.tail.tail⟩)
      | exact ⟨tup3 (ck_ok hA (by assumption) hH hL ((zBq (by omega : 0 ≤ (c.seen.length : Int) ∧ (c.seen.length : Int) ≤ 4)).trans (hinv.trans (zBn (by omega) _)))), g9.tail.tail⟩
   try simp only [zS] at gt
   refine zAn (zAc (jf _ _ (zAf (fun kw ji => ?_))))
   have hj2 : c.seen[i].lot.toNat < c.lots.length := by omega
   have hjn : c.seen[i].lot = ((c.seen[i].lot.toNat : Nat) : Int) := by omega
   obtain ⟨by_, oy, hby, hy⟩ := sl_lrows hm.l hj2
   refine zCq [] [(0,0),(1,1),(2,0),(3,1),(4,0),(5,1),(6,0),(7,0),(8,1),(9,0),(10,1),(11,0),(12,2),(13,0)] zB4 (zBk (by kernel_rfl)) g9 (fun kx ga => ?_)
   refine d_w rfl (fun _ => zAe (o := 1) (i := 1) underlying62 rfl sizeOf3 rfl rfl rfl) rfl ?_
   refine zAz rfl zAa rfl ga (fun _ hq => (zAg isAgg3 hq rfl rfl (aow 0 [_]))) ?_
   refine d_w rfl (fun _ => zAe (o := 3) (i := 3) underlying27 rfl sizeOf24 rfl rfl rfl) rfl ?_
   refine zAz rfl zAa rfl ga (fun _ hq => (zCl hby (zAg isAgg24 hq rfl rfl (aow 1 [_])))) ?_
   refine d_w rfl (fun _ => zAe (o := 0) (i := 0) underlying62 rfl sizeOf3 rfl rfl rfl) rfl ?_
   refine zAz rfl zAa rfl ga (fun _ hq => (zAg isAgg3 hq rfl rfl (aow 0 [_]))) ?_
   refine d_w rfl (fun _ => zA7 underlying24 sizeOf38 rfl rfl rfl rfl (i := c.seen[i].lot.toNat) hjn hj2) rfl (d_w rfl (fun _ => zAe (o := 1) (i := 1) underlying38 rfl sizeOf3 rfl rfl rfl) rfl ?_)
   refine zAz rfl zAa rfl ga (fun _ hq => (zAg isAgg3 hq.tail.tail rfl rfl (show Ats _ _ _ _ [_] from Ats.part hy 1 1))) ?_
   refine d_w rfl (fun _ => zAe (o := 0) (i := 0) underlying27 rfl sizeOf22 rfl rfl rfl) rfl ?_
   refine zAz rfl zAa rfl ga (fun _ hq => (zAg isAgg22 hq rfl rfl (aow 1 [_]))) ?_
   refine d_w rfl (fun _ => zBc underlying22 rfl rfl) rfl ?_
   refine zBh rfl ?_
   refine zCo zAa call13 rfl rfl rfl rfl (c13 _ _ _ ga) (fun ky g5 => ?_)
   refine zAd (qn ⟨g5, ?_⟩)
   refine d_w rfl (fun _ => zDo rfl rfl) rfl ?_
   refine zBm ?_
   refine zAc (ji _ _ (zAr rfl rfl (fun gu => ?_) (fun gu => ?_)))
   ·
    try simp only [zS] at gu
    refine zAf (fun kz jj => (zAb (zA6 rfl rfl (zBi rfl rfl (zBw rfl rfl (zBi rfl rfl (zAd (zAc (jj _ _ (zA8 (zA9 (zAl (zAl (zA9 (zAl (zBa (l := [.tmp 2, .tmp 3, .tmp 4]) (vs := [_,_,_]) rfl ⟨⟨rfl, (rfl : _ = Value.int _ _)⟩, ⟨rfl, (rfl : _ = Value.int _ _)⟩, ⟨rfl, (rfl : _ = Value.int _ _)⟩, trivial⟩ ?_))))))))))))))))
    first
      | exact ⟨tup3 (ck_a (zCd (by omega)) (by decide)), g5.tail.tail⟩
      | exact ⟨tup3 (ck_a (x := ((i : Int), 7)) ((zBq (by omega : 0 ≤ (c.heat.length : Int) ∧ (c.heat.length : Int) ≤ 8)).trans (hinv.trans ((zAp hi2 (by rw [zDi (by assumption)]; decide)).trans (by rw [zDi (by assumption)])))) (by show ¬ (7 : Int) = 0; decide)), g5.tail.tail⟩
      | exact ⟨tup3 (ck_g hA (by assumption)), g5.tail.tail⟩
      | exact ⟨tup3 (ck_h hA (by assumption) (zCd (by omega)) (by decide)), g5.tail.tail⟩
      | exact ⟨tup3 (ck_h hA (by assumption) ((zBq (by omega : 1 ≤ (c.holds.length : Int) ∧ (c.holds.length : Int) ≤ 3)).trans (hinv.trans (zAp hi2 (by assumption)))) (by assumption)), g5.tail.tail⟩
      | exact ⟨tup3 (ck_l hA (by assumption) hH (zCd (by omega)) (by decide)), g5.tail.tail⟩
      | exact ⟨tup3 (ck_l hA (by assumption) hH ((zBq (by omega : 0 ≤ (c.lots.length : Int) ∧ (c.lots.length : Int) ≤ 4)).trans (hinv.trans (zAp hi2 (by assumption)))) (by assumption)), g5.tail.tail⟩
      | exact ⟨tup3 (zGy hA (by assumption) hH hL (zCd (by omega)) (by decide)), g5.tail.tail⟩
      | (have hce := zF9 (bf := c.seen.take i) (by assumption : ¬ (0 ≤ c.seen[i].lot ∧ c.seen[i].lot ≤ (c.lots.length : Int) - 1))
         exact ⟨tup3 (zGy (x := ((i : Int), 4)) hA (by assumption) hH hL ((zBq (by omega : 0 ≤ (c.seen.length : Int) ∧ (c.seen.length : Int) ≤ 4)).trans (hinv.trans ((zAp hi2 (by rw [hce]; decide)).trans (by rw [hce])))) (by show ¬ (4 : Int) = 0; decide)), g5.tail.tail⟩)
      | (have hce := zF8 (bf := c.seen.take i) (by assumption : 0 ≤ c.seen[i].lot ∧ c.seen[i].lot ≤ (c.lots.length : Int) - 1) hj2 (by assumption)
         exact ⟨tup3 (zGy (x := ((i : Int), 7)) hA (by assumption) hH hL ((zBq (by omega : 0 ≤ (c.seen.length : Int) ∧ (c.seen.length : Int) ≤ 4)).trans (hinv.trans ((zAp hi2 (by rw [hce]; decide)).trans (by rw [hce])))) (by show ¬ (7 : Int) = 0; decide)), g5.tail.tail⟩)
      | exact ⟨tup3 (ck_ok hA (by assumption) hH hL ((zBq (by omega : 0 ≤ (c.seen.length : Int) ∧ (c.seen.length : Int) ≤ 4)).trans (hinv.trans (zBn (by omega) _)))), g5.tail.tail⟩
   try simp only [zS] at gu
   refine zAn (zAi (zAc (jc _ _ (zAb (zA6 rfl rfl (w_p (zBo rfl rfl rfl rfl (by omega) (by omega)) rfl (zBw rfl rfl (zAd (zAc (j9 _ _ (nxI (c.seen.length - (i + 1)) (by omega) ?_)))))))))))
   exact ⟨i + 1, rfl, by omega, rfl, hinv.trans (zB3 hi2 (seen_3 (by assumption) hj2 (by assumption))), g5.tail⟩
  try simp only [zS] at gp
  refine zBt (zAj (zAj (zAv (zAc (j7 _ _ (zAf (fun kA jk => (zAb (zBi rfl rfl (zBi rfl rfl (zBi rfl rfl (zAd (zAc (jk _ _ (zA8 (zBa (l := [.tmp 2, .tmp 3, .tmp 4]) (vs := [_,_,_]) rfl ⟨⟨rfl, (rfl : _ = Value.int _ _)⟩, ⟨rfl, (rfl : _ = Value.int _ _)⟩, ⟨rfl, (rfl : _ = Value.int _ _)⟩, trivial⟩ ?_))))))))))))))))
  first
    | exact ⟨tup3 (ck_a (zCd (by omega)) (by decide)), hs.tail⟩
    | exact ⟨tup3 (ck_a (x := ((i : Int), 7)) ((zBq (by omega : 0 ≤ (c.heat.length : Int) ∧ (c.heat.length : Int) ≤ 8)).trans (hinv.trans ((zAp hi2 (by rw [zDi (by assumption)]; decide)).trans (by rw [zDi (by assumption)])))) (by show ¬ (7 : Int) = 0; decide)), hs.tail⟩
    | exact ⟨tup3 (ck_g hA (by assumption)), hs.tail⟩
    | exact ⟨tup3 (ck_h hA (by assumption) (zCd (by omega)) (by decide)), hs.tail⟩
    | exact ⟨tup3 (ck_h hA (by assumption) ((zBq (by omega : 1 ≤ (c.holds.length : Int) ∧ (c.holds.length : Int) ≤ 3)).trans (hinv.trans (zAp hi2 (by assumption)))) (by assumption)), hs.tail⟩
    | exact ⟨tup3 (ck_l hA (by assumption) hH (zCd (by omega)) (by decide)), hs.tail⟩
    | exact ⟨tup3 (ck_l hA (by assumption) hH ((zBq (by omega : 0 ≤ (c.lots.length : Int) ∧ (c.lots.length : Int) ≤ 4)).trans (hinv.trans (zAp hi2 (by assumption)))) (by assumption)), hs.tail⟩
    | exact ⟨tup3 (zGy hA (by assumption) hH hL (zCd (by omega)) (by decide)), hs.tail⟩
    | (have hce := zF9 (bf := c.seen.take i) (by assumption : ¬ (0 ≤ c.seen[i].lot ∧ c.seen[i].lot ≤ (c.lots.length : Int) - 1))
       exact ⟨tup3 (zGy (x := ((i : Int), 4)) hA (by assumption) hH hL ((zBq (by omega : 0 ≤ (c.seen.length : Int) ∧ (c.seen.length : Int) ≤ 4)).trans (hinv.trans ((zAp hi2 (by rw [hce]; decide)).trans (by rw [hce])))) (by show ¬ (4 : Int) = 0; decide)), hs.tail⟩)
    | (have hce := zF8 (bf := c.seen.take i) (by assumption : 0 ≤ c.seen[i].lot ∧ c.seen[i].lot ≤ (c.lots.length : Int) - 1) hj2 (by assumption)
       exact ⟨tup3 (zGy (x := ((i : Int), 7)) hA (by assumption) hH hL ((zBq (by omega : 0 ≤ (c.seen.length : Int) ∧ (c.seen.length : Int) ≤ 4)).trans (hinv.trans ((zAp hi2 (by rw [hce]; decide)).trans (by rw [hce])))) (by show ¬ (7 : Int) = 0; decide)), hs.tail⟩)
    | exact ⟨tup3 (ck_ok hA (by assumption) hH hL ((zBq (by omega : 0 ≤ (c.seen.length : Int) ∧ (c.seen.length : Int) ≤ 4)).trans (hinv.trans (zBn (by omega) _)))), hs.tail⟩

end Go.Proofs.Ur
set_option maxRecDepth 20000
namespace Go.Proofs.Ur
open Go.Proofs.Tryz
open Go.Rt Go.Rt.Tu Go.Proofs.Ut
open Go.Rt.Ha (firstE zB3 zAp zBn failE felt spanL upto zBv listL bit Bunch)
attribute [local irreducible] WL WC Con Yd At Ats Sl Agree DW
theorem Try_RB_fb0 (x0 : Int) (w : World) : (Instr.buildSlice 22 1 [(0, .int .i64 x0)].toArray).run Tryz.prog w = .ok (.slice (some ⟨w.heap.size, 0, none⟩) 1 1) (w.alloc (Go.Rt.blk 3 [.int .i64 x0])) := by kernel_rfl
theorem zC3 : Tryz.prog.info? 3 = some Tryz.t3 := by kernel_rfl
theorem Try_RB_fb2  (w : World) : (Instr.buildSlice 22 0 [].toArray).run Tryz.prog w = .ok (.slice (some ⟨w.heap.size, 0, none⟩) 0 0) (w.alloc (Go.Rt.blk 3 [])) := by kernel_rfl
def EL (w0 : World) (L : List (Nat × Obj)) (vs : List Value) (ll : List (List Int)) : Prop :=
  vs.length = ll.length ∧ ∀ k (h : k < ll.length), ∃ b c, vs[k]? = some (.slice b ll[k].length c) ∧ Sl w0 L b 1 (ll[k].map fun x => [Value.int .i64 x]) ∧ (b = none → c = 0)
theorem EL.mono {w0 : World} {L L' : List (Nat × Obj)} {vs : List Value} {ll : List (List Int)} (h : EL w0 L vs ll) (hs : ∀ w, St w0 w L' → St w0 w L) : EL w0 L' vs ll :=
  ⟨h.1, fun k hk => by obtain ⟨b, c, h1, h2, h3⟩ := h.2 k hk; exact ⟨b, c, h1, h2.mono hs, h3⟩⟩
theorem EL.cons {w0 : World} {L : List (Nat × Obj)} {x : Nat × Obj} {vs : List Value} {ll : List (List Int)} (h : EL w0 L vs ll) : EL w0 (x :: L) vs ll := h.mono fun _ h => h.tail
theorem EL.app {w0 : World} {L B : List (Nat × Obj)} {vs : List Value} {ll : List (List Int)} (h : EL w0 L vs ll) : EL w0 (B ++ L) vs ll := h.mono fun _ h => h.drop
theorem EL.top {w0 : World} {B F : List (Nat × Obj)} {vs : List Value} {ll : List (List Int)} (h : EL w0 B vs ll) : EL w0 (B ++ F) vs ll := h.mono fun _ h => h.front
theorem EL.nil (w0 : World) (L : List (Nat × Obj)) : EL w0 L [] [] := ⟨rfl, fun k h => by simp at h⟩
theorem EL.snoc {w0 : World} {L : List (Nat × Obj)} {vs : List Value} {ll : List (List Int)} {b : Option Addr} {c : Nat} {l : List Int} (h : EL w0 L vs ll) (hl : Sl w0 L b 1 (l.map fun x => [Value.int .i64 x])) (hn : b = none → c = 0) : EL w0 L (vs ++ [.slice b l.length c]) (ll ++ [l]) := by
  refine ⟨by simp [h.1], fun k hk => ?_⟩
  rw [List.length_append, List.length_singleton] at hk
  by_cases hkl : k < ll.length
  · obtain ⟨b', c', h1, h2, h3⟩ := h.2 k hkl
    refine ⟨b', c', ?_, ?_, h3⟩
    · rw [List.getElem?_append_left (by rw [h.1]; exact hkl), h1, List.getElem_append_left hkl]
    · rw [List.getElem_append_left hkl]; exact h2
  · have : k = ll.length := by omega
    subst this
    refine ⟨b, c, ?_, ?_, hn⟩
    · rw [List.getElem?_append_right (by rw [h.1]; omega), h.1]; simp
    · simpa using hl
theorem el_at {w0 : World} {L : List (Nat × Obj)} {a : Option Addr} {vs : List Value} {ll : List (List Int)} {k : Nat} (hs : Sl w0 L a 1 (vs.map fun v => [v])) (h : EL w0 L vs ll) (hk : k < ll.length) :
    ∃ b off b2 c2, a = some ⟨b, off, none⟩ ∧ Ats w0 L b (off + k * 1) [.slice b2 ll[k].length c2] ∧ Sl w0 L b2 1 (ll[k].map fun x => [Value.int .i64 x]) ∧ (b2 = none → c2 = 0) := by
  obtain ⟨b2, c2, h1, h2, h3⟩ := h.2 k hk
  obtain ⟨b, off, ha, _, hat⟩ := hs.at (i := k) (row := [.slice b2 ll[k].length c2]) (by rw [List.getElem?_map, h1]; rfl)
  exact ⟨b, off, b2, c2, ha, hat, h2, h3⟩
-- _root_.Go.Rt.Ats.top
theorem flat_ints (l : List Int) : (l.map fun x => [Value.int .i64 x]).flatten = iv l := by induction l <;> simp_all
theorem ints_one (l : List Int) : ∀ row ∈ (l.map fun x => [Value.int .i64 x]), ∀ u ∈ row, u.oneCell' = true := by
  intro row hr u hu; obtain ⟨x, _, rfl⟩ := List.mem_map.1 hr; simp at hu; subst hu; rfl
theorem zFj {w0 : World} {v : Value} {l : List Int} {B : List (Nat × Obj)} (h : Rt.Own v 3 1 l.length (iv l) B) : ∃ a c, v = .slice a l.length c ∧ Sl w0 B a 1 (l.map fun x => [Value.int .i64 x]) ∧ (a = none → c = 0) ∧ l.length ≤ c := by
  obtain ⟨a, c, hv, hs⟩ := zE6 (w0 := w0) h rfl []
  rw [List.append_nil] at hs
  refine ⟨a, c, hv, hs, fun ha => ?_, ?_⟩
  · rcases h.2 with ⟨h2, _⟩ | ⟨b, cap, cs, h2, _⟩
    · rw [h2] at hv; injection hv with _ _ h3; exact h3.symm
    · rw [h2] at hv; injection hv with h3; rw [ha] at h3; cases h3
  · rcases h.2 with ⟨h2, h3, _⟩ | ⟨b, cap, cs, h2, _, h4, _⟩
    · rw [h2] at hv; injection hv with _ _ h5; omega
    · rw [h2] at hv; injection hv with _ _ h5; omega
theorem own_ints1 {v : Value} {l : List Int} {d : Int} {B : List (Nat × Obj)} (h : Rt.Own v 3 1 (0 + l.length + 1) ([] ++ (l.map fun x => [Value.int .i64 x]).flatten ++ [[Value.int .i64 d]].flatten) B) : Rt.Own v 3 1 (l ++ [d]).length (iv (l ++ [d])) B := by
  rw [flat_ints] at h
  simpa [Nat.add_comm] using h
theorem own_el {v : Value} {ws : List Value} {u : Value} {NB : List (Nat × Obj)} {g : List (List Int)} {x : List Int} (h : Rt.Own v 22 1 (g.length + 1) (ws ++ [[u]].flatten) NB) : Rt.Own v 22 1 (g ++ [x]).length (ws ++ [u]) NB := by simpa using h
theorem el_more {w0 : World} {B E : List (Nat × Obj)} {ws : List Value} {g : List (List Int)} {a : Option Addr} {c : Nat} {l : List Int} (h : EL w0 E ws g) (hs : Sl w0 B a 1 (l.map fun x => [Value.int .i64 x])) (hn : a = none → c = 0) : EL w0 (B ++ E) (ws ++ [.slice a l.length c]) (g ++ [l]) := h.app.snoc hs.top hn
theorem zFi {v : Value} {l : List Int} {z : Int} {B : List (Nat × Obj)} (h : Rt.Own v 3 1 (l.length + 1) (iv l ++ [[Value.int .i64 z]].flatten) B) : Rt.Own v 3 1 (l ++ [z]).length (iv (l ++ [z])) B := by simpa [iv] using h
theorem own_read {w0 : World} {R : List (Nat × Obj)} {b n j : Nat} {cs : List Value} {l : List Int} (htk : cs.take (n * 1) = iv l) (hl : l.length = n) (hj : j < n) : Ats w0 ((b, blk 3 cs) :: R) b (0 + j * 1) [.int .i64 (l.getD j 0)] := by
  refine zB9 (i := 0) rfl ?_
  have h : ((iv l).drop j).take 1 = [.int .i64 (l.getD j 0)] := by
    rw [List.drop_eq_getElem_cons (by simpa [hl] using hj)]
    simp [List.getD, hl, hj]
  rw [← htk, List.drop_take, List.take_take, Nat.min_eq_left (by omega)] at h
  rw [Nat.zero_add, Nat.mul_one]
  exact h
theorem left_put {w0 w : World} {R : List (Nat × Obj)} {b n j cap : Nat} {cs : List Value} {l : List Int} {z : Int} {x y z' : Nat × Obj} (hs : St w0 w ((x :: y :: z' :: (b, blk 3 cs) :: R).set 3 (b, blk 3 (setMany cs (0 + j * 1) [.int .i64 z])))) (htk : cs.take (n * 1) = iv l) (hcl : cs.length = cap * 1) (hl : l.length = n) (hj : j < n) :
    ∃ cs2 : List Value, cs2.length = cap * 1 ∧ cs2.take (n * 1) = iv (l.set j z) ∧ St w0 w (x :: y :: z' :: (b, blk 3 cs2) :: R) := by
  refine ⟨cs.set j (.int .i64 z), by simpa using hcl, ?_, ?_⟩
  · rw [List.take_set, htk]; simp [iv, List.map_set]
  · simpa [setMany] using hs
theorem c41 {w0 w : World} {F : List (Nat × Obj)} (al : Option Addr) (cl : Nat) (l : List Int) (hll : l.length ≤ 9223372036854775807) (hl : Sl w0 F al 1 (l.map fun x => [Value.int .i64 x])) (z : Int) (hs : St w0 w F) :
  Con Tryz.prog 41 [.slice al l.length cl, .int .i64 z] w fun v w' => v = .bool (hasD l z) ∧ St w0 w' F := by
  refine zAo (n := 23) func41 rfl rfl (zNl rfl) ?_
  refine zAf (fun K2 g6 => (zAb (zBi rfl rfl (zAd (zAc (g6 _ _ (zAf (fun K4 g7 => (zAb (zBi rfl rfl (zAd (zAc (g7 _ _ (zAf (fun K6 g8 => (zAf (fun K8 g9 => (zAb (zBi rfl rfl ?_)))))))))))))))))))
  refine zAd (zAc (g9 _ _ (zAq ?_)))
  refine zB6 [5,6,7,8,9,10,11,12,13,14,15,16,17,18,19,20,21] [5,6] (fun k vs w => ∃ i : Nat, vs = [.bool (hasD (l.take i) z), .int .i64 i] ∧ i ≤ l.length ∧ k = l.length - i ∧ St w0 w F) (l.length) ?_ ?_
  ·
   exact ⟨0, rfl, by omega, by omega, hs⟩
  intro k vs μ ge hI gf g4
  obtain ⟨i, rfl, hia, rfl, hs⟩ := hI
  generalize hb : hasD (l.take i) z = b
  refine zAf (fun gg ga => (zAf (fun gh gc => (zAb (zA6 rfl rfl (w_p (zAx rfl rfl) rfl (w_p (zBc underlying22 rfl rfl) rfl (w_p (zCp rfl rfl rfl rfl) rfl (zAd (zAc (gc _ _ (zAr rfl rfl (fun g0 => ?_) (fun g0 => ?_)))))))))))))
  ·
   try simp only [zS] at g0
   refine zAn (zAc (ga _ _ (zAf (fun gi g5 => (zAq ?_)))))
   have hi2 : i < l.length := by omega
   obtain ⟨bx, ox, hbx, hx⟩ := zCx hl hi2
   subst hbx
   refine zAb (w_p (zAt rfl rfl) rfl (w_p (zAt rfl rfl) rfl (zB5 (fun g3 => ?_) (fun g3 => ?_))))
   ·
    subst g3
    refine zAm rfl rfl rfl ?_
    refine zAm rfl rfl rfl ?_
    refine zAm rfl rfl rfl ?_
    refine zAm rfl rfl rfl ?_
    refine zAm rfl rfl rfl ?_
    refine zAm rfl rfl rfl ?_
    refine w_p (zA5 (v := _) rfl rfl rfl rfl) rfl (w_p (zAs rfl rfl) rfl (zAd (zAi (zAc (g5 _ _ (zAb (zA6 rfl rfl (w_p (zBo rfl rfl rfl rfl (by omega) (by omega)) rfl ?_))))))))
    refine zBw rfl rfl (zAd (zAc (g4 _ _ (nxI (l.length - (i + 1)) (by omega) ?_))))
    first
      | exact ⟨i + 1, bi2 (by rw [zHs hi2, hb]; simp) rfl, by omega, rfl, hs⟩
      | exact ⟨i + 1, bi2 (by rw [zHs hi2, hb]; rfl) rfl, by omega, rfl, hs⟩
   subst g3
   refine w_y rfl rfl rfl (zAx rfl rfl) rfl ?_
   refine w_y rfl rfl rfl (zAy rfl rfl) rfl ?_
   refine w_y rfl rfl rfl (zA7 underlying22 sizeOf3 rfl rfl rfl rfl (i := _) rfl (by omega)) rfl ?_
   refine w_y rfl rfl rfl (zAg isAgg3 hs rfl rfl hx) rfl ?_
   refine w_y rfl rfl rfl (zAy rfl rfl) rfl ?_
   refine w_y rfl rfl rfl (zCa rfl rfl rfl rfl) rfl ?_
   refine w_p (zBg (v := .bool _) rfl rfl rfl rfl) rfl (w_p (zAs rfl rfl) rfl (zAd (zAi (zAc (g5 _ _ (zAb (zA6 rfl rfl (w_p (zBo rfl rfl rfl rfl (by omega) (by omega)) rfl ?_))))))))
   refine zBw rfl rfl (zAd (zAc (g4 _ _ (nxI (l.length - (i + 1)) (by omega) ?_))))
   first
     | exact ⟨i + 1, bi2 (by rw [zHs hi2, hb]; simp) rfl, by omega, rfl, hs⟩
     | exact ⟨i + 1, bi2 (by rw [zHs hi2, hb]; rfl) rfl, by omega, rfl, hs⟩
  try simp only [zS] at g0
  refine zBt (zAj (zAj (zAv (zAc (g8 _ _ (zAf (fun gj gd => (zAb (w_p (zAt rfl rfl) rfl (w_p (zAs rfl rfl) rfl ?_))))))))))
  refine zAd (zAc (gd _ _ (zA8 (zBa (l := [.tmp 4]) (vs := [_]) rfl ⟨⟨rfl, (rfl : _ = Value.bool _)⟩, trivial⟩ ?_))))
  exact ⟨congrArg Value.bool (by have hil : i = l.length := (by omega); subst hil; rw [List.take_length] at hb; exact hb.symm), hs⟩

theorem c10 {w0 w : World} {F : List (Nat × Obj)} (c : Cargo) (p : AtT) (hm : TIn w0 F c p) (hc : c.Ok) (hold : Int) (hs : St w0 w F) :
  Con Tryz.prog 10 [.agg (c.cells p).toArray, .int .i64 hold, .slice none 0 0] w fun v w' => ∃ B, Rt.Own v 3 1 (ofR c hold).length (iv (ofR c hold)) B ∧ St w0 w' (B ++ F) := by
  refine zAo (n := 35) func10 rfl rfl (zNl rfl) ?_
  obtain ⟨ae, ce, ah, ch, al, cl, an, cn⟩ := p
  have hll := hc.ll
  refine zAf (fun K2 g8 => (zAb (zCj (v := .agg #[.slice _ _ _, .int _ _, .slice _ _ _, .slice _ _ _, .slice _ _ _]) (cs := [_,_,_,_,_]) zAa rfl rfl rfl hs (fun b3 w4 g9 => ?_))))
  refine zBi rfl rfl (zAd (zAc (g8 _ _ (zAf (fun K7 ga => (zAb (zBi rfl rfl (zAd (zAc (ga _ _ (zAf (fun K9 gc => (zAf (fun gn gd => (zAb (zBi rfl rfl ?_))))))))))))))))
  refine zAd (zAc (gd _ _ (zAq ?_)))
  refine zB6 [7,8,9,10,11,12,13,14,15,16,17,18,19,20,21,22,23,24,25,26,27,28,29,30,31,32,33] [7,8] (fun k vs w => ∃ (i : Nat) (v : Value) (B : List (Nat × Obj)), vs = [v, .int .i64 i] ∧ i ≤ c.lots.length ∧ k = c.lots.length - i ∧ Rt.Own v 3 1 (ofRTo c hold i).length (iv (ofRTo c hold i)) B ∧ St w0 w ((b3, blk 27 (c.cells ⟨ae, ce, ah, ch, al, cl, an, cn⟩)) :: (B ++ F))) (c.lots.length) ?_ ?_
  ·
   exact ⟨0, _, [], rfl, by omega, by omega, zEm 3 1, g9⟩
  intro k vs μ go hI gp g5
  obtain ⟨i, v, B, rfl, hia, rfl, hown, hs⟩ := hI
  refine zAf (fun gq ge => (zAf (fun gt gf => (zAb (zA6 rfl rfl (w_p (zAe (o := 3) (i := 3) underlying27 rfl sizeOf24 rfl rfl rfl) rfl (w_p (zAg isAgg24 hs rfl rfl (aow 0 [_])) rfl ?_)))))))
  refine w_p (zBc underlying24 rfl rfl) rfl (w_p (zCp rfl rfl rfl rfl) rfl (zAd (zAc (gf _ _ (zAr rfl rfl (fun g0 => ?_) (fun g0 => ?_))))))
  ·
   try simp only [zS] at g0
   refine zAn (zAc (ge _ _ (zAf (fun gu g6 => (zAq ?_)))))
   refine zAf (fun gv g7 => ?_)
   have hi2 : i < c.lots.length := by omega
   obtain ⟨bx, ox, rfl, hx⟩ := sl_lrows hm.l hi2
   have hol := ofR_len c hold i
   refine zAb (w_p (zAe (o := 3) (i := 3) underlying27 rfl sizeOf24 rfl rfl rfl) rfl (w_p (zAg isAgg24 hs rfl rfl (aow 0 [_])) rfl (zA6 rfl rfl (w_p (zA7 underlying24 sizeOf38 rfl rfl rfl rfl (i := _) rfl (by omega)) rfl ?_))))
   refine w_p (zAe (o := 0) (i := 0) underlying38 rfl sizeOf3 rfl rfl rfl) rfl (w_p (zAg isAgg3 hs.tail.drop rfl rfl (show Ats _ _ _ _ [_] from Ats.part hx 0 1)) rfl (zA6 rfl rfl (w_p (zCa rfl rfl rfl rfl) rfl (w_p (zAt rfl rfl) rfl (zB5 (fun g3 => ?_) (fun g3 => ?_))))))
   ·
    try simp only [zS] at g3
    refine w_y rfl rfl rfl (zAx rfl rfl) rfl ?_
    refine w_y rfl rfl rfl (zAy rfl rfl) rfl ?_
    refine zA4 (zAh rfl rfl rfl) call41 rfl rfl rfl rfl ((c41 none 0 [] (by simp) (Sl.nil _ _) (i : Int) hs).mono (fun v w2 h => (show v = .bool false ∧ _ from h))) ?_
    rintro _ gw ⟨rfl, gg⟩
    refine w_y rfl rfl rfl (zDo rfl rfl) rfl ?_
    refine w_p (zA5 (v := .bool _) rfl rfl rfl rfl) rfl (zAd (zAc (g7 _ _ (zDb rfl rfl ?_))))
    refine zAb (w_p (zBy (v := v) rfl rfl) rfl (zA6 rfl rfl (zAu (ps := [(0, _)]) (pv := [(0, .int _ _)]) (cs := [_]) zAa rfl rfl (fun w => Try_RB_fb0 _ w) gg (fun gx gy gh => ?_))))
    refine zC7 (X := (_ :: _ :: [])) (B := B) (rows := [[_]]) (sz := 1) (bytes := 8) zAa underlying22 zC3 rfl rfl rfl rfl rfl rfl rfl rfl rfl gh hown (zBb (i := 0) rfl (by simp) rfl) rfl (by simp) (by simp [Value.oneCell']) (by simp only [maxLen]; omega) (by omega) (fun gi gz gj gk g4 => ?_)
    replace g4 := (show St _ _ (_ :: _ :: gj ++ (F)) from g4)
    refine w_p (zCu (v := gi) rfl rfl) rfl (zAd (zAi (zAc (g6 _ _ (zAb (zA6 rfl rfl (w_p (zBo rfl rfl rfl rfl (by omega) (by omega)) rfl ?_)))))))
    refine zBw rfl rfl (zAd (zAc (g5 _ _ (nxI (c.lots.length - (i + 1)) (by omega) ?_))))
    exact ⟨i + 1, _,_, rfl, by omega, rfl, by rw [ofR_yes hi2 (by assumption)]; exact zFi gk, g4.tail⟩
   try simp only [zS] at g3
   refine zAm rfl rfl rfl ?_
   refine zAm rfl rfl rfl ?_
   refine zAm rfl rfl rfl ?_
   refine zAm rfl rfl rfl ?_
   refine w_p (zBg (v := _) rfl rfl rfl rfl) rfl (zAd (zAc (g7 _ _ (zBs rfl rfl ?_))))
   refine zAn (zAi (zAc (g6 _ _ (zAb (zA6 rfl rfl (w_p (zBo rfl rfl rfl rfl (by omega) (by omega)) rfl (zBw rfl rfl (zAd (zAc (g5 _ _ (nxI (c.lots.length - (i + 1)) (by omega) ?_)))))))))))
   exact ⟨i + 1, v, B, rfl, by omega, rfl, by rw [ofR_no hi2 (by assumption)]; exact hown, hs⟩
  try simp only [zS] at g0
  refine zBt (zAj (zAj (zAv (zAc (gc _ _ (zAf (fun gA gm => (zAb (w_p (zBy (v := v) rfl rfl) rfl (w_p (zCu (v := v) rfl rfl) rfl ?_))))))))))
  refine zAd (zAc (gm _ _ (zA8 (zBa (l := [.tmp 6]) (vs := [_]) rfl ⟨⟨rfl, show _ = (v : Value) from rfl⟩, trivial⟩ ?_))))
  have hin : i = c.lots.length := by omega
  subst hin
  exact ⟨B, hown, hs.tail⟩

theorem c9 {w0 w : World} {F : List (Nat × Obj)} (c : Cargo) (p : AtT) (hm : TIn w0 F c p) (hc : c.Ok) (als : Option Addr) (cls : Nat) (ls : List Int) (hlsl : ls.length ≤ 9223372036854775806) (hls : Sl w0 F als 1 (ls.map fun x => [Value.int .i64 x])) (hlis : Lis c ls) (wm : Int) (hw : 0 ≤ wm ∧ wm ≤ 6) (ag : Option Addr) (cg : Nat) (g : List Int) (hg : Sl w0 F ag 1 (g.map fun x => [Value.int .i64 x])) (hgn : ag = none → cg = 0) (hgl : g.length = c.lots.length) (hgb : ∀ i, 0 ≤ g.getD i 0 ∧ g.getD i 0 ≤ 40) (hs : St w0 w F) :
  Con Tryz.prog 9 [.agg (c.cells p).toArray, .slice als ls.length cls, .agg #[.int .i64 wm, .slice ag g.length cg]] w fun v w' => ∃ b, v = .slice (some ⟨b, 0, none⟩) c.lots.length c.lots.length ∧ St w0 w' ((b, blk 3 (iv (rTimes c ls wm g))) :: F) := by
  refine zAo (n := 159) func9 rfl rfl (zNl rfl) ?_
  obtain ⟨ae, ce, ah, ch, al, cl, an, cn⟩ := p
  have hle := hm.le
  have hll := hc.ll
  have hl8 := hc.le
  have hcg := hc.gas
  refine zAf (fun K2 gI => (zAb (zCj (v := .agg #[.slice _ _ _, .int _ _, .slice _ _ _, .slice _ _ _, .slice _ _ _]) (cs := [_,_,_,_,_]) zAa rfl rfl rfl hs (fun b3 w4 gJ => ?_))))
  refine zCj (v := .agg #[.int _ _, .slice _ _ _]) (cs := [_,_]) zAa rfl rfl rfl gJ (fun b6 w7 gA => ?_)
  refine zBi rfl rfl (zAd (zAc (gI _ _ (zAf (fun ji gK => (zAb (w_p (zAe (o := 3) (i := 3) underlying27 rfl sizeOf24 rfl rfl rfl) rfl (w_p (zAg isAgg24 gA rfl rfl (aow 1 [_])) rfl ?_))))))))
  refine w_p (zBc underlying24 rfl rfl) rfl (w_makeInts (k := c.lots.length) zAa underlying22 zC3 rfl rfl (by omega) rfl rfl rfl rfl rfl gA (fun g4 jj gL => ?_))
  refine w_p (zBz rfl rfl) rfl (zAd (zAc (gK _ _ (zAf (fun jk gM => (zAb (zAu (ps := []) (pv := []) (cs := []) zAa rfl rfl (fun w => Try_RB_fb2  w) gL (fun jl jm gB => ?_))))))))
  refine w_p (zAe (o := 1) (i := 1) underlying44 rfl sizeOf22 rfl rfl rfl) rfl (w_p (zAg isAgg22 gB rfl rfl (aow 2 [_])) rfl ?_)
  refine zC7 (X := ([])) (B := [_]) (rows := (g.map fun x => [Value.int .i64 x])) (sz := 1) (bytes := 8) zAa underlying22 zC3 rfl rfl rfl rfl rfl rfl rfl rfl rfl gB zHm hg.cons.cons.cons.cons (by simp) hgn (ints_one _) (by simp only [maxLen]; omega) (by omega) (fun gN jo g5 gd ge => ?_)
  replace ge := (show St _ _ (g5 ++ (_ :: _ :: _ :: F)) from ge)
  refine w_p (zCu (v := gN) rfl rfl) rfl (zAd (zAc (gM _ _ (zAf (fun jp gO => (zAf (fun jq gP => ?_)))))))
  have gQ := (show St _ _ (_ :: _ :: _ :: (g5 ++ (F))) from St.pk [g5, [_], [_], [_]] [1,2,3,0] ge)
  rw [flat_ints, List.nil_append, Nat.zero_add, hgl] at gd
  obtain ⟨aL, cL, rfl⟩ := Rt.Own.slice gd
  have hlo0 := gd
  refine zAb (zBi rfl rfl (zAd (zAc (gP _ _ (zAq ?_)))))
  refine zB6 [9,25,26,27,28,29,30,31,32,33,34,35] [9] (fun k vs w => ∃ (i : Nat), vs = [.int .i64 i] ∧ i ≤ c.lots.length ∧ k = c.lots.length - i ∧ St w0 w ((g4, blk 3 (iv (fillR c.lots.length (never c) i))) :: (b6, blk 44 [.int .i64 wm, .slice ag g.length cg]) :: (b3, blk 27 (c.cells ⟨ae, ce, ah, ch, al, cl, an, cn⟩)) :: (g5 ++ F))) (c.lots.length) ?_ ?_
  ·
   exact ⟨0, rfl, by omega, by omega, gQ⟩
  intro k vs μ jr hI js gR
  obtain ⟨i, rfl, hia, rfl, hs⟩ := hI
  have hfl := zFo c.lots.length (never c) i
  refine zAf (fun jt gS => (zAf (fun ju gT => (zAb (zA6 rfl rfl (w_p (zAx rfl rfl) rfl (w_p (zBc underlying22 rfl rfl) rfl (w_p (zCp rfl rfl rfl rfl) rfl (zAd (zAc (gT _ _ (zAr rfl rfl (fun gf => ?_) (fun gf => ?_)))))))))))))
  ·
   try simp only [zS] at gf
   refine zAn (zAc (gS _ _ (zAf (fun jv gU => (zAq ?_)))))
   refine zAb (w_p (zAx rfl rfl) rfl (zA6 rfl rfl (w_p (zA2 (vs := [_,_,_,_,_]) isAgg27 sizeOf27 hs rfl rfl (aow 2 [_,_,_,_,_])) rfl ?_)))
   refine zCo zAa call12 rfl rfl rfl rfl (c12 c _ (by omega) hs) (fun jw gV => ?_)
   refine w_p (zA7 underlying22 sizeOf3 rfl rfl rfl rfl (i := i) (by first | rfl | omega) (by omega)) rfl ?_
   refine zDp (i := 0) (j := i) zAa sizeOf3 rfl rfl rfl rfl gV rfl (by first | omega | rfl | (simp only [zL] <;> omega)) (fun jx gW => ?_)
   refine zAd (zAi (zAc (gU _ _ (zAb (zA6 rfl rfl (w_p (zBo rfl rfl rfl rfl (by omega) (by omega)) rfl (zBw rfl rfl (zAd (zAc (gR _ _ (nxI (c.lots.length - (i + 1)) (by omega) ?_)))))))))))
   exact ⟨i + 1, rfl, by omega, rfl, gW⟩
  try simp only [zS] at gf
  refine zBt (zAj (zAj (zAv (zAc (gO _ _ (zAf (fun jy gX => (zAf (fun jz gY => ?_)))))))))
  have hin : i = c.lots.length := by omega
  subst hin
  refine zAb (zBi rfl rfl (zAd (zAc (gY _ _ (zAq ?_)))))
  refine zB6 [10,11,12,13,14,15,16,36,37,38,39,40,41,42,43,44,45,46,47,48,49,50,51,52,53,54,55,56,57,58,59,60,61,62,63,64,65,66,67,68,69,70,71,72,73,74,75,76,77,78,79,80,81,82,83,84,85,86,87,88,89,90,91,92,93,94,95,96,97,98,99,100,101,102,103,104,105,106,107,108,109,110,111,112,113,114,115,116,117,118,119,120,121,122,123,124,125,126,127,128,129,130,131,132,133,134,135,136,137,138,139,140,141,142,143,144,145,146,147,148,149,150,151,152,153,154,155,156,157] [10] (fun k vs w => ∃ (h : Nat) (out left : List Int) (LB : List (Nat × Obj)), vs = [.int .i64 h] ∧ h ≤ c.heat.length + 1 ∧ k = c.heat.length + 1 - h ∧ (h ≤ c.heat.length ∧ out = (rHourTo c wm ls g h).1 ∧ left = (rHourTo c wm ls g h).2 ∨ h = c.heat.length + 1 ∧ out = rTimes c ls wm g) ∧ left.length = c.lots.length ∧ out.length = c.lots.length ∧ Rt.Own (.slice aL c.lots.length cL) 3 1 c.lots.length (iv left) LB ∧ St w0 w ((g4, blk 3 (iv out)) :: (b6, blk 44 [.int .i64 wm, .slice ag g.length cg]) :: (b3, blk 27 (c.cells ⟨ae, ce, ah, ch, al, cl, an, cn⟩)) :: (LB ++ F))) (c.heat.length + 1) ?_ ?_
  ·
   exact ⟨0, _, g, g5, rfl, by omega, by omega, .inl ⟨by omega, fillR_all _ _, rfl⟩, hgl, by rw [zFo], hlo0, hs⟩
  intro k vs μ jA hI jB gC
  clear hs
  obtain ⟨h, out, left, LB, rfl, hha, rfl, hcase, hll2, hol, hlo, hs⟩ := hI
  refine zAf (fun jC gZ => (zAf (fun jD hD => (zAb (zA6 rfl rfl (w_p (zAe (o := 0) (i := 0) underlying27 rfl sizeOf22 rfl rfl rfl) rfl (w_p (zAg isAgg22 hs rfl rfl (aow 2 [_])) rfl ?_)))))))
  refine w_p (zBc underlying22 rfl rfl) rfl (w_p (zFc rfl rfl rfl rfl) rfl (zAd (zAc (hD _ _ (zAr rfl rfl (fun gg => ?_) (fun gg => ?_))))))
  ·
   try simp only [zS] at gg
   refine zAn (zAc (gZ _ _ (zAf (fun jE gD => (zAq ?_)))))
   refine zAf (fun jF hN => (zAf (fun jG hP => ?_)))
   have hh : h ≤ c.heat.length := by omega
   obtain ⟨_, hout, hleft⟩ := hcase.resolve_right (fun x => by have := x.1; omega)
   have hbd : Bd h left := by rw [hleft]; exact bd_hour hc.t hlis hw hgl hgb h hh
   refine zAb (zBi rfl rfl (zAd (zAc (hP _ _ (zAq ?_)))))
   refine zB6 [11,12,43,44,45,46,47,48,49,50,51,52,53,54,55,56,57,58,59,60,61,62,63,64,65,66,67,68,69,70,71,72,73,74,75,76,77,78,79,80] [11] (fun kk vs w => ∃ (k : Nat), vs = [.int .i64 k] ∧ k ≤ ls.length ∧ kk = ls.length - k ∧ St w0 w ((g4, blk 3 (iv (rMark c h left ls out k))) :: (b6, blk 44 [.int .i64 wm, .slice ag g.length cg]) :: (b3, blk 27 (c.cells ⟨ae, ce, ah, ch, al, cl, an, cn⟩)) :: (LB ++ F))) (ls.length) ?_ ?_
   ·
    exact ⟨0, rfl, by omega, by omega, hs⟩
   intro k vs μ jH hI jI g7
   clear hs
   obtain ⟨k, rfl, hka, rfl, hs⟩ := hI
   refine zAf (fun jJ hX => (zAf (fun jK hY => (zAb (zA6 rfl rfl (w_p (zAx rfl rfl) rfl (w_p (zBc underlying22 rfl rfl) rfl (w_p (zCp rfl rfl rfl rfl) rfl (zAd (zAc (hY _ _ (zAr rfl rfl (fun gh => ?_) (fun gh => ?_)))))))))))))
   ·
    try simp only [zS] at gh
    refine zAn (zAc (hX _ _ (zAf (fun jL g8 => (zAq ?_)))))
    refine zAf (fun jM j0 => ?_)
    have hk2 : k < ls.length := by omega
    obtain ⟨bz, oz, rfl, hz⟩ := zCx hls hk2
    obtain ⟨j, hj, hjl⟩ := hlis.ix _ (List.getElem_mem hk2)
    refine zAb (w_p (zAx rfl rfl) rfl (zA6 rfl rfl (w_p (zA7 underlying22 sizeOf3 rfl rfl rfl rfl (i := _) rfl (by omega)) rfl (w_p (zAg isAgg3 hs.tail.tail.tail.drop rfl rfl hz) rfl (zBw rfl rfl (zAd (zAc (j0 _ _ (zAf (fun jN gi => ?_))))))))))
    obtain ⟨bl, cs, rfl, rfl, hcap, hmx, hcl, htk⟩ := own_some2 hlo (show 0 < c.lots.length by omega)
    replace hs := (show St _ _ (_ :: _ :: _ :: _ :: F) from hs)
    have hml := zEx c h left ls out k
    have hlx := fun R => own_read (w0 := w0) (R := R) (b := bl) htk hll2 hjl
    obtain ⟨by_, oy, hby, hy⟩ := sl_lrows hm.l hjl
    refine zCq [] [(0,0),(1,0),(2,0),(3,1),(4,1),(5,2),(6,0),(7,0),(8,0),(9,1),(10,0),(11,0),(12,0),(13,1),(14,0),(15,0),(16,0),(17,0),(18,0),(19,0),(20,0),(21,1),(22,0),(23,0)] zB4 (zBk (by kernel_rfl)) hs (fun jO gj => ?_)
    refine d_w rfl (fun _ => zAx rfl rfl) rfl (d_w rfl (fun _ => zAy rfl rfl) rfl (d_w rfl (fun _ => zA7 underlying22 sizeOf3 rfl rfl rfl rfl (i := j) hj (by omega)) rfl ?_))
    refine zAz rfl zAa rfl gj (fun _ hq => (zAg isAgg3 hq rfl rfl (zC9 (i := 0) (j := j) rfl (by first | omega | rfl | (simp only [zL] <;> omega))))) ?_
    refine zAz rfl zAa rfl gj (fun _ hq => (zA2 (vs := [_,_,_,_,_]) isAgg27 sizeOf27 hq rfl rfl (aow 2 [_,_,_,_,_]))) ?_
    refine zBh rfl ?_
    refine zCo zAa call12 rfl rfl rfl rfl (c12 c _ (by omega) gj) (fun jP g0 => ?_)
    refine zAd (qn ⟨g0, ?_⟩)
    refine d_w rfl (fun _ => zCa rfl rfl rfl rfl) rfl (d_w rfl (fun _ => zAt rfl rfl) rfl ?_)
    refine zC6 (fun gk => ?_) (fun gk => ?_)
    ·
     try simp only [zS] at gk
     refine zBe rfl (zAh rfl rfl rfl) rfl (fun _ => (zAe (o := 3) (i := 3) underlying27 rfl sizeOf24 rfl rfl rfl)) ?_
     refine zAz rfl (zAh rfl rfl rfl) rfl g0 (fun _ hq => (zCl hby (zAg isAgg24 hq rfl rfl (aow 2 [_])))) ?_
     refine zBe rfl (zAh rfl rfl rfl) rfl (fun _ => (zAy rfl rfl)) ?_
     refine zBe rfl (zAh rfl rfl rfl) rfl (fun _ => (zA7 underlying24 sizeOf38 rfl rfl rfl rfl (i := j) hj hjl)) ?_
     refine zBe rfl (zAh rfl rfl rfl) rfl (fun _ => (zAe (o := 1) (i := 1) underlying38 rfl sizeOf3 rfl rfl rfl)) ?_
     refine zAz rfl (zAh rfl rfl rfl) rfl g0 (fun _ hq => (zAg isAgg3 hq.tail.tail.tail.tail rfl rfl (show Ats _ _ _ _ [_] from Ats.part hy 1 1))) ?_
     refine zBe rfl (zAh rfl rfl rfl) rfl (fun _ => (zAy rfl rfl)) ?_
     refine zBe rfl (zAh rfl rfl rfl) rfl (fun _ => (zFc rfl rfl rfl rfl)) ?_
     refine d_w rfl (fun _ => zA5 (v := .bool _) rfl rfl rfl rfl) rfl (d_w rfl (fun _ => zAt rfl rfl) rfl ?_)
     refine zC6 (fun gm => ?_) (fun gm => ?_)
     ·
      try simp only [zS] at gm
      refine zBe rfl (zAh rfl rfl rfl) rfl (fun _ => (zAx rfl rfl)) ?_
      refine zBe rfl (zAh rfl rfl rfl) rfl (fun _ => (zAy rfl rfl)) ?_
      refine zBe rfl (zAh rfl rfl rfl) rfl (fun _ => (zA7 underlying22 sizeOf3 rfl rfl rfl rfl (i := j) hj (by omega))) ?_
      refine zAz rfl (zAh rfl rfl rfl) rfl g0 (fun _ hq => (zAg isAgg3 hq.tail.tail.tail rfl rfl (hlx _))) ?_
      refine zBe rfl (zAh rfl rfl rfl) rfl (fun _ => (zFc rfl rfl rfl rfl)) ?_
      refine d_w rfl (fun _ => zA5 (v := .bool _) rfl rfl rfl rfl) rfl ?_
      refine zBm ?_
      refine zAc (gi _ _ (zAr rfl rfl (fun gn => ?_) (fun gn => ?_)))
      ·
       try simp only [zS] at gn
       refine zAb (w_p (zAx rfl rfl) rfl (zA6 rfl rfl (zA6 rfl rfl (w_p (zA7 underlying22 sizeOf3 rfl rfl rfl rfl (i := j) hj (by omega)) rfl (zDp (i := 0) (j := j) zAa sizeOf3 rfl rfl rfl rfl g0 rfl (by first | omega | rfl | (simp only [zL] <;> omega)) (fun jQ gE => ?_))))))
       refine zAd (zAi (zAc (g8 _ _ (zAb (zA6 rfl rfl (w_p (zBo rfl rfl rfl rfl (by omega) (by omega)) rfl (zBw rfl rfl (zAd (zAc (g7 _ _ (nxI (ls.length - (k + 1)) (by omega) ?_)))))))))))
       first
         | exact ⟨k + 1, rfl, by omega, rfl, by rw [← zI8 hk2 hj hjl (by assumption) (by assumption) (by assumption)]; exact gE⟩
         | exact ⟨k + 1, rfl, by omega, rfl, by rw [mark_no hk2 hj hjl (by omega)]; exact gE⟩
      try simp only [zS] at gn
      refine zAn (zAi (zAc (g8 _ _ (zAb (zA6 rfl rfl (w_p (zBo rfl rfl rfl rfl (by omega) (by omega)) rfl (zBw rfl rfl (zAd (zAc (g7 _ _ (nxI (ls.length - (k + 1)) (by omega) ?_)))))))))))
      first
        | exact ⟨k + 1, rfl, by omega, rfl, by rw [← zI8 hk2 hj hjl (by assumption) (by assumption) (by assumption)]; exact g0⟩
        | exact ⟨k + 1, rfl, by omega, rfl, by rw [mark_no hk2 hj hjl (by omega)]; exact g0⟩
     try simp only [zS] at gm
     refine zBl rfl rfl rfl rfl ?_
     refine zBl rfl rfl rfl rfl ?_
     refine zBl rfl rfl rfl rfl ?_
     refine zCb rfl rfl rfl rfl g0 ?_
     refine zBl rfl rfl rfl rfl ?_
     refine d_w rfl (fun _ => zBg (v := _) rfl rfl rfl rfl) rfl ?_
     refine zBm ?_
     refine zAc (gi _ _ (zBs rfl rfl ?_))
     refine zAn (zAi (zAc (g8 _ _ (zAb (zA6 rfl rfl (w_p (zBo rfl rfl rfl rfl (by omega) (by omega)) rfl (zBw rfl rfl (zAd (zAc (g7 _ _ (nxI (ls.length - (k + 1)) (by omega) ?_)))))))))))
     first
       | exact ⟨k + 1, rfl, by omega, rfl, by rw [← zI8 hk2 hj hjl (by assumption) (by assumption) (by assumption)]; exact g0⟩
       | exact ⟨k + 1, rfl, by omega, rfl, by rw [mark_no hk2 hj hjl (by omega)]; exact g0⟩
    try simp only [zS] at gk
    refine zBl rfl rfl rfl rfl ?_
    refine zCb rfl rfl rfl rfl g0 ?_
    refine zBl rfl rfl rfl rfl ?_
    refine zBl rfl rfl rfl rfl ?_
    refine zBl rfl rfl rfl rfl ?_
    refine zCb rfl rfl rfl rfl g0 ?_
    refine zBl rfl rfl rfl rfl ?_
    refine zBl rfl rfl rfl rfl ?_
    refine d_w rfl (fun _ => zBg (v := _) rfl rfl rfl rfl) rfl (d_w rfl (fun _ => zAt rfl rfl) rfl ?_)
    refine zBl rfl rfl rfl rfl ?_
    refine zBl rfl rfl rfl rfl ?_
    refine zBl rfl rfl rfl rfl ?_
    refine zCb rfl rfl rfl rfl g0 ?_
    refine zBl rfl rfl rfl rfl ?_
    refine d_w rfl (fun _ => zBg (v := _) rfl rfl rfl rfl) rfl ?_
    refine zBm ?_
    refine zAc (gi _ _ (zBs rfl rfl ?_))
    refine zAn (zAi (zAc (g8 _ _ (zAb (zA6 rfl rfl (w_p (zBo rfl rfl rfl rfl (by omega) (by omega)) rfl (zBw rfl rfl (zAd (zAc (g7 _ _ (nxI (ls.length - (k + 1)) (by omega) ?_)))))))))))
    first
      | exact ⟨k + 1, rfl, by omega, rfl, by rw [← zI8 hk2 hj hjl (by assumption) (by assumption) (by assumption)]; exact g0⟩
      | exact ⟨k + 1, rfl, by omega, rfl, by rw [mark_no hk2 hj hjl (by omega)]; exact g0⟩
   try simp only [zS] at gh
   refine zBt (zAj (zAj (zAv (zAc (hN _ _ (zAf (fun jR j1 => (zAf (fun jS j3 => (zAb (zA6 rfl rfl (w_p (zAe (o := 0) (i := 0) underlying27 rfl sizeOf22 rfl rfl rfl) rfl ?_))))))))))))
   refine w_p (zAg isAgg22 hs rfl rfl (aow 2 [_])) rfl (w_p (zBc underlying22 rfl rfl) rfl (w_p (zCa rfl rfl rfl rfl) rfl (zAd ?_)))
   refine zAc (j3 _ _ (zAr rfl rfl (fun go => ?_) (fun go => ?_)))
   ·
    try simp only [zS] at go
    refine zBt (zAj (zAv (zAc (gD _ _ (zAb (zA6 rfl rfl (w_p (zBo rfl rfl rfl rfl (by omega) (by omega)) rfl (zBw rfl rfl (zAd (zAc (gC _ _ (nxI (c.heat.length + 1 - (h + 1)) (by omega) ?_))))))))))))
    have hkl : k = ls.length := by omega
    subst hkl
    have hhH : h = c.heat.length := by omega
    exact ⟨h + 1, _, left, LB, rfl, by omega, by omega, .inr ⟨by omega, by unfold rTimes; rw [← hhH, ← hout, ← hleft]⟩, hll2, by rw [zEx, hol], hlo, hs⟩
   try simp only [zS] at go
   refine zAn (zAc (j1 _ _ (zAf (fun jT j4 => ?_))))
   have hkl : k = ls.length := by omega
   subst hkl
   obtain ⟨O, hO⟩ : ∃ O, O = rMark c h left ls out ls.length := ⟨_, rfl⟩
   rw [← hO] at hs
   have hOl : O.length = c.lots.length := by rw [hO, zEx, hol]
   have hh2 : h < c.heat.length := by omega
   refine zAb (zBi rfl rfl (zAd (zAc (j4 _ _ (zAq ?_)))))
   refine zB6 [13,14,15,16,86,87,88,89,90,91,92,93,94,95,96,97,98,99,100,101,102,103,104,105,106,107,108,109,110,111,112,113,114,115,116,117,118,119,120,121,122,123,124,125,126,127,128,129,130,131,132,133,134,135,136,137,138,139,140,141,142,143,144,145,146,147,148,149,150,151,152,153,154,155,156,157] [13] (fun kk vs w => ∃ (k : Nat) (LD : List (Nat × Obj)), vs = [.int .i64 k] ∧ k ≤ ls.length ∧ kk = ls.length - k ∧ Rt.Own (.slice aL c.lots.length cL) 3 1 c.lots.length (iv (rDec c h wm O ls left k)) LD ∧ St w0 w ((g4, blk 3 (iv O)) :: (b6, blk 44 [.int .i64 wm, .slice ag g.length cg]) :: (b3, blk 27 (c.cells ⟨ae, ce, ah, ch, al, cl, an, cn⟩)) :: (LD ++ F))) (ls.length) ?_ ?_
   ·
    exact ⟨0, LB, rfl, by omega, by omega, hlo, hs⟩
   intro k vs μ jU hI jV g9
   clear hs
   obtain ⟨k, LD, rfl, hka, rfl, hld, hs⟩ := hI
   refine zAf (fun jW j5 => (zAf (fun jX j6 => (zAb (zA6 rfl rfl (w_p (zAx rfl rfl) rfl (w_p (zBc underlying22 rfl rfl) rfl (w_p (zCp rfl rfl rfl rfl) rfl (zAd (zAc (j6 _ _ (zAr rfl rfl (fun gp => ?_) (fun gp => ?_)))))))))))))
   ·
    try simp only [zS] at gp
    refine zAn (zAc (j5 _ _ (zAf (fun jY ga => (zAq ?_)))))
    refine zAf (fun jZ j7 => ?_)
    have hk2 : k < ls.length := by omega
    obtain ⟨bz, oz, rfl, hz⟩ := zCx hls hk2
    obtain ⟨j, hj, hjl⟩ := hlis.ix _ (List.getElem_mem hk2)
    refine zAb (w_p (zAx rfl rfl) rfl (zA6 rfl rfl (w_p (zA7 underlying22 sizeOf3 rfl rfl rfl rfl (i := _) rfl (by omega)) rfl (w_p (zAg isAgg3 hs.tail.tail.tail.drop rfl rfl hz) rfl (zBw rfl rfl (zAd (zAc (j7 _ _ (zAf (fun k4 j8 => (zAf (fun k5 gF => ?_))))))))))))
    obtain ⟨by_, oy, hby, hy⟩ := sl_lrows hm.l hjl
    refine zCq [] [(0,0),(1,0),(2,0),(3,1),(4,1),(5,2),(6,0),(7,0),(8,0),(9,1),(10,0),(11,0),(12,0),(13,1),(14,0),(15,0),(16,0)] zB4 (zBk (by kernel_rfl)) hs (fun k6 gq => ?_)
    refine d_w rfl (fun _ => zAx rfl rfl) rfl (d_w rfl (fun _ => zAy rfl rfl) rfl (d_w rfl (fun _ => zA7 underlying22 sizeOf3 rfl rfl rfl rfl (i := j) hj (by omega)) rfl ?_))
    refine zAz rfl zAa rfl gq (fun _ hq => (zAg isAgg3 hq rfl rfl (zC9 (i := 0) (j := j) rfl (by first | omega | rfl | (simp only [zL] <;> omega))))) ?_
    refine zAz rfl zAa rfl gq (fun _ hq => (zA2 (vs := [_,_,_,_,_]) isAgg27 sizeOf27 hq rfl rfl (aow 2 [_,_,_,_,_]))) ?_
    refine zBh rfl ?_
    refine zCo zAa call12 rfl rfl rfl rfl (c12 c _ (by omega) gq) (fun k7 g3 => ?_)
    refine zAd (qn ⟨g3, ?_⟩)
    refine d_w rfl (fun _ => zCs rfl rfl rfl rfl) rfl (d_w rfl (fun _ => zAt rfl rfl) rfl ?_)
    refine zC6 (fun gt => ?_) (fun gt => ?_)
    ·
     try simp only [zS] at gt
     refine zBl rfl rfl rfl rfl ?_
     refine zCb rfl rfl rfl rfl g3 ?_
     refine zBl rfl rfl rfl rfl ?_
     refine zBl rfl rfl rfl rfl ?_
     refine zBl rfl rfl rfl rfl ?_
     refine zCb rfl rfl rfl rfl g3 ?_
     refine zBl rfl rfl rfl rfl ?_
     refine zBl rfl rfl rfl rfl ?_
     refine d_w rfl (fun _ => zA5 (v := _) rfl rfl rfl rfl) rfl ?_
     refine zBm ?_
     refine zAc (gF _ _ (zDb rfl rfl ?_))
     refine zBt (zAj (zAv (zAc (ga _ _ (zAb (zA6 rfl rfl (w_p (zBo rfl rfl rfl rfl (by omega) (by omega)) rfl (zBw rfl rfl (zAd (zAc (g9 _ _ (nxI (ls.length - (k + 1)) (by omega) ?_))))))))))))
     exact ⟨k + 1, LD, rfl, by omega, rfl, by rw [dec_no hk2 hj hjl (by omega)]; exact hld, g3⟩
    try simp only [zS] at gt
    refine zBe rfl (zAh rfl rfl rfl) rfl (fun _ => (zAe (o := 3) (i := 3) underlying27 rfl sizeOf24 rfl rfl rfl)) ?_
    refine zAz rfl (zAh rfl rfl rfl) rfl g3 (fun _ hq => (zCl hby (zAg isAgg24 hq rfl rfl (aow 2 [_])))) ?_
    refine zBe rfl (zAh rfl rfl rfl) rfl (fun _ => (zAy rfl rfl)) ?_
    refine zBe rfl (zAh rfl rfl rfl) rfl (fun _ => (zA7 underlying24 sizeOf38 rfl rfl rfl rfl (i := j) hj hjl)) ?_
    refine zBe rfl (zAh rfl rfl rfl) rfl (fun _ => (zAe (o := 1) (i := 1) underlying38 rfl sizeOf3 rfl rfl rfl)) ?_
    refine zAz rfl (zAh rfl rfl rfl) rfl g3 (fun _ hq => (zAg isAgg3 hq.tail.tail.tail.drop rfl rfl (show Ats _ _ _ _ [_] from Ats.part hy 1 1))) ?_
    refine zBe rfl (zAh rfl rfl rfl) rfl (fun _ => (zAy rfl rfl)) ?_
    refine zBe rfl (zAh rfl rfl rfl) rfl (fun _ => (zEf rfl rfl rfl rfl)) ?_
    refine d_w rfl (fun _ => zBg (v := .bool _) rfl rfl rfl rfl) rfl ?_
    refine zBm ?_
    refine zAc (gF _ _ (zAr rfl rfl (fun gu => ?_) (fun gu => ?_)))
    ·
     try simp only [zS] at gu
     refine zBt (zAj (zAv (zAc (ga _ _ (zAb (zA6 rfl rfl (w_p (zBo rfl rfl rfl rfl (by omega) (by omega)) rfl (zBw rfl rfl (zAd (zAc (g9 _ _ (nxI (ls.length - (k + 1)) (by omega) ?_))))))))))))
     exact ⟨k + 1, LD, rfl, by omega, rfl, by rw [dec_no hk2 hj hjl (by omega)]; exact hld, g3⟩
    try simp only [zS] at gu
    refine zAn (zAc (j8 _ _ (zAf (fun k8 j9 => (zAb (zBi rfl rfl (zAd (zAc (j9 _ _ (zAf (fun k9 ja => (zAf (fun ka jb => (zAb (zBi rfl rfl ?_)))))))))))))))
    refine zAd (zAc (jb _ _ (zAq ?_)))
    refine zB6 [15,16,113,114,115,116,117,118,119,120,121,122,123,124,125,126,127,128,129,130] [15,16] (fun kk vs w => ∃ (q : Nat), vs = [.bool (rGas h O ls q), .int .i64 q] ∧ q ≤ ls.length ∧ kk = ls.length - q ∧ St w0 w ((g4, blk 3 (iv O)) :: (b6, blk 44 [.int .i64 wm, .slice ag g.length cg]) :: (b3, blk 27 (c.cells ⟨ae, ce, ah, ch, al, cl, an, cn⟩)) :: (LD ++ F))) (ls.length) ?_ ?_
    ·
     exact ⟨0, rfl, by omega, by omega, g3⟩
    intro k vs μ kb hI kc gG
    clear hs
    obtain ⟨q, rfl, hqa, rfl, hs⟩ := hI
    generalize hgq : rGas h O ls q = gb
    refine zAf (fun kd jc => (zAf (fun ke jd => (zAb (zA6 rfl rfl (w_p (zAx rfl rfl) rfl (w_p (zBc underlying22 rfl rfl) rfl (w_p (zCp rfl rfl rfl rfl) rfl (zAd (zAc (jd _ _ (zAr rfl rfl (fun gv => ?_) (fun gv => ?_)))))))))))))
    ·
     try simp only [zS] at gv
     refine zAn (zAc (jc _ _ (zAf (fun kf gH => (zAq ?_)))))
     have hq2 : q < ls.length := by omega
     obtain ⟨bq, oq, hbq, hzq⟩ := zCx hls hq2
     cases hbq
     obtain ⟨j2, hj2, hjl2⟩ := hlis.ix _ (List.getElem_mem hq2)
     refine zAb (w_p (zAt rfl rfl) rfl (w_p (zAt rfl rfl) rfl (zB5 (fun gw => ?_) (fun gw => ?_))))
     ·
      subst gw
      refine zAm rfl rfl rfl ?_
      refine zAm rfl rfl rfl ?_
      refine zAm rfl rfl rfl ?_
      refine zAm rfl rfl rfl ?_
      refine zAm rfl rfl rfl ?_
      refine zAm rfl rfl rfl ?_
      refine zAm rfl rfl rfl ?_
      refine zAm rfl rfl rfl ?_
      refine zAm rfl rfl rfl ?_
      refine w_p (zA5 (v := _) rfl rfl rfl rfl) rfl (w_p (zAs rfl rfl) rfl (zAd (zAi (zAc (gH _ _ (zAb (zA6 rfl rfl (w_p (zBo rfl rfl rfl rfl (by omega) (by omega)) rfl ?_))))))))
      refine zBw rfl rfl (zAd (zAc (gG _ _ (nxI (ls.length - (q + 1)) (by omega) ?_))))
      first
        | exact ⟨q + 1, bi2 (by rw [gas_yes hq2 hj2 hgq]; rfl) rfl, by omega, rfl, hs⟩
        | exact ⟨q + 1, bi2 (by rw [gas_yes hq2 hj2 hgq]; simp) rfl, by omega, rfl, hs⟩
     subst gw
     refine w_y rfl rfl rfl (zAx rfl rfl) rfl ?_
     refine w_y rfl rfl rfl (zAx rfl rfl) rfl ?_
     refine w_y rfl rfl rfl (zAy rfl rfl) rfl ?_
     refine w_y rfl rfl rfl (zA7 underlying22 sizeOf3 rfl rfl rfl rfl (i := _) rfl (by omega)) rfl ?_
     refine w_y rfl rfl rfl (zAg isAgg3 hs.tail.tail.tail.drop rfl rfl hzq) rfl ?_
     refine w_y rfl rfl rfl (zA7 underlying22 sizeOf3 rfl rfl rfl rfl (i := j2) hj2 (by omega)) rfl ?_
     refine w_y rfl rfl rfl (zAg isAgg3 hs rfl rfl (zC9 (i := 0) (j := j2) rfl (by first | omega | rfl | (simp only [zL] <;> omega)))) rfl ?_
     refine w_y rfl rfl rfl (zAy rfl rfl) rfl ?_
     refine w_y rfl rfl rfl (zFc rfl rfl rfl rfl) rfl ?_
     refine w_p (zBg (v := .bool _) rfl rfl rfl rfl) rfl (w_p (zAs rfl rfl) rfl (zAd (zAi (zAc (gH _ _ (zAb (zA6 rfl rfl (w_p (zBo rfl rfl rfl rfl (by omega) (by omega)) rfl ?_))))))))
     refine zBw rfl rfl (zAd (zAc (gG _ _ (nxI (ls.length - (q + 1)) (by omega) ?_))))
     first
       | exact ⟨q + 1, bi2 (by rw [gas_yes hq2 hj2 hgq]; rfl) rfl, by omega, rfl, hs⟩
       | exact ⟨q + 1, bi2 (by rw [gas_yes hq2 hj2 hgq]; simp) rfl, by omega, rfl, hs⟩
    try simp only [zS] at gv
    refine zBt (zAj (zAj (zAv (zAc (ja _ _ (zAf (fun kg je => ?_)))))))
    have hql : q = ls.length := by omega
    subst hql
    have hdl := zFh c h wm O ls left k
    rw [hll2] at hdl
    have hbj := bd_dec hc.t hlis hw hh2 hll2 hbd (out := O) (show k ≤ ls.length by omega) j
    obtain ⟨bl, cs, rfl, rfl, hcap, hmx, hcl, htk⟩ := own_some2 hld (show 0 < c.lots.length by omega)
    replace hs := (show St _ _ (_ :: _ :: _ :: _ :: F) from hs)
    have hlx := fun R => own_read (w0 := w0) (R := R) (b := bl) htk hdl hjl
    obtain ⟨be_, oe, hbe, hxe⟩ := zCx hm.e hh2
    have hhe := hc.heat _ (List.getElem_mem hh2)
    refine zCq [16] [(0,0),(1,0),(2,0),(3,0),(4,0),(5,1),(6,0),(7,1),(8,0),(9,0),(10,1),(11,0),(12,0),(13,1),(14,0),(15,0),(16,3)] zB4 (zBk (by kernel_rfl)) hs (fun kh g6 => ?_)
    refine d_w rfl (fun _ => zAx rfl rfl) rfl (d_w rfl (fun _ => zAy rfl rfl) rfl (d_w rfl (fun _ => zAx rfl rfl) rfl (d_w rfl (fun _ => zAy rfl rfl) rfl (d_w rfl (fun _ => zA7 underlying22 sizeOf3 rfl rfl rfl rfl (i := j) hj (by omega)) rfl ?_))))
    refine zAz rfl zAa rfl g6 (fun _ hq => (zAg isAgg3 hq.tail.tail.tail rfl rfl (hlx _))) ?_
    refine d_w rfl (fun _ => zAe (o := 0) (i := 0) underlying27 rfl sizeOf22 rfl rfl rfl) rfl ?_
    refine zAz rfl zAa rfl g6 (fun _ hq => (zCl hbe (zAg isAgg22 hq rfl rfl (aow 2 [_])))) ?_
    refine d_w rfl (fun _ => zAy rfl rfl) rfl (d_w rfl (fun _ => zA7 underlying22 sizeOf3 rfl rfl rfl rfl (i := h) rfl (by omega)) rfl ?_)
    refine zAz rfl zAa rfl g6 (fun _ hq => (zAg isAgg3 hq.tail.tail.tail.tail rfl rfl hxe)) ?_
    refine d_w rfl (fun _ => zFb rfl rfl rfl rfl (by omega) (by omega)) rfl (d_w rfl (fun _ => zAe (o := 0) (i := 0) underlying44 rfl sizeOf3 rfl rfl rfl) rfl ?_)
    refine zAz rfl zAa rfl g6 (fun _ hq => (zAg isAgg3 hq rfl rfl (aow 1 [_]))) ?_
    refine d_w rfl (fun _ => zFb rfl rfl rfl rfl (by omega) (by omega)) rfl (d_w rfl (fun _ => zA7 underlying22 sizeOf3 rfl rfl rfl rfl (i := j) hj (by omega)) rfl ?_)
    refine zBr rfl ?_
    refine zH1 (i := 3) (v := .int .i64 _) (vs := [_]) zAa sizeOf3 rfl rfl rfl rfl rfl (by simp [Value.oneCell']) g6 rfl (show 0 + j * 1 + 1 ≤ cs.length by omega) (fun ki gc => ?_)
    obtain ⟨cs2, hcl2, htk2, gc⟩ := left_put gc htk hcl hdl hjl
    refine zAd (qn ?_)
    refine zBm ?_
    refine zAc (je _ _ (zAf (fun kj jf => (zAb (w_p (zAt rfl rfl) rfl (zAd (zAc (jf _ _ (zAr rfl rfl (fun gx => ?_) (fun gx => ?_))))))))))
    ·
     subst gx
     have hlx2 := fun R => own_read (w0 := w0) (R := R) (b := bl) htk2 (by simp [hdl]) hjl
     have hgd : ((rDec c h wm O ls left k).set j ((rDec c h wm O ls left k).getD j 0 - c.heat[h] - wm)).getD j 0 = ((rDec c h wm O ls left k).getD j 0 - c.heat[h] - wm) := zEh (by omega)
     refine zCq [10] [(0,0),(1,0),(2,0),(3,0),(4,0),(5,1),(6,0),(7,1),(8,0),(9,0),(10,3)] zB4 (zBk (by kernel_rfl)) gc (fun km gy => ?_)
     refine d_w rfl (fun _ => zAx rfl rfl) rfl (d_w rfl (fun _ => zAy rfl rfl) rfl (d_w rfl (fun _ => zAx rfl rfl) rfl (d_w rfl (fun _ => zAy rfl rfl) rfl (d_w rfl (fun _ => zA7 underlying22 sizeOf3 rfl rfl rfl rfl (i := j) hj (by omega)) rfl ?_))))
     refine zAz rfl zAa rfl gy (fun _ hq => (zAg isAgg3 hq.tail.tail.tail rfl rfl (hlx2 _))) ?_
     refine d_w rfl (fun _ => zAe (o := 1) (i := 1) underlying27 rfl sizeOf3 rfl rfl rfl) rfl ?_
     refine zAz rfl zAa rfl gy (fun _ hq => (zAg isAgg3 hq rfl rfl (aow 2 [_]))) ?_
     refine d_w rfl (fun _ => zFb rfl rfl rfl rfl (by omega) (by omega)) rfl (d_w rfl (fun _ => zA7 underlying22 sizeOf3 rfl rfl rfl rfl (i := j) hj (by omega)) rfl ?_)
     refine zBr rfl ?_
     refine zH1 (i := 3) (v := .int .i64 _) (vs := [_]) zAa sizeOf3 rfl rfl rfl rfl rfl (by simp [Value.oneCell']) gy rfl (show 0 + j * 1 + 1 ≤ cs2.length by omega) (fun kn gz => ?_)
     obtain ⟨cs3, hcl3, htk3, gz⟩ := left_put gz htk2 hcl2 (by simp [hdl]) hjl
     refine zAd (qn ?_)
     refine zBm ?_
     refine zAi (zAc (ga _ _ (zAb (zA6 rfl rfl (w_p (zBo rfl rfl rfl rfl (by omega) (by omega)) rfl (zBw rfl rfl (zAd (zAc (g9 _ _ (nxI (ls.length - (k + 1)) (by omega) ?_))))))))))
     exact ⟨k + 1, [(bl, blk 3 cs3)], rfl, by omega, rfl, by rw [← dec_b hh2 hk2 hj hjl hll2 (by omega) (by omega) hgq]; exact own_mk (by simp [hdl]) hcap hmx hcl3 htk3, gz⟩
    subst gx
    refine zAn (zAi (zAc (ga _ _ (zAb (zA6 rfl rfl (w_p (zBo rfl rfl rfl rfl (by omega) (by omega)) rfl (zBw rfl rfl (zAd (zAc (g9 _ _ (nxI (ls.length - (k + 1)) (by omega) ?_)))))))))))
    exact ⟨k + 1, [(bl, blk 3 cs2)], rfl, by omega, rfl, by rw [← dec_a hh2 hk2 hj hjl (by omega) (by omega) hgq]; exact own_mk (by simp [hdl]) hcap hmx hcl2 htk2, gc⟩
   try simp only [zS] at gp
   refine zBt (zAj (zAj (zAv (zAi (zAc (gD _ _ (zAb (zA6 rfl rfl (w_p (zBo rfl rfl rfl rfl (by omega) (by omega)) rfl ?_)))))))))
   refine zBw rfl rfl (zAd (zAc (gC _ _ (nxI (c.heat.length + 1 - (h + 1)) (by omega) ?_))))
   have hkl : k = ls.length := by omega
   subst hkl
   exact ⟨h + 1, O, rDec c h wm O ls left ls.length, LD, rfl, by omega, by omega, .inl ⟨by omega, by rw [rHourTo, rHour, ← hout, ← hleft]; exact hO, by rw [rHourTo, rHour, ← hout, ← hleft, ← hO]⟩, by rw [zFh, hll2], hOl, hld, hs⟩
  try simp only [zS] at gg
  refine zBt (zAj (zAj (zAv (zAc (gX _ _ (zAf (fun ko jg => (zAb (w_p (zAx rfl rfl) rfl (w_p (zBz rfl rfl) rfl ?_))))))))))
  refine zAd (zAc (jg _ _ (zA8 (zBa (l := [.tmp 6]) (vs := [_]) rfl ⟨⟨rfl, show _ = (.slice _ _ _ : Value) from rfl⟩, trivial⟩ ?_))))
  have hcs := hcase.resolve_left (fun x => by have := x.1; omega)
  obtain ⟨_, hout⟩ := hcs
  subst hout
  have jh := (show St _ _ (_ :: F) from St.pk [[_], [_], [_], LB] [0] hs)
  exact ⟨g4, rfl, jh⟩

end Go.Proofs.Ur
set_option maxRecDepth 20000
namespace Go.Proofs.Ur
open Go.Proofs.Tryz
open Go.Rt Go.Rt.Tu Go.Proofs.Ut
open Go.Rt.Ha (firstE zB3 zAp zBn failE felt spanL upto zBv listL bit Bunch)
attribute [local irreducible] WL WC Con Yd At Ats Sl Agree DW
theorem Try_RC_fb1 (x0 : Option Addr) (l0 c0 : Nat) (w : World) : (Instr.buildSlice 131 1 [(0, .slice x0 l0 c0)].toArray).run Tryz.prog w = .ok (.slice (some ⟨w.heap.size, 0, none⟩) 1 1) (w.alloc (Go.Rt.blk 22 [.slice x0 l0 c0])) := by kernel_rfl
theorem Try_RC_fb2  (w : World) : (Instr.buildSlice 22 0 [].toArray).run Tryz.prog w = .ok (.slice (some ⟨w.heap.size, 0, none⟩) 0 0) (w.alloc (Go.Rt.blk 3 [])) := by kernel_rfl
theorem Try_RC_fb3 (x0 : Int) (w : World) : (Instr.buildSlice 22 1 [(0, .int .i64 x0)].toArray).run Tryz.prog w = .ok (.slice (some ⟨w.heap.size, 0, none⟩) 1 1) (w.alloc (Go.Rt.blk 3 [.int .i64 x0])) := by kernel_rfl
theorem Try_info22 : Tryz.prog.info? 22 = some Tryz.t22 := by kernel_rfl
theorem Try_RC_fb5 (x0 : Int) (x1 : Option Addr) (l1 c1 : Nat) (w : World) : (Instr.build 44 [(0, .int .i64 x0),(1, .slice x1 l1 c1)].toArray).run Tryz.prog w = .ok (.agg #[.int .i64 x0, .slice x1 l1 c1]) w := by kernel_rfl
theorem Try_RC_fb6 (x0 : Int) (x1 : Option Addr) (l1 c1 : Nat) (w : World) : (Instr.buildSlice 39 1 [(0, .agg #[.int .i64 x0, .slice x1 l1 c1])].toArray).run Tryz.prog w = .ok (.slice (some ⟨w.heap.size, 0, none⟩) 1 1) (w.alloc (Go.Rt.blk 44 [.int .i64 x0, .slice x1 l1 c1])) := by kernel_rfl
theorem Try_info44 : Tryz.prog.info? 44 = some Tryz.t44 := by kernel_rfl
def WayL (w0 : World) (L : List (Nat × Obj)) (vs : List (List Value)) (l : List (Int × List Int)) : Prop :=
  vs.length = l.length ∧ ∀ k (h : k < l.length), ∃ b c, vs[k]? = some [.int .i64 l[k].1, .slice b l[k].2.length c] ∧ Sl w0 L b 1 (l[k].2.map fun x => [Value.int .i64 x]) ∧ (b = none → c = 0)
theorem WayL.mono {w0 : World} {L L' : List (Nat × Obj)} {vs : List (List Value)} {l : List (Int × List Int)} (h : WayL w0 L vs l) (hs : ∀ w, St w0 w L' → St w0 w L) : WayL w0 L' vs l :=
  ⟨h.1, fun k hk => by obtain ⟨b, c, h1, h2, h3⟩ := h.2 k hk; exact ⟨b, c, h1, h2.mono hs, h3⟩⟩
theorem WayL.app {w0 : World} {L B : List (Nat × Obj)} {vs : List (List Value)} {l : List (Int × List Int)} (h : WayL w0 L vs l) : WayL w0 (B ++ L) vs l := h.mono fun _ h => h.drop
theorem WayL.top {w0 : World} {B F : List (Nat × Obj)} {vs : List (List Value)} {l : List (Int × List Int)} (h : WayL w0 B vs l) : WayL w0 (B ++ F) vs l := h.mono fun _ h => h.front
theorem WayL.nil (w0 : World) (L : List (Nat × Obj)) : WayL w0 L [] [] := ⟨rfl, fun k h => by simp at h⟩
theorem WayL.snoc {w0 : World} {L : List (Nat × Obj)} {vs : List (List Value)} {l : List (Int × List Int)} {b : Option Addr} {c : Nat} {x : Int} {g : List Int} (h : WayL w0 L vs l) (hl : Sl w0 L b 1 (g.map fun x => [Value.int .i64 x])) (hn : b = none → c = 0) : WayL w0 L (vs ++ [[.int .i64 x, .slice b g.length c]]) (l ++ [(x, g)]) := by
  refine ⟨by simp [h.1], fun k hk => ?_⟩
  rw [List.length_append, List.length_singleton] at hk
  by_cases hkl : k < l.length
  · obtain ⟨b', c', h1, h2, h3⟩ := h.2 k hkl
    refine ⟨b', c', ?_, ?_, h3⟩
    · rw [List.getElem?_append_left (by rw [h.1]; exact hkl), h1, List.getElem_append_left hkl]
    · rw [List.getElem_append_left hkl]; exact h2
  · have : k = l.length := by omega
    subst this
    refine ⟨b, c, ?_, ?_, hn⟩
    · rw [List.getElem?_append_right (by rw [h.1]; omega), h.1]; simp
    · simpa using hl
theorem WayL.two {w0 : World} {L : List (Nat × Obj)} {vs : List (List Value)} {l : List (Int × List Int)} (h : WayL w0 L vs l) : ∀ row ∈ vs, row.length = 2 := by
  intro row hr
  obtain ⟨k, hk, rfl⟩ := List.getElem_of_mem hr
  obtain ⟨b, c, h1, _⟩ := h.2 k (by rw [← h.1]; exact hk)
  rw [List.getElem?_eq_getElem hk] at h1
  injection h1 with h1
  rw [h1]; rfl
theorem own_wl {v a b : Value} {t : TypeId} {vs : List (List Value)} {l : List (Int × List Int)} {x : Int × List Int} {B : List (Nat × Obj)} (h : Rt.Own v t 2 (l.length + 1) (vs.flatten ++ [[a, b]].flatten) B) : Rt.Own v t 2 (l ++ [x]).length (vs ++ [[a, b]]).flatten B := by simpa using h
theorem own_wsl {w0 : World} {v : Value} {t : TypeId} {L : List (Nat × Obj)} {vs : List (List Value)} {l : List (Int × List Int)} {B : List (Nat × Obj)} (h : Rt.Own v t 2 l.length vs.flatten B) (hw : WayL w0 L vs l) (F : List (Nat × Obj)) : ∃ a c, v = .slice a l.length c ∧ Sl w0 (B ++ F) a 2 vs := by
  obtain ⟨a, c, h1, h2⟩ := Rt.Own.sl (w0 := w0) h hw.two hw.1 rfl F
  rw [hw.1] at h1
  exact ⟨a, c, h1, h2⟩
theorem wl_at {w0 : World} {L : List (Nat × Obj)} {a : Option Addr} {vs : List (List Value)} {l : List (Int × List Int)} {k : Nat} (hs : Sl w0 L a 2 vs) (h : WayL w0 L vs l) (hk : k < l.length) :
    ∃ b off b2 c2, a = some ⟨b, off, none⟩ ∧ Ats w0 L b (off + k * 2) [.int .i64 l[k].1, .slice b2 l[k].2.length c2] ∧ Sl w0 L b2 1 (l[k].2.map fun x => [Value.int .i64 x]) ∧ (b2 = none → c2 = 0) := by
  obtain ⟨b2, c2, h1, h2, h3⟩ := h.2 k hk
  obtain ⟨b, off, ha, _, hat⟩ := hs.at (i := k) h1
  exact ⟨b, off, b2, c2, ha, hat, h2, h3⟩
theorem c39 {w0 w : World} {F : List (Nat × Obj)} (c : Cargo) (p : AtT) (hm : TIn w0 F c p) (hc : c.Ok) (hold : Nat) (hh : hold < c.holds.length) (hs : St w0 w F) :
  Con Tryz.prog 39 [.agg (c.cells p).toArray, .int .i64 (hold : Int)] w fun v w' => ∃ (B : List (Nat × Obj)) (vs : List (List Value)) (a : Option Addr) (n : Nat), v = .slice a (allR c hold).length n ∧ Sl w0 B a 2 vs ∧ WayL w0 B vs (allR c hold) ∧ St w0 w' (B ++ F) := by
  refine zAo (n := 98) func39 rfl rfl (zNl rfl) ?_
  obtain ⟨ae, ce, ah, ch, al, cl, an, cn⟩ := p
  have hll := hc.ll
  obtain ⟨bh, oh, hbh, hhx⟩ := zI1 hm.h hh
  have hhb := hc.hold _ (List.getElem_mem hh)
  have hha := zIj hh
  have hh1 : (holdAt c hold).1 = c.holds[hold].1 := by rw [hha]
  have hh2 : (holdAt c hold).2 = c.holds[hold].2 := by rw [hha]
  refine zAf (fun K2 gn => (zAb (zCj (v := .agg #[.slice _ _ _, .int _ _, .slice _ _ _, .slice _ _ _, .slice _ _ _]) (cs := [_,_,_,_,_]) zAa rfl rfl rfl hs (fun b3 w4 go => ?_))))
  refine zBi rfl rfl (zAd (zAc (gn _ _ (zAf (fun K7 gp => (zAb (zAu (ps := [(0, _)]) (pv := [(0, .slice _ _ _)]) (cs := [_]) zAa rfl rfl (fun w => Try_RC_fb1 _ _ _ w) go (fun b8 w9 gq => ?_))))))))
  refine w_p (zBz rfl rfl) rfl (zAd (zAc (gp _ _ (zAf (fun jd gt => (zAf (fun je gu => (zAb (zBi rfl rfl (zAd (zAc (gu _ _ (zAq ?_)))))))))))))
  refine zB6 [5,6,7,8,9,10,15,16,17,18,19,20,21,22,23,24,25,26,27,28,29,30,31,32,33,34,35,36,37,38,39,40,41,42,43,44,45,46,47,48,49,50,51,52,53,54,55,56,57,58,59,60,61,62,63,64,65] [5,6] (fun kk vs0 w => ∃ (i : Nat) (vO : Value) (OB E : List (Nat × Obj)) (vs : List Value), vs0 = [vO, .int .i64 i] ∧ i ≤ c.lots.length ∧ kk = c.lots.length - i ∧ Rt.Own vO 22 1 (feltC c hold i).length vs OB ∧ EL w0 E vs (feltC c hold i) ∧ St w0 w ((b3, blk 27 (c.cells ⟨ae, ce, ah, ch, al, cl, an, cn⟩)) :: (OB ++ (E ++ F)))) (c.lots.length) ?_ ?_
  ·
   have gv := (show St _ _ (_ :: _ :: F) from St.pk [[_], [_]] [1,0] gq)
   exact ⟨0, _, [_], [], [.slice none 0 0], rfl, by omega, by omega, own_lit rfl (by simp [maxLen]), ⟨rfl, fun k hk => ⟨none, 0, by simp [feltC_zero] at hk; subst hk; rfl, by simp [feltC_zero] at hk; subst hk; exact Sl.nil _ _, fun _ => rfl⟩⟩, gv⟩
  intro k vs μ jf hI jg gw
  obtain ⟨i, vO, OB, E, vs, rfl, hia, rfl, hown0, hel, hs⟩ := hI
  refine zAf (fun jh gx => (zAf (fun ji gy => (zAb (zA6 rfl rfl (w_p (zAe (o := 3) (i := 3) underlying27 rfl sizeOf24 rfl rfl rfl) rfl (w_p (zAg isAgg24 hs rfl rfl (aow 0 [_])) rfl ?_)))))))
  refine w_p (zBc underlying24 rfl rfl) rfl (w_p (zCp rfl rfl rfl rfl) rfl (zAd (zAc (gy _ _ (zAr rfl rfl (fun g4 => ?_) (fun g4 => ?_))))))
  ·
   try simp only [zS] at g4
   refine zAn (zAc (gx _ _ (zAf (fun jj gz => (zAq ?_)))))
   refine zAf (fun jk gA => ?_)
   have hi2 : i < c.lots.length := by omega
   have hbr := bunR_in hc (hold := hold) hi2
   have hwl := feltC_len hc (hold := hold) (Nat.le_of_lt hi2)
   obtain ⟨aO, cO, rfl, hslO⟩ := own_sl_id (w0 := w0) hown0 hel.1 (E ++ F)
   obtain ⟨by_, oy, hby, hy⟩ := sl_lrows hm.l hi2
   refine zAb (w_p (zAe (o := 3) (i := 3) underlying27 rfl sizeOf24 rfl rfl rfl) rfl (w_p (zCl hby (zAg isAgg24 hs rfl rfl (aow 0 [_]))) rfl ?_))
   refine zA6 rfl rfl (w_p (zA7 underlying24 sizeOf38 rfl rfl rfl rfl (i := _) rfl (by omega)) rfl (w_p (zAe (o := 2) (i := 2) underlying38 rfl sizeOf36 rfl rfl rfl) rfl (w_p (zA2 (vs := [_,_]) isAgg36 sizeOf36 hs.tail.drop.drop rfl rfl (show Ats _ _ _ _ [_,_] from Ats.part hy 2 2)) rfl ?_)))
   refine zA1 (cs := [_,_]) zAa zeroValue36 rfl hs (fun g5 jl gB => ?_)
   refine zBj 0 (.agg #[.int _ _, .int _ _]) [_,_] sizeOf36 gB (fun jm g3 => ?_)
   refine zAd (zAc (gA _ _ (zAf (fun jo gC => (w_cut [28,29,30,31,32,33,34,35,36,37,38] [] (fun _ w => St w0 w ((g5, blk 36 [.int .i64 (bunR c hold i).lo, .int .i64 (bunR c hold i).hi]) :: (b3, blk 27 (c.cells ⟨ae, ce, ah, ch, al, cl, an, cn⟩)) :: (OB ++ (E ++ F)))) (fun jp gh => ?_) ?_)))))
   ·
    refine zAf (fun jq gD => (zAb (w_p (zAe (o := 3) (i := 3) underlying27 rfl sizeOf24 rfl rfl rfl) rfl (w_p (zCl hby (zAg isAgg24 g3 rfl rfl (aow 1 [_]))) rfl ?_))))
    refine zA6 rfl rfl (w_p (zA7 underlying24 sizeOf38 rfl rfl rfl rfl (i := _) rfl (by omega)) rfl (w_p (zAe (o := 0) (i := 0) underlying38 rfl sizeOf3 rfl rfl rfl) rfl (w_p (zAg isAgg3 g3.tail.tail.drop.drop rfl rfl (show Ats _ _ _ _ [_] from Ats.part hy 0 1)) rfl (zA6 rfl rfl (w_p (zCs rfl rfl rfl rfl) rfl ?_)))))
    refine zAd (zAc (gD _ _ (zAr rfl rfl (fun g6 => ?_) (fun g6 => ?_))))
    ·
     try simp only [zS] at g6
     refine zAb (w_p (zAe (o := 0) (i := 0) underlying36 rfl sizeOf3 rfl rfl rfl) rfl (w_p (zAg isAgg3 g3 rfl rfl (aow 0 [_])) rfl (w_p (zAe (o := 1) (i := 1) underlying36 rfl sizeOf3 rfl rfl rfl) rfl ?_)))
     refine zBj 0 (.int _ _) [_] sizeOf3 g3 (fun jr gi => ?_)
     refine zAd (zAc (gh _ _ (mdI ?_)))
     first
       | (rw [hbr.2.2.2.2.1, hbr.2.2.2.1, if_neg (by omega)]; exact gi)
       | (rw [hbr.2.2.2.2.1, hbr.2.2.2.1, if_pos (by omega)]; exact gi)
    try simp only [zS] at g6
    refine zAn (zAc (gh _ _ (mdI ?_)))
    first
      | (rw [hbr.2.2.2.2.1, hbr.2.2.2.1, if_neg (by omega)]; exact g3)
      | (rw [hbr.2.2.2.2.1, hbr.2.2.2.1, if_pos (by omega)]; exact g3)
   intro vs μ js hM
   have hs := hM
   refine zAc (gC _ _ (zAf (fun jt gE => (zAb (zBi rfl rfl (zAd (zAc (gE _ _ (zAf (fun ju gF => (zAf (fun jv gG => (zAb (zBi rfl rfl ?_))))))))))))))
   refine zAd (zAc (gG _ _ (zAq ?_)))
   refine zB6 [8,9,10,39,40,41,42,43,44,45,46,47,48,49,50,51,52,53,54,55,56,57,58,59,60,61,62,63,64] [8,9] (fun kk vs0 w => ∃ (k : Nat) (vN : Value) (NB E1 : List (Nat × Obj)) (ws : List Value), vs0 = [vN, .int .i64 k] ∧ k ≤ (feltC c hold i).length ∧ kk = (feltC c hold i).length - k ∧ Rt.Own vN 22 1 (cTo (bunR c hold i) (feltC c hold i) k).length ws NB ∧ EL w0 E1 ws (cTo (bunR c hold i) (feltC c hold i) k) ∧ St w0 w ((g5, blk 36 [.int .i64 (bunR c hold i).lo, .int .i64 (bunR c hold i).hi]) :: (b3, blk 27 (c.cells ⟨ae, ce, ah, ch, al, cl, an, cn⟩)) :: (NB ++ (E1 ++ (OB ++ (E ++ F)))))) ((feltC c hold i).length) ?_ ?_
   ·
    exact ⟨0, _, [], [], [], rfl, by omega, by omega, zEm 22 1, EL.nil _ _, hs⟩
   intro k vs μ jw hI jx gH
   clear hs
   obtain ⟨k, vN, NB, E1, ws, rfl, hka, rfl, hown1, hel1, hs⟩ := hI
   refine zAf (fun jy gI => (zAf (fun jz gJ => (zAb (zA6 rfl rfl (w_p (zAx rfl rfl) rfl (w_p (zBc underlying131 rfl rfl) rfl (w_p (zCp rfl rfl rfl rfl) rfl (zAd (zAc (gJ _ _ (zAr rfl rfl (fun g7 => ?_) (fun g7 => ?_)))))))))))))
   ·
    try simp only [zS] at g7
    refine zAn (zAc (gI _ _ (zAf (fun jA gK => (zAq ?_)))))
    refine zAf (fun jB gL => ?_)
    have hk2 : k < (feltC c hold i).length := by omega
    obtain ⟨bx, ox, b2, c2, haO, hx, hsx0, hnx⟩ := el_at hslO (hel.mono fun _ h => h.drop.front) hk2
    subst haO
    have hxl := feltC_in (Nat.le_of_lt hi2) (List.getElem_mem hk2)
    refine zAb (w_p (zAe (o := 0) (i := 0) underlying36 rfl sizeOf3 rfl rfl rfl) rfl (w_p (zAg isAgg3 hs rfl rfl (aow 0 [_])) rfl (zBw rfl rfl (zAd ?_))))
    refine zAc (gL _ _ (zAq ?_))
    refine zB6 [8,10,47,48,49,50,51,52,53,54,55,56,57,58,59,60,61,62,63,64] [8,10] (fun kk vs0 w => ∃ (q : Nat) (vN : Value) (NB E1 : List (Nat × Obj)) (ws : List Value), vs0 = [vN, .int .i64 ((bunR c hold i).lo + q)] ∧ (q : Int) ≤ (bunR c hold i).hi + 1 - (bunR c hold i).lo ∧ kk = ((bunR c hold i).hi + 1 - (bunR c hold i).lo).toNat - q ∧ Rt.Own vN 22 1 (cTo (bunR c hold i) (feltC c hold i) k ++ cPart (bunR c hold i) ((feltC c hold i)[k]'hk2) q).length ws NB ∧ EL w0 E1 ws (cTo (bunR c hold i) (feltC c hold i) k ++ cPart (bunR c hold i) ((feltC c hold i)[k]'hk2) q) ∧ St w0 w ((g5, blk 36 [.int .i64 (bunR c hold i).lo, .int .i64 (bunR c hold i).hi]) :: (b3, blk 27 (c.cells ⟨ae, ce, ah, ch, al, cl, an, cn⟩)) :: (NB ++ (E1 ++ (OB ++ (E ++ F)))))) (((bunR c hold i).hi + 1 - (bunR c hold i).lo).toNat) ?_ ?_
    ·
     exact ⟨0, vN, NB, E1, ws, iv_v (by omega), by omega, by omega, by rw [show cPart _ _ 0 = [] from rfl, List.append_nil]; exact hown1, by rw [show cPart _ _ 0 = [] from rfl, List.append_nil]; exact hel1, hs⟩
    intro k vs μ jC hI jD gM
    clear hown1 hel1 hs
    obtain ⟨q, vN, NB, E1, ws, rfl, hqa, rfl, hown2, hel2, hs⟩ := hI
    refine zAf (fun jE gN => (zAf (fun jF gO => (zAb (zA6 rfl rfl (w_p (zAe (o := 1) (i := 1) underlying36 rfl sizeOf3 rfl rfl rfl) rfl (w_p (zAg isAgg3 hs rfl rfl (aow 0 [_])) rfl ?_)))))))
    refine w_p (zFc rfl rfl rfl rfl) rfl (zAd (zAc (gO _ _ (zAr rfl rfl (fun g8 => ?_) (fun g8 => ?_)))))
    ·
     try simp only [zS] at g8
     refine zAn (zAc (gN _ _ (zAf (fun jG gP => (zAq ?_)))))
     have hgl := cTo_len (b := (bunR c hold i)) (ws := (feltC c hold i)) (by omega) k
     have hgq := cPart_len (bunR c hold i) ((feltC c hold i)[k]'hk2) q
     refine zAb (w_p (zBy (v := vN) rfl rfl) rfl (zAu (ps := []) (pv := []) (cs := []) zAa rfl rfl (fun w => Try_RC_fb2  w) hs (fun jH jI gj => ?_)))
     refine w_p (zAx rfl rfl) rfl (zA6 rfl rfl (w_p (zA7 underlying131 sizeOf22 rfl rfl rfl rfl (i := _) rfl (by omega)) rfl (w_p (zAg isAgg22 gj.tail.tail.tail.drop.drop rfl rfl hx) rfl (zC7 (X := ([])) (B := [_]) (rows := (((feltC c hold i)[k]'hk2).map fun x => [Value.int .i64 x])) (sz := 1) (bytes := 8) zAa underlying22 zC3 rfl rfl rfl rfl rfl rfl rfl rfl rfl gj zHm hsx0.app.app.cons.cons.cons (by simp) hnx (ints_one _) (by simp only [maxLen]; omega) (by omega) (fun jJ jK gk gQ g9 => ?_)))))
     replace g9 := (show St _ _ (gk ++ (_ :: _ :: NB ++ (E1 ++ (OB ++ (E ++ (F)))))) from g9)
     refine zA6 rfl rfl (zAu (ps := [(0, _)]) (pv := [(0, .int _ _)]) (cs := [_]) zAa rfl rfl (fun w => Try_RC_fb3 _ w) g9 (fun jL jM gR => ?_))
     refine zC7 (X := (_ :: [])) (B := gk) (rows := [[_]]) (sz := 1) (bytes := 8) zAa underlying22 zC3 rfl rfl rfl rfl rfl rfl rfl rfl rfl gR gQ (zBb (i := 0) rfl (by simp) rfl) rfl (by simp) (by simp [Value.oneCell']) (by simp only [maxLen]; omega) (by omega) (fun jN jO g0 gS ga => ?_)
     replace ga := (show St _ _ (_ :: g0 ++ (_ :: _ :: NB ++ (E1 ++ (OB ++ (E ++ (F)))))) from ga)
     have gT := (show St _ _ (_ :: _ :: (g0 ++ ((NB ++ ((E1 ++ ((OB ++ ((E ++ (F))))))))))) from St.pk [[_], g0, [_], [_], NB, E1, OB, E] [2,3,1,4,5,6,7] ga)
     obtain ⟨a3, c3, rfl, hsl3, hn3, _⟩ := zFj (w0 := w0) (own_ints1 gS)
     refine zAu (ps := [(0, _)]) (pv := [(0, .slice _ _ _)]) (cs := [_]) zAa rfl rfl (fun w => Try_RC_fb1 _ _ _ w) gT (fun jP jQ gU => ?_)
     refine zC7 (X := (_ :: _ :: _ :: g0)) (B := NB) (rows := [[_]]) (sz := 1) (bytes := 24) zAa underlying131 Try_info22 rfl rfl rfl rfl rfl rfl rfl rfl rfl gU hown2 (zBb (i := 0) rfl (by simp) rfl) rfl (by simp) (by simp [Value.oneCell']) (by simp only [maxLen, List.length_append]; omega) (by simp only [List.length_append]; omega) (fun gV jR gc gW gd => ?_)
     replace gd := (show St _ _ (_ :: _ :: _ :: g0 ++ (gc ++ (E1 ++ (OB ++ (E ++ (F)))))) from gd)
     refine w_p (zCu (v := gV) rfl rfl) rfl (zAd (zAi (zAc (gP _ _ (zAb (zA6 rfl rfl (w_p (zBo rfl rfl rfl rfl (by omega) (by omega)) rfl ?_)))))))
     refine zBw rfl rfl (zAd (zAc (gM _ _ (nxI (((bunR c hold i).hi + 1 - (bunR c hold i).lo).toNat - (q + 1)) (by omega) ?_))))
     have gX := (show St _ _ (_ :: _ :: (gc ++ ((g0 ++ ((E1 ++ ((OB ++ ((E ++ (F))))))))))) from St.pk [[_], [_], [_], g0, gc, E1, OB, E] [1,2,4,3,5,6,7] gd)
     exact ⟨q + 1, _,_, g0 ++ E1, _, iv_v (by omega), by omega, rfl, by rw [cPart_succ, ← List.append_assoc]; exact own_el gW, by rw [cPart_succ, ← List.append_assoc]; exact el_more hel2 hsl3 hn3, by rw [List.append_assoc g0 E1]; exact gX⟩
    try simp only [zS] at g8
    refine zBt (zAj (zAj (zAv (zAi (zAc (gK _ _ (zAb (zA6 rfl rfl (w_p (zBo rfl rfl rfl rfl (by omega) (by omega)) rfl ?_)))))))))
    refine zBw rfl rfl (zAd (zAc (gH _ _ (nxI ((feltC c hold i).length - (k + 1)) (by omega) ?_))))
    have hqb : q = ((bunR c hold i).hi + 1 - (bunR c hold i).lo).toNat := by omega
    rw [cPart_all hqb, ← cTo_succ hk2] at hown2 hel2
    exact ⟨k + 1, vN, NB, E1, ws, rfl, by omega, by omega, hown2, hel2, hs⟩
   try simp only [zS] at g7
   refine zBt (zAj (zAj (zAv (zAc (gF _ _ (zAb (w_p (zBy (v := vN) rfl rfl) rfl (w_p (zCu (v := vN) rfl rfl) rfl ?_))))))))
   refine zAd (zAi (zAc (gz _ _ (zAb (zA6 rfl rfl (w_p (zBo rfl rfl rfl rfl (by omega) (by omega)) rfl (zBw rfl rfl (zAd (zAc (gw _ _ (nxI (c.lots.length - (i + 1)) (by omega) ?_)))))))))))
   have gY := (show St _ _ (_ :: (NB ++ ((E1 ++ (F))))) from St.pk [[_], [_], NB, E1, OB, E] [1,2,3] hs)
   have hkn : k = (feltC c hold i).length := by omega
   rw [hkn, feltC_step hi2] at hown1 hel1
   exact ⟨i + 1, vN, NB, E1, ws, rfl, by omega, rfl, hown1, hel1, gY⟩
  try simp only [zS] at g4
  refine zBt (zAj (zAj (zAv (zAc (gt _ _ (zAf (fun jS gZ => ?_)))))))
  have hin : i = c.lots.length := by omega
  subst hin
  rw [feltC_all] at hown0 hel
  obtain ⟨aO, cO, rfl, hslO⟩ := own_sl_id (w0 := w0) hown0 hel.1 (E ++ F)
  have hfl := feltC_len hc (hold := hold) (Nat.le_refl _)
  rw [feltC_all] at hfl
  refine zAb (zBi rfl rfl (zAd (zAc (gZ _ _ (zAf (fun jT hD => (zAf (fun jU hN => (zAb (w_p (zAe (o := 2) (i := 2) underlying27 rfl sizeOf23 rfl rfl rfl) rfl ?_))))))))))
  refine w_p (zCl hbh (zAg isAgg23 hs rfl rfl (aow 0 [_]))) rfl (zA6 rfl rfl (w_p (zA7 underlying23 sizeOf36 rfl rfl rfl rfl (i := hold) rfl hh) rfl (w_p (zAe (o := 0) (i := 0) underlying36 rfl sizeOf3 rfl rfl rfl) rfl (w_p (zAg isAgg3 hs.tail.drop.drop rfl rfl (show Ats _ _ _ _ [_] from Ats.part hhx 0 1)) rfl ?_))))
  refine zBw rfl rfl (zAd (zAc (hN _ _ (zAq ?_))))
  refine zB6 [11,12,13,72,73,74,75,76,77,78,79,80,81,82,83,84,85,86,87,88,89,90,91,92,93,94,95,96] [11,12] (fun kk vs0 w => ∃ (q : Nat) (vW : Value) (WB : List (Nat × Obj)) (rows : List (List Value)), vs0 = [vW, .int .i64 ((holdAt c hold).1 + q)] ∧ q ≤ ((holdAt c hold).2 + 1 - (holdAt c hold).1).toNat ∧ kk = ((holdAt c hold).2 + 1 - (holdAt c hold).1).toNat - q ∧ Rt.Own vW 44 2 (warmTo c hold q).length rows.flatten WB ∧ WayL w0 E rows (warmTo c hold q) ∧ St w0 w ((b3, blk 27 (c.cells ⟨ae, ce, ah, ch, al, cl, an, cn⟩)) :: (WB ++ (OB ++ (E ++ F))))) (((holdAt c hold).2 + 1 - (holdAt c hold).1).toNat) ?_ ?_
  ·
   exact ⟨0, _, [], [], iv_v (by omega), by omega, by omega, zEm 44 2, WayL.nil _ _, hs⟩
  intro k vs μ jV hI jW hP
  clear hs
  obtain ⟨q, vW, WB, rows, rfl, hqa, rfl, hownW, hwlW, hs⟩ := hI
  refine zAf (fun jX hX => (zAf (fun jY hY => (zAb (zA6 rfl rfl (w_p (zAe (o := 2) (i := 2) underlying27 rfl sizeOf23 rfl rfl rfl) rfl (w_p (zCl hbh (zAg isAgg23 hs rfl rfl (aow 0 [_]))) rfl ?_)))))))
  refine zA6 rfl rfl (w_p (zA7 underlying23 sizeOf36 rfl rfl rfl rfl (i := hold) rfl hh) rfl (w_p (zAe (o := 1) (i := 1) underlying36 rfl sizeOf3 rfl rfl rfl) rfl (w_p (zAg isAgg3 hs.tail.drop.drop.drop rfl rfl (show Ats _ _ _ _ [_] from Ats.part hhx 1 1)) rfl (w_p (zFc rfl rfl rfl rfl) rfl ?_))))
  refine zAd (zAc (hY _ _ (zAr rfl rfl (fun ge => ?_) (fun ge => ?_))))
  ·
   try simp only [zS] at ge
   refine zAn (zAc (hX _ _ (zAf (fun jZ j0 => (zAq ?_)))))
   refine zAf (fun k4 j1 => (zAb (zBi rfl rfl (zAd (zAc (j1 _ _ (zAq ?_)))))))
   refine zB6 [11,13,82,83,84,85,86,87,88,89,90,91,92,93,94,95,96] [11,13] (fun kk vs0 w => ∃ (k : Nat) (vW : Value) (WB : List (Nat × Obj)) (rows : List (List Value)), vs0 = [vW, .int .i64 k] ∧ k ≤ (felt (bun c (ofH c hold))).length ∧ kk = (felt (bun c (ofH c hold))).length - k ∧ Rt.Own vW 44 2 (warmTo c hold q ++ warmPart c hold ((holdAt c hold).1 + q) k).length rows.flatten WB ∧ WayL w0 E rows (warmTo c hold q ++ warmPart c hold ((holdAt c hold).1 + q) k) ∧ St w0 w ((b3, blk 27 (c.cells ⟨ae, ce, ah, ch, al, cl, an, cn⟩)) :: (WB ++ (OB ++ (E ++ F))))) ((felt (bun c (ofH c hold))).length) ?_ ?_
   ·
    exact ⟨0, vW, WB, rows, rfl, by omega, by omega, by rw [show warmPart c hold ((holdAt c hold).1 + q) 0 = [] from rfl, List.append_nil]; exact hownW, by rw [show warmPart c hold ((holdAt c hold).1 + q) 0 = [] from rfl, List.append_nil]; exact hwlW, hs⟩
   intro k vs μ k5 hI k6 j3
   clear hownW hwlW hs
   obtain ⟨k, vW, WB, rows, rfl, hka, rfl, hown2, hwl2, hs⟩ := hI
   refine zAf (fun k7 j4 => (zAf (fun k8 j5 => (zAb (zA6 rfl rfl (w_p (zAx rfl rfl) rfl (w_p (zBc underlying131 rfl rfl) rfl (w_p (zCp rfl rfl rfl rfl) rfl (zAd (zAc (j5 _ _ (zAr rfl rfl (fun gf => ?_) (fun gf => ?_)))))))))))))
   ·
    try simp only [zS] at gf
    refine zAn (zAc (j4 _ _ (zAf (fun k9 j6 => (zAq ?_)))))
    have hk2 : k < (felt (bun c (ofH c hold))).length := by omega
    obtain ⟨b2, c2, hv2, hsE, hnx⟩ := hel.2 k hk2
    obtain ⟨bx, ox, haO, _, hx⟩ := hslO.at (i := k) (row := [.slice b2 ((felt (bun c (ofH c hold)))[k]'hk2).length c2]) (by rw [List.getElem?_map, hv2]; rfl)
    subst haO
    have hwt := warmTo_len hc (hold := hold) q
    have hwp : (warmPart c hold ((holdAt c hold).1 + q) k).length ≤ 256 := by unfold warmPart; rw [List.length_map, List.length_take]; omega
    refine zAb (w_p (zBy (v := vW) rfl rfl) rfl (zA6 rfl rfl (w_p (zAx rfl rfl) rfl (zA6 rfl rfl (w_p (zA7 underlying131 sizeOf22 rfl rfl rfl rfl (i := _) rfl (by omega)) rfl (w_p (zAg isAgg22 hs.tail.drop rfl rfl hx) rfl ?_))))))
    refine w_p (zB1 (ps := [(0, _),(1, _)]) (pv := [(0, .int _ _),(1, .slice _ _ _)]) rfl rfl (fun w => Try_RC_fb5 _ _ _ _ w)) rfl (zAu (ps := [(0, _)]) (pv := [(0, .agg #[.int _ _, .slice _ _ _])]) (cs := [_,_]) zAa rfl rfl (fun w => Try_RC_fb6 _ _ _ _ w) hs (fun ka kb j7 => ?_))
    refine zC7 (X := (_ :: _ :: [])) (B := WB) (rows := [[_,_]]) (sz := 2) (bytes := 32) zAa underlying39 Try_info44 rfl rfl rfl rfl rfl rfl rfl rfl rfl j7 hown2 (zBb (i := 0) rfl (by simp) rfl) rfl (by simp) (by simp [Value.oneCell']) (by simp only [maxLen, List.length_append]; omega) (by simp only [List.length_append]; omega) (fun j8 kc gm j9 gg => ?_)
    replace gg := (show St _ _ (_ :: _ :: gm ++ (OB ++ (E ++ (F)))) from gg)
    refine w_p (zCu (v := j8) rfl rfl) rfl (zAd (zAi (zAc (j6 _ _ (zAb (zA6 rfl rfl (w_p (zBo rfl rfl rfl rfl (by omega) (by omega)) rfl ?_)))))))
    refine zBw rfl rfl (zAd (zAc (j3 _ _ (nxI ((felt (bun c (ofH c hold))).length - (k + 1)) (by omega) ?_))))
    have ja := (show St _ _ (_ :: (gm ++ ((OB ++ ((E ++ (F))))))) from gg.tail)
    exact ⟨k + 1, _,_,_, rfl, by omega, rfl, by rw [zHa hk2, ← List.append_assoc]; exact own_wl j9, by rw [zHa hk2, ← List.append_assoc]; exact hwl2.snoc hsE hnx, ja⟩
   try simp only [zS] at gf
   refine zBt (zAj (zAj (zAv (zAi (zAc (j0 _ _ (zAb (zA6 rfl rfl (w_p (zBo rfl rfl rfl rfl (by omega) (by omega)) rfl ?_)))))))))
   refine zBw rfl rfl (zAd (zAc (hP _ _ (nxI (((holdAt c hold).2 + 1 - (holdAt c hold).1).toNat - (q + 1)) (by omega) ?_))))
   have hkn : k = (felt (bun c (ofH c hold))).length := by omega
   subst hkn
   exact ⟨q + 1, vW, WB, rows, iv_v (by omega), by omega, rfl, by rw [warmTo_succ]; exact hown2, by rw [warmTo_succ]; exact hwl2, hs⟩
  try simp only [zS] at ge
  refine zBt (zAj (zAj (zAv (zAc (hD _ _ (zAf (fun kd jb => (zAb (w_p (zBy (v := vW) rfl rfl) rfl (w_p (zCu (v := vW) rfl rfl) rfl ?_))))))))))
  refine zAd (zAc (jb _ _ (zA8 (zBa (l := [.tmp 4]) (vs := [_]) rfl ⟨⟨rfl, show _ = (vW : Value) from rfl⟩, trivial⟩ ?_))))
  have jc := (show St _ _ ((WB ++ ((E ++ (F))))) from St.pk [[_], WB, OB, E] [1,3] hs)
  have hq2 : q = ((holdAt c hold).2 + 1 - (holdAt c hold).1).toNat := by omega
  subst hq2
  obtain ⟨aW, cW, rfl, hslW⟩ := own_wsl hownW hwlW E
  exact ⟨WB ++ E, rows, aW, cW, rfl, hslW, hwlW.app, by rw [List.append_assoc]; exact jc⟩

end Go.Proofs.Ur
