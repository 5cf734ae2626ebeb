/- Own texts of this claim, joined. No conditions. -/
import Derived.Test.YtgndnnpadkoagaaHChainFewesta
import Derived.Test.YtgndnnpadkoagaaHChainFewestb
import Derived.Test.YtgndnnpadkoagaaHChainFewestc
/- Plain laws of maps as lists: what is left of a range, values that are ints. No conditions. -/
set_option linter.unusedSimpArgs false
set_option linter.unusedVariables false
set_option linter.unusedSectionVars false
namespace Go.Rt
open Go.RowKit
section
variable {α : Type} [DecidableEq α]
/-- How many entries have not been handed out. -/
def remN (es : List (α × Value × Nat)) (seen : Array Nat) : Nat := (es.filter fun r => !decide (r.2.2 ∈ seen.toList)).length
theorem rem_zero (es : List (α × Value × Nat)) : remN es #[] = es.length := by
  unfold remN
  rw [List.filter_eq_self.2 (by intro a _; simp)]
theorem rem_le (es : List (α × Value × Nat)) (seen : Array Nat) : remN es seen ≤ es.length := List.length_filter_le _ _
theorem rem_push : ∀ {es : List (α × Value × Nat)} {seen : Array Nat} {q : α × Value × Nat}, (es.map (·.2.2)).Nodup → q ∈ es → q.2.2 ∉ seen.toList → remN es (seen.push q.2.2) + 1 = remN es seen
  | [], _, _, _, h, _ => by cases h
  | x :: es, seen, q, hn, hq, hs => by
    rw [List.map_cons, List.nodup_cons] at hn
    have hnot : ∀ r ∈ es, r.2.2 ≠ x.2.2 := fun r hr e => hn.1 (by rw [← e]; exact List.mem_map_of_mem (f := fun r : α × Value × Nat => r.2.2) hr)
    unfold remN
    by_cases e : q.2.2 = x.2.2
    · have h1 : (es.filter fun r => !decide (r.2.2 ∈ (seen.push q.2.2).toList)) = es.filter fun r => !decide (r.2.2 ∈ seen.toList) := by
        refine List.filter_congr fun r hr => ?_
        have := hnot r hr
        rw [← e] at this
        simp [this]
      rw [List.filter_cons, List.filter_cons, if_neg (by simp [e]), if_pos (by rw [← e]; simpa using hs), h1, List.length_cons]
    · have hq2 : q ∈ es := by
        rcases List.mem_cons.1 hq with rfl | h
        · exact absurd rfl e
        · exact h
      have ih := rem_push hn.2 hq2 hs
      unfold remN at ih
      have hx : (!decide (x.2.2 ∈ (seen.push q.2.2).toList)) = !decide (x.2.2 ∈ seen.toList) := by
        have : x.2.2 ≠ q.2.2 := fun h => e h.symm
        simp [this]
      rw [List.filter_cons, List.filter_cons, hx]
      split
      · rw [List.length_cons, List.length_cons]; omega
      · exact ih
/-- The entries that have been handed out, with one more. -/
theorem seen_push {es : List (α × Value × Nat)} {seen : Array Nat} {q : α × Value × Nat} (hn : (es.map (·.2.2)).Nodup) (hq : q ∈ es) (G : α → Prop) :
    (∃ r ∈ es, r.2.2 ∈ (seen.push q.2.2).toList ∧ G r.1) ↔ (∃ r ∈ es, r.2.2 ∈ seen.toList ∧ G r.1) ∨ G q.1 := by
  have inj : ∀ {es : List (α × Value × Nat)}, (es.map (·.2.2)).Nodup → ∀ a ∈ es, ∀ b ∈ es, a.2.2 = b.2.2 → a = b := by
    intro es
    induction es with
    | nil => intro _ a h; cases h
    | cons x es ih =>
      intro hn a ha b hb e
      rw [List.map_cons, List.nodup_cons] at hn
      have hnot : ∀ r ∈ es, r.2.2 ≠ x.2.2 := fun r hr e => hn.1 (by rw [← e]; exact List.mem_map_of_mem (f := fun r : α × Value × Nat => r.2.2) hr)
      rcases List.mem_cons.1 ha with ea | ha2
      · rcases List.mem_cons.1 hb with eb | hb2
        · rw [ea, eb]
        · exact absurd (by rw [← ea]; exact e.symm) (hnot b hb2)
      · rcases List.mem_cons.1 hb with eb | hb2
        · exact absurd (by rw [← eb]; exact e) (hnot a ha2)
        · exact ih hn.2 a ha2 b hb2 e
  constructor
  · rintro ⟨r, hr, hs, hG⟩
    rw [Array.toList_push, List.mem_append, List.mem_singleton] at hs
    rcases hs with hs | hs
    · exact .inl ⟨r, hr, hs, hG⟩
    · right
      have := inj hn r hr q hq hs
      subst this; exact hG
  · rintro (⟨r, hr, hs, hG⟩ | hG)
    · exact ⟨r, hr, by rw [Array.toList_push]; exact List.mem_append_left _ hs, hG⟩
    · exact ⟨q, hq, by simp, hG⟩
/-- A map's value that is an int; 0 where there is none. -/
def valA (a : α) (l : List (α × Value × Nat)) : Int := match getA a l with | some (.int _ z) => z | _ => 0
/-- A map's values are ints, from 0 to a number. -/
def IntsTo (B : Int) (l : List (α × Value × Nat)) : Prop := ∀ q ∈ l, ∃ z : Int, q.2.1 = .int .i64 z ∧ 0 ≤ z ∧ z ≤ B
theorem getA_in {a : α} {u : Value} : ∀ {l : List (α × Value × Nat)}, getA a l = some u → ∃ q ∈ l, q.1 = a ∧ q.2.1 = u
  | [], h => by simp [getA] at h
  | q :: l, h => by
    by_cases e : q.1 = a
    · simp only [getA, if_pos e] at h
      exact ⟨q, .head _, e, by simpa using h⟩
    · simp only [getA, if_neg e] at h
      obtain ⟨x, hx, h1, h2⟩ := getA_in h
      exact ⟨x, .tail _ hx, h1, h2⟩
theorem valA_in {B : Int} {l : List (α × Value × Nat)} (h : IntsTo B l) (hB : 0 ≤ B) (a : α) : 0 ≤ valA a l ∧ valA a l ≤ B := by
  unfold valA
  cases hg : getA a l with
  | none => exact ⟨Int.le_refl _, hB⟩
  | some u =>
    obtain ⟨q, hq, _, h2⟩ := getA_in hg
    obtain ⟨z, h3, h4⟩ := h q hq
    rw [← h2, h3]; exact h4
theorem IntsTo.put {B B' : Int} {l : List (α × Value × Nat)} (h : IntsTo B l) (hB : B ≤ B') {a : α} {z : Int} (hz : 0 ≤ z ∧ z ≤ B') (ck : Nat) : IntsTo B' (putA a (.int .i64 z) ck l) := by
  intro q hq
  rcases mem_putA hq with ⟨_, h2⟩ | h2
  · exact ⟨z, h2, hz⟩
  · obtain ⟨y, h3, h4⟩ := h q h2
    exact ⟨y, h3, by omega⟩
theorem IntsTo.le {B B' : Int} {l : List (α × Value × Nat)} (h : IntsTo B l) (hB : B ≤ B') : IntsTo B' l := fun q hq => by
  obtain ⟨y, h3, h4⟩ := h q hq
  exact ⟨y, h3, by omega⟩
end
/-- So many numbers, each once, from 0 to below a number. -/
theorem nodup_bound : ∀ (n : Nat) (l : List Int), l.Nodup → (∀ z ∈ l, 0 ≤ z ∧ z < (n : Int)) → l.length ≤ n
  | 0, l, _, h => by
    cases l with
    | nil => simp
    | cons z l => have := h z (.head _); omega
  | n + 1, l, hn, h => by
    by_cases hm : (n : Int) ∈ l
    · have h1 := nodup_bound n (l.erase n) (hn.erase _) fun z hz => by
        have h2 := List.mem_of_mem_erase hz
        have h3 := h z h2
        have h4 : z ≠ (n : Int) := fun e => by
          subst e
          exact (List.Nodup.not_mem_erase hn) hz
        omega
      have h2 := List.length_erase_of_mem hm
      have h3 : 0 < l.length := List.length_pos_of_mem hm
      omega
    · have := nodup_bound n l hn fun z hz => by
        have h3 := h z hz
        have : z ≠ (n : Int) := fun e => hm (e ▸ hz)
        omega
      omega
section
variable {P : Program} {n : Nat} {ρ : Nat → Value} {ds : List Deferred} {w w0 : World} {L : List (Nat × Obj)} {d : Option Tmp} {ty : TypeId} {p : String} {e : Array Edge} {g : Option (Nat × Bool)} {α : Type} [DecidableEq α] {kv : α → Value} {ok : α → Prop}
/-- A lookup in a map of ints. -/
theorem G_lookI {mt kt el : TypeId} {x y : Operand} {a : α} {l : List (α × Value × Nat)} {m i ck : Nat} {B : Int} (hU : P.underlying mt = some (.map kt el)) (hK : KeyG P kt kv ok) (hok : ok a) (hall : ∀ q ∈ l, ok q.1) (hB : IntsTo B l)
    (hz : ∀ w, (zeroValue el).run P w = .ok (.int .i64 0) w) (hst : St w0 w L) (ho : okO n x = true) (ho1 : okO n y = true) (hx : ev ρ x = .map (some m)) (hy : ev ρ y = kv a) (hi : L[i]? = some (m, .map (ents kv l).toArray ck)) :
    Yd P (A n ρ ds) ⟨d, .lookup mt x y false, ty, p, e, g⟩ w (.int .i64 (valA a l)) := by
  cases hg : getA a l with
  | none =>
    have := G_look1N (d := d) (ty := ty) (p := p) (e := e) (g := g) (ds := ds) hU hK hok hall hz hst ho ho1 hx hy hi hg
    unfold valA; rw [hg]; exact this
  | some u =>
    have := G_look1S (d := d) (ty := ty) (p := p) (e := e) (g := g) (ds := ds) hU hK hok hall hst ho ho1 hx hy hi hg
    obtain ⟨q, hq, _, h2⟩ := getA_in hg
    obtain ⟨z, h3, _⟩ := hB q hq
    unfold valA; rw [hg, ← h2, h3]
    rw [← h2, h3] at this
    exact this
end
end Go.Rt
/- The walking engine, part 20: lookups in maps whose values are told by their keys. No conditions. -/
set_option linter.unusedSimpArgs false
set_option linter.unusedVariables false
set_option linter.unusedSectionVars false
namespace Go.Rt
open Go.RowKit
variable {P : Program} {n : Nat} {ρ : Nat → Value} {ds : List Deferred} {w w0 : World} {L : List (Nat × Obj)} {d : Option Tmp} {ty : TypeId} {p : String} {e : Array Edge} {g : Option (Nat × Bool)} {α : Type} [DecidableEq α] {kv : α → Value} {ok : α → Prop}
theorem getA_key {a : α} {l : List (α × Value × Nat)} : getA a l = none ↔ a ∉ l.map (·.1) := by
  rw [getA_none]
  constructor
  · intro h hm
    obtain ⟨q, hq, e⟩ := List.mem_map.1 hm
    exact h q hq e
  · intro h q hq e
    exact h (e ▸ List.mem_map_of_mem (f := fun x : α × Value × Nat => x.1) hq)
/-- A lookup in a map whose values are told by their keys, and by the zero where there is none. -/
theorem G_look2V {mt kt el : TypeId} {x y : Operand} {a : α} {l : List (α × Value × Nat)} {m i ck : Nat} (V : α → Value) (hU : P.underlying mt = some (.map kt el)) (hK : KeyG P kt kv ok) (hok : ok a) (hall : ∀ q ∈ l, ok q.1) (hV : ∀ q ∈ l, q.2.1 = V q.1)
    (hz : a ∉ l.map (·.1) → ∀ w, (zeroValue el).run P w = .ok (V a) w) (hst : St w0 w L) (ho : okO n x = true) (ho1 : okO n y = true) (hx : ev ρ x = .map (some m)) (hy : ev ρ y = kv a) (hi : L[i]? = some (m, .map (ents kv l).toArray ck)) :
    Yd P (A n ρ ds) ⟨d, .lookup mt x y true, ty, p, e, g⟩ w (.tuple #[V a, .bool (decide (a ∈ l.map (·.1)))]) := by
  cases hg : getA a l with
  | none =>
    have hn := getA_key.1 hg
    have := G_look2N (d := d) (ty := ty) (p := p) (e := e) (g := g) (ds := ds) hU hK hok hall (hz hn) hst ho ho1 hx hy hi hg
    rw [decide_eq_false hn]; exact this
  | some u =>
    have := G_look2S (d := d) (ty := ty) (p := p) (e := e) (g := g) (ds := ds) hU hK hok hall hst ho ho1 hx hy hi hg
    obtain ⟨q, hq, h1, h2⟩ := getA_in hg
    have hm : a ∈ l.map (·.1) := h1 ▸ List.mem_map_of_mem (f := fun x : α × Value × Nat => x.1) hq
    rw [decide_eq_true hm]
    have h3 := hV q hq
    rw [h1] at h3
    rw [← h3, h2]; exact this
/-- Keys that are arrays of ints. -/
theorem keyTy_array {t el : TypeId} {k : Nat} (hu : P.underlying t = some (.array k el)) (hel : P.underlying el = some (.int .i64)) (hs : ∀ w, (sizeOf el).run P w = .ok 1 w) (hf : flatInts P t k = true) : KeyTy P t k where
  chk := fun em l w hl => by
    unfold ia
    exact run_checkKey (dd := 9998) hu (by first | simpa using hl | omega) hel hs
  eq := fun l m w hl hm => by
    show (Op.equalIn (9998 + 2) t (ia l) (ia m)).run P w = _
    exact run_equal_flat 9998 (by rw [hl]; exact hf) (by rw [hl, hm])
  desc := by
    refine ⟨_, hu, fun l e es => ?_, fun l w => ?_⟩
    · simp [Instr.findNow, Instr.sameNow]
    · simp [Instr.findKey, Sem.run_bind, run_underlying hu, Result.andThen, Instr.findNow]
/-- One cell of one row set anew. -/
theorem flat_set {sz k : Nat} {v : Value} (hk : k < sz) : ∀ {rows : List (List Value)} {i : Nat}, (∀ row ∈ rows, row.length = sz) → (hi : i < rows.length) → rows.flatten.set (i * sz + k) v = (rows.set i (rows[i].set k v)).flatten
  | r :: rows, 0, hr, _ => by
    have h1 := hr r (.head _)
    simp only [List.flatten_cons, List.set_cons_zero, List.getElem_cons_zero, Nat.zero_mul, Nat.zero_add]
    rw [List.set_append_left _ _ (by omega)]
  | r :: rows, i + 1, hr, hi => by
    have h1 := hr r (.head _)
    simp only [List.flatten_cons, List.set_cons_succ, List.getElem_cons_succ]
    rw [List.set_append_right _ _ (by rw [h1, Nat.succ_mul]; omega), h1, show (i + 1) * sz + k - sz = i * sz + k by rw [Nat.succ_mul]; omega]
    rw [flat_set hk (fun x hx => hr x (.tail _ hx)) (by simpa using hi)]
theorem take_cell {cs : List Value} {rows : List (List Value)} {n sz i k : Nat} {v : Value} (hk : k < sz) (hr : ∀ row ∈ rows, row.length = sz) (hi : i < rows.length) (h : cs.take (n * sz) = rows.flatten) : (cs.set (i * sz + k) v).take (n * sz) = (rows.set i (rows[i].set k v)).flatten := by
  rw [List.take_set, h, flat_set hk hr hi]
theorem own_some2 {t : TypeId} {sz n c : Nat} {a : Option Addr} {xs : List Value} {B : List (Nat × Obj)} (h : Own (.slice a n c) t sz n xs B) (hn : 0 < n) : ∃ b cs, a = some ⟨b, 0, none⟩ ∧ B = [(b, blk t cs)] ∧ n ≤ c ∧ c ≤ maxLen ∧ cs.length = c * sz ∧ cs.take (n * sz) = xs := by
  rcases h.2 with ⟨_, h0, _⟩ | ⟨b, cap, cs, h1, h2, h3, h4, h5, h6⟩
  · omega
  · injection h1 with e1 _ e3
    subst e3
    exact ⟨b, cs, e1, h2, h3, h4, h5, h6⟩
theorem own_mk {t : TypeId} {sz n c b : Nat} {xs cs : List Value} (hl : xs.length = n * sz) (h3 : n ≤ c) (h4 : c ≤ maxLen) (h5 : cs.length = c * sz) (h6 : cs.take (n * sz) = xs) : Own (.slice (some ⟨b, 0, none⟩) n c) t sz n xs [(b, blk t cs)] := ⟨hl, .inr ⟨b, c, cs, rfl, rfl, h3, h4, h5, h6⟩⟩
end Go.Rt
/- Walks of this seat, printed by gen.py over the engine: what each function returns, in whatever world. No conditions but those of each contract. -/
set_option linter.unusedVariables false
set_option linter.unusedSimpArgs false
set_option maxRecDepth 20000
namespace Go.Proofs
open Go.Rt Go.Rt.Ch
open Go.Rt.Ha (firstE firstE_step firstE_stop firstE_end failE nameE felt spanL upto span_mem listL fewest fewTo bit before fewStep drop_lt drop_get drop_next drop_done drop_notin set_take set_zero take_less)
attribute [local irreducible] WL WC Con Yd At Ats Sl Agree DW
end Go.Proofs
/- Walks of this seat, printed by gen.py over the engine: what each function returns, in whatever world. No conditions but those of each contract. -/
set_option linter.unusedVariables false
set_option linter.unusedSimpArgs false
set_option maxRecDepth 20000
namespace Go.Proofs
open Go.Rt Go.Rt.Ch
open Go.Rt.Ha (firstE firstE_step firstE_stop firstE_end failE nameE felt spanL upto span_mem listL fewest fewTo bit before fewStep drop_lt drop_get drop_next drop_done drop_notin set_take set_zero take_less)
attribute [local irreducible] WL WC Con Yd At Ats Sl Agree DW

end Go.Proofs
/- Plain words of the chain layer: keys of what comes next, one way more. No conditions. -/
set_option linter.unusedSimpArgs false
set_option linter.unusedVariables false
namespace Go.Rt.Ch
open Go.Rt.Ha
abbrev kvI : Int → Value := fun z => Value.int .i64 z
theorem fit_of {l : List Int} {c : Ctr} {k : Nat} {w : Way} (h : [w.counts - l.getD k 0].any (out (-c.skip) c.twice) = false) : kFit c l k w := by
  simp only [List.any_cons, List.any_nil, Bool.or_false] at h
  have := out_f.1 h
  unfold kFit ld; omega
theorem fit_not {l : List Int} {c : Ctr} {k : Nat} {w : Way} (h : [w.counts - l.getD k 0].any (out (-c.skip) c.twice) = true) : ¬ kFit c l k w := by
  simp only [List.any_cons, List.any_nil, Bool.or_false] at h
  intro hk
  rw [out_f.2 (by unfold kFit ld at hk; omega)] at h; cases h
theorem keys_yes {c : Ctr} {l : List Int} {q : Quest} {k : Nat} {t : Int} {ws : List Way} {j : Nat} {ks ks' : List Int} {A : Int → Prop} {y : Int} (h : ∀ z, z ∈ ks ↔ A z ∨ GoodL c l q k t (ws.take j) z) (hj : j < ws.length) (hf : kFit c l k ws[j]) (hy : y = kOne l q k t ws[j]) (hk : ∀ z, z ∈ ks' ↔ z = y ∨ z ∈ ks) : ∀ z, z ∈ ks' ↔ A z ∨ GoodL c l q k t (ws.take (j + 1)) z := by
  intro z
  rw [hk, h, good_yes hj hf, hy]
  constructor
  · rintro (h | h | h)
    · exact .inr (.inr h)
    · exact .inl h
    · exact .inr (.inl h)
  · rintro (h | h | h)
    · exact .inr (.inl h)
    · exact .inr (.inr h)
    · exact .inl h
theorem keys_no {c : Ctr} {l : List Int} {q : Quest} {k : Nat} {t : Int} {ws : List Way} {j : Nat} {ks : List Int} {A : Int → Prop} (h : ∀ z, z ∈ ks ↔ A z ∨ GoodL c l q k t (ws.take j) z) (hj : j < ws.length) (hf : ¬ kFit c l k ws[j]) : ∀ z, z ∈ ks ↔ A z ∨ GoodL c l q k t (ws.take (j + 1)) z := by
  intro z; rw [h, good_no hj hf]
theorem kone_a {l : List Int} {q : Quest} {k : Nat} {t : Int} {w : Way} (h : 100 ≤ t) : w.shows + 100 = kOne l q k t w := by unfold kOne; rw [decide_eq_true h]; rfl
theorem kone_b {l : List Int} {q : Quest} {k : Nat} {t : Int} {w : Way} (h : q k (ld l k) w = true) : w.shows + 100 = kOne l q k t w := by unfold kOne; rw [h, Bool.or_true]; rfl
theorem kone_c {l : List Int} {q : Quest} {k : Nat} {t : Int} {w : Way} (h1 : t < 100) (h : q k (ld l k) w = false) : w.shows = kOne l q k t w := by unfold kOne; rw [h, decide_eq_false (by omega)]; simp
theorem keys_start {c : Ctr} {l : List Int} {q : Quest} {k : Nat} {t : Int} {ws : List Way} {ks : List Int} {A : Int → Prop} (h : ∀ z, z ∈ ks ↔ A z) : ∀ z, z ∈ ks ↔ A z ∨ GoodL c l q k t (ws.take 0) z := by
  intro z; rw [h]
  exact ⟨.inl, fun h => h.resolve_right (good_zero c l q k t ws z)⟩
/-- One entry of what is now has been gone through. -/
theorem keys_round {c : Ctr} {h : Hour} {l : List Int} {q : Quest} {k : Nat} {es : List (Int × Value × Nat)} {seen : Array Nat} {r : Int × Value × Nat} {ks : List Int} {j : Nat} (hn : (es.map (·.2.2)).Nodup) (hr : r ∈ es) (hj : (waysC c h k (r.1 % 100)).length ≤ j)
    (hk : ∀ z, z ∈ ks ↔ (∃ x ∈ es, x.2.2 ∈ seen.toList ∧ Good c h l q k z x.1) ∨ GoodL c l q k r.1 ((waysC c h k (r.1 % 100)).take j) z) : ∀ z, z ∈ ks ↔ ∃ x ∈ es, x.2.2 ∈ (seen.push r.2.2).toList ∧ Good c h l q k z x.1 := by
  intro z
  rw [hk, seen_push hn hr (fun t => Good c h l q k z t), good_all _ _ _ _ _ _ _ hj]; rfl
theorem keys_end {c : Ctr} {n : Nat} (hc : c.Ok n) {h : Hour} {l : List Int} {q : Quest} {k : Nat} (hl : h.lo ≤ ld l k ∧ ld l k ≤ h.hi) (h0 : 0 ≤ h.lo) {es : List (Int × Value × Nat)} {seen : Array Nat} {nx : List Int} (hk : KeysOf (es.map (·.1)) (fareTo c l q k)) (hall : ∀ x ∈ es, x.2.2 ∈ seen.toList)
    (hn : ∀ z, z ∈ nx ↔ ∃ x ∈ es, x.2.2 ∈ seen.toList ∧ Good c h l q k z x.1) : KeysOf nx (fareTo c l q (k + 1)) := by
  refine keys_next hc hl h0 hk fun z => ?_
  rw [hn]
  constructor
  · rintro ⟨x, hx, _, hg⟩; exact ⟨x.1, List.mem_map_of_mem (f := fun x : Int × Value × Nat => x.1) hx, hg⟩
  · rintro ⟨t, ht, hg⟩
    obtain ⟨x, hx, rfl⟩ := List.mem_map.1 ht
    exact ⟨x, hx, hall x hx, hg⟩
theorem keys_many {c : Ctr} {n : Nat} (hc : c.Ok n) {l : List Int} {q : Quest} {k : Nat} {es : List (Int × Value × Nat)} (hn : (es.map (·.1)).Nodup) (hk : KeysOf (es.map (·.1)) (fareTo c l q k)) : es.length ≤ 200 := by
  have := nodup_bound 200 (es.map (·.1)) hn fun z hz => keys_in hc hk hz
  rwa [List.length_map] at this
theorem key_in {c : Ctr} {n : Nat} (hc : c.Ok n) {l : List Int} {q : Quest} {k : Nat} {es : List (Int × Value × Nat)} (hk : KeysOf (es.map (·.1)) (fareTo c l q k)) {r : Int × Value × Nat} (hr : r ∈ es) : 0 ≤ r.1 ∧ r.1 < 200 := keys_in hc hk (List.mem_map_of_mem (f := fun x : Int × Value × Nat => x.1) hr)
theorem not_end {c : Ctr} {n : Nat} (hc : c.Ok n) {l : List Int} {q : Quest} {k : Nat} {es : List (Int × Value × Nat)} {seen : Array Nat} (hk : KeysOf (es.map (·.1)) (fareTo c l q k)) (hall : ∀ x ∈ es, x.2.2 ∈ seen.toList) {x : Bool} (hx : x = true ↔ ∃ r ∈ es, r.2.2 ∈ seen.toList ∧ r.1 < 100) : x = notF c l q k := by
  rw [← keys_not hc hk, Bool.eq_iff_iff, hx, List.any_eq_true]
  constructor
  · rintro ⟨r, hr, _, h⟩; exact ⟨r.1, List.mem_map_of_mem (f := fun x : Int × Value × Nat => x.1) hr, by simpa using h⟩
  · rintro ⟨t, ht, h⟩
    obtain ⟨r, hr, rfl⟩ := List.mem_map.1 ht
    exact ⟨r, hr, hall r hr, by simpa using h⟩
theorem met_end {c : Ctr} {n : Nat} (hc : c.Ok n) {l : List Int} {q : Quest} {k : Nat} {es : List (Int × Value × Nat)} {seen : Array Nat} (hk : KeysOf (es.map (·.1)) (fareTo c l q k)) (hall : ∀ x ∈ es, x.2.2 ∈ seen.toList) {x : Bool} (hx : x = true ↔ ∃ r ∈ es, r.2.2 ∈ seen.toList ∧ 100 ≤ r.1) : x = metF c l q k := by
  rw [← keys_met hc hk, Bool.eq_iff_iff, hx, List.any_eq_true]
  constructor
  · rintro ⟨r, hr, _, h⟩; exact ⟨r.1, List.mem_map_of_mem (f := fun x : Int × Value × Nat => x.1) hr, by simpa using h⟩
  · rintro ⟨t, ht, h⟩
    obtain ⟨r, hr, rfl⟩ := List.mem_map.1 ht
    exact ⟨r, hr, hall r hr, by simpa using h⟩
theorem seen_or {es : List (Int × Value × Nat)} {seen : Array Nat} {r : Int × Value × Nat} (hn : (es.map (·.2.2)).Nodup) (hr : r ∈ es) (G : Int → Prop) {x y : Bool} (hx : x = true ↔ ∃ r ∈ es, r.2.2 ∈ seen.toList ∧ G r.1) (hy : y = true ↔ x = true ∨ G r.1) : y = true ↔ ∃ x ∈ es, x.2.2 ∈ (seen.push r.2.2).toList ∧ G x.1 := by
  rw [seen_push hn hr G, hy, hx]
theorem seen_none {es : List (Int × Value × Nat)} (G : Int → Prop) : (false = true) ↔ ∃ r ∈ es, r.2.2 ∈ (#[] : Array Nat).toList ∧ G r.1 := by simp
theorem keys_none {es : List (Int × Value × Nat)} (G : Int → Int → Prop) : ∀ z, z ∈ ([] : List (Int × Value × Nat)).map (·.1) ↔ ∃ x ∈ es, x.2.2 ∈ (#[] : Array Nat).toList ∧ G z x.1 := by intro z; simp
theorem mok_one {v : Value} {a : Int} : MOk (putA a v 0 []) (if idxA a ([] : List (Int × Value × Nat)) 0 = none then 0 + 1 else 0) := mok_nil.put a v
theorem ints_nil {B : Int} : IntsTo B ([] : List (Int × Value × Nat)) := by intro q h; cases h
end Go.Rt.Ch
/- Plain words of the chain layer: truths, one after the other, as lists of four numbers. No conditions. -/
set_option linter.unusedSimpArgs false
set_option linter.unusedVariables false
namespace Go.Rt.Ch
open Go.Rt.Ha
def pad4 (h : List Int) : List Int := h ++ List.replicate (4 - h.length) 0
theorem pad4_len {h : List Int} (hl : h.length ≤ 4) : (pad4 h).length = 4 := by simp [pad4]; omega
theorem pad4_inj {a b : List Int} (h : a.length = b.length) (e : pad4 a = pad4 b) : a = b := by
  unfold pad4 at e
  exact (List.append_inj e h).1
theorem pad4_at (h : List Int) (b : Nat) : (pad4 h).getD b 0 = h.getD b 0 := by
  unfold pad4
  by_cases hb : b < h.length
  · simp [List.getD, List.getElem?_append_left hb]
  · rw [List.getD, List.getD, List.getElem?_append_right (by omega), List.getElem?_eq_none (by omega : h.length ≤ b)]
    by_cases h2 : b - h.length < 4 - h.length
    · simp [List.getElem?_replicate, h2]
    · simp [List.getElem?_replicate, h2]
theorem ld_pad (h : List Int) (b : Nat) : ld (pad4 h) b = ld h b := pad4_at h b
theorem fare_pad (c : Ctr) (l : List Int) (q : Quest) : ∀ k, fareTo c (pad4 l) q k = fareTo c l q k
  | 0 => rfl
  | k + 1 => by simp only [fareTo, fare_pad c l q k, ld_pad]
theorem not_pad (c : Ctr) (l : List Int) (q : Quest) (n : Nat) : notF c (pad4 l) q n = notF c l q n := by unfold notF; rw [fare_pad]
theorem met_pad (c : Ctr) (l : List Int) (q : Quest) (n : Nat) : metF c (pad4 l) q n = metF c l q n := by unfold metF; rw [fare_pad]
theorem can_pad (b : Board) (l : List Int) : canL b (pad4 l) = canL b l := by unfold canL; simp only [not_pad, met_pad]
def segF (b : Board) (d : Nat) (pre : List Int) : List (List Int) := ((felt ((bun b).drop d)).map (pre ++ ·)).map pad4
def segK (b : Board) (d : Nat) (pre : List Int) : List (List Int) := (((felt ((bun b).drop d)).map (pre ++ ·)).filter (canL b)).map pad4
theorem segK_all (b : Board) : segK b 0 [] = (truths b).map pad4 := by simp [segK, truths]
theorem segF_all (b : Board) : segF b 0 [] = (felt (bun b)).map pad4 := by simp [segF]
theorem segF_leaf {b : Board} {d : Nat} {pre : List Int} (hd : b.hours.length ≤ d) : segF b d pre = [pad4 pre] := by
  unfold segF; rw [List.drop_of_length_le (by rw [show (bun b).length = b.hours.length from by simp [bun]]; exact hd)]; simp [felt]
theorem segK_leaf {b : Board} {d : Nat} {pre : List Int} (hd : b.hours.length ≤ d) : segK b d pre = if canL b pre then [pad4 pre] else [] := by
  unfold segK; rw [List.drop_of_length_le (by rw [show (bun b).length = b.hours.length from by simp [bun]]; exact hd)]
  simp only [felt, List.map_cons, List.map_nil, List.append_nil, List.filter_cons, List.filter_nil]
  split <;> rfl
def restF (b : Board) (d : Nat) (pre : List Int) (xs : List Int) : List (List Int) := xs.flatMap fun x => segF b (d + 1) (pre ++ [x])
def restK (b : Board) (d : Nat) (pre : List Int) (xs : List Int) : List (List Int) := xs.flatMap fun x => segK b (d + 1) (pre ++ [x])
theorem felt_node {b : Board} {d : Nat} (hd : d < b.hours.length) (pre : List Int) : (felt ((bun b).drop d)).map (pre ++ ·) = (spanL b.hours[d].lo b.hours[d].hi).flatMap fun x => (felt ((bun b).drop (d + 1))).map ((pre ++ [x]) ++ ·) := by
  have hl : d < (bun b).length := by simpa [bun] using hd
  rw [List.drop_eq_getElem_cons hl]
  have e : (bun b)[d] = ⟨b.hours[d].lo, b.hours[d].hi, 0, 0⟩ := by simp [bun]
  rw [e]
  simp only [felt, List.map_flatMap, List.map_map]
  refine congrArg (List.flatMap · _) ?_
  funext x
  refine List.map_congr_left fun y _ => ?_
  simp
theorem segF_node {b : Board} {d : Nat} {pre : List Int} (hd : d < b.hours.length) : segF b d pre = restF b d pre (spanL b.hours[d].lo b.hours[d].hi) := by
  unfold segF restF; rw [felt_node hd, List.map_flatMap]; rfl
theorem filter_flat {α β : Type} (p : β → Bool) (f : α → List β) : ∀ l : List α, (l.flatMap f).filter p = l.flatMap fun x => (f x).filter p
  | [] => rfl
  | a :: l => by simp only [List.flatMap_cons, List.filter_append, filter_flat p f l]
theorem segK_node {b : Board} {d : Nat} {pre : List Int} (hd : d < b.hours.length) : segK b d pre = restK b d pre (spanL b.hours[d].lo b.hours[d].hi) := by
  unfold segK restK; rw [felt_node hd, filter_flat, List.map_flatMap]; rfl
theorem restF_next {b : Board} {d : Nat} {pre : List Int} {lo : Int} {q n : Nat} (h : q < n) : restF b d pre (upto (lo + q) (n - q)) = segF b (d + 1) (pre ++ [lo + q]) ++ restF b d pre (upto (lo + (q + 1 : Nat)) (n - (q + 1))) := by rw [upto_step h]; rfl
theorem restF_done {b : Board} {d : Nat} {pre : List Int} {lo : Int} {q n : Nat} (h : n ≤ q) : restF b d pre (upto (lo + q) (n - q)) = [] := by rw [show n - q = 0 by omega]; rfl
theorem restK_next {b : Board} {d : Nat} {pre : List Int} {lo : Int} {q n : Nat} (h : q < n) : restK b d pre (upto (lo + q) (n - q)) = segK b (d + 1) (pre ++ [lo + q]) ++ restK b d pre (upto (lo + (q + 1 : Nat)) (n - (q + 1))) := by rw [upto_step h]; rfl
theorem restK_done {b : Board} {d : Nat} {pre : List Int} {lo : Int} {q n : Nat} (h : n ≤ q) : restK b d pre (upto (lo + q) (n - q)) = [] := by rw [show n - q = 0 by omega]; rfl
theorem pads_nodup (b : Board) : ((felt (bun b)).map pad4).Nodup := by
  have h1 := felt_nodup (bun b)
  have h2 : ∀ h ∈ felt (bun b), h.length = (bun b).length := fun h hh => ((felt_in _ _).1 hh).1
  revert h1 h2
  generalize felt (bun b) = L
  induction L with
  | nil => intro _ _; simp
  | cons x L ih =>
    intro hn hl
    rw [List.nodup_cons] at hn
    rw [List.map_cons, List.nodup_cons]
    refine ⟨fun hm => ?_, ih hn.2 fun h hh => hl h (.tail _ hh)⟩
    obtain ⟨y, hy, e⟩ := List.mem_map.1 hm
    have := pad4_inj (by rw [hl y (.tail _ hy), hl x (.head _)]) e
    subst this; exact hn.1 hy
theorem truth_felt {b : Board} {l : List Int} (h : l ∈ truths b) : l ∈ felt (bun b) := (List.mem_filter.1 h).1
theorem truth_in {b : Board} {l : List Int} (h : l ∈ truths b) : l.length = b.hours.length ∧ ∀ i (hi : i < b.hours.length), b.hours[i].lo ≤ ld l i ∧ ld l i ≤ b.hours[i].hi := by
  obtain ⟨h1, h2⟩ := (felt_in _ _).1 (truth_felt h)
  have hl : (bun b).length = b.hours.length := by simp [bun]
  refine ⟨by rw [h1, hl], fun i hi => ?_⟩
  have := h2 i (by rw [hl]; exact hi)
  have e : (bun b)[i]'(by rw [hl]; exact hi) = ⟨b.hours[i].lo, b.hours[i].hi, 0, 0⟩ := by simp [bun]
  rw [e] at this; exact this
theorem start_last4 {b : Board} (hok : b.Ok) : [-1, 0, 0, 0] ∉ (felt (bun b)).map pad4 := by
  intro hm
  obtain ⟨l, hl, e⟩ := List.mem_map.1 hm
  have h0 : ld (pad4 l) 0 = -1 := by rw [e]; rfl
  rw [ld_pad] at h0
  obtain ⟨h1, h2⟩ := (felt_in _ _).1 hl
  have hll : (bun b).length = b.hours.length := by simp [bun]
  by_cases hn : 0 < b.hours.length
  · have := h2 0 (by omega)
    have e2 : (bun b)[0]'(by omega) = ⟨b.hours[0].lo, b.hours[0].hi, 0, 0⟩ := by simp [bun]
    rw [e2] at this
    have hlo := (hok.hour _ (List.getElem_mem hn)).lo
    have h3 : at_ l 0 = ld l 0 := rfl
    rw [h3, h0] at this
    simp only at this; omega
  · have : l = [] := List.eq_nil_of_length_eq_zero (by omega)
    subst this; simp [ld] at h0
theorem cur_pad4 {cur pre : List Int} {d : Nat} (hl : cur.length = 4) (hp : pre.length = d) (hd : d ≤ 4) (hk : cur.take d = pre) (hz : ∀ j, d ≤ j → cur.getD j 0 = 0) : cur = pad4 pre := by
  apply List.ext_getElem?
  intro i
  by_cases hi : i < 4
  · have e1 : cur[i]? = some (cur.getD i 0) := by rw [List.getD, List.getElem?_eq_getElem (by omega)]; rfl
    have e2 : (pad4 pre)[i]? = some ((pad4 pre).getD i 0) := by rw [List.getD, List.getElem?_eq_getElem (by rw [pad4_len (by omega)]; exact hi)]; rfl
    rw [e1, e2, pad4_at]
    by_cases h : i < d
    · subst hk
      rw [List.getD, List.getD, List.getElem?_take, if_pos h]
    · rw [hz i (by omega), List.getD, List.getElem?_eq_none (by omega)]; rfl
  · rw [List.getElem?_eq_none (by omega), List.getElem?_eq_none (by rw [pad4_len (by omega)]; omega)]
/-- Whether the first so many counters can fare by these loads. -/
def canTo (b : Board) (l : List Int) (n : Nat) : Bool := (b.ctrs.take n).all fun c => notF c l slips b.hours.length || metF c l slips b.hours.length
theorem canTo_y {b : Board} {l : List Int} {i : Nat} (hi : i < b.ctrs.length) (h : canTo b l i = true) (h2 : notF (ctrOf b i) l slips b.hours.length = true ∨ metF (ctrOf b i) l slips b.hours.length = true) : canTo b l (i + 1) = true := by
  unfold canTo at *
  rw [List.take_succ_eq_append_getElem hi, List.all_append, h]
  rw [ctr_at hi] at h2
  simpa using h2
theorem canTo_all {b : Board} {l : List Int} {i : Nat} (hi : b.ctrs.length ≤ i) (h : canTo b l i = true) : canL b l = true := by
  unfold canTo at h; rw [List.take_of_length_le hi] at h; exact h
theorem can_n {b : Board} {l : List Int} {i : Nat} (hi : i < b.ctrs.length) (h1 : notF (ctrOf b i) l slips b.hours.length = false) (h2 : metF (ctrOf b i) l slips b.hours.length = false) : canL b l = false := by
  cases hc : canL b l with
  | false => rfl
  | true =>
    unfold canL at hc
    have := List.all_eq_true.1 hc _ (List.getElem_mem hi)
    rw [ctr_at hi] at h1 h2
    rw [h1, h2] at this; cases this
theorem pre_next {b : Board} {d : Nat} {pre : List Int} {x : Int} (hd : d < b.hours.length) (hp : pre.length = d) (h : ∀ j (hj : j < b.hours.length), j < d → b.hours[j].lo ≤ ld pre j ∧ ld pre j ≤ b.hours[j].hi) (hx : b.hours[d].lo ≤ x ∧ x ≤ b.hours[d].hi) : ∀ j (hj : j < b.hours.length), j < d + 1 → b.hours[j].lo ≤ ld (pre ++ [x]) j ∧ ld (pre ++ [x]) j ≤ b.hours[j].hi := by
  intro j hj h1
  by_cases e : j < d
  · have := h j hj e
    have e2 : ld (pre ++ [x]) j = ld pre j := by simp [ld, List.getD, List.getElem?_append_left (by omega : j < pre.length)]
    rw [e2]; exact this
  · have : j = d := by omega
    subst this
    have e2 : ld (pre ++ [x]) j = x := by simp [ld, List.getD, ← hp]
    rw [e2]; exact hx
end Go.Rt.Ch
/- Plain words of the chain layer: errors by numbers, spans of truths, one truth more. No conditions. -/
set_option linter.unusedSimpArgs false
set_option linter.unusedVariables false
namespace Go.Rt.Ch
open Go.Rt.Ha
/-- ErrNone, if a number is not from 0 to below the one behind it, by turns. -/
def pairsE : List Int → Int
  | n :: m :: r => if out 0 (m - 1) n then 4 else pairsE r
  | _ => 0
def orE (a e : Int) : Int := if a ≠ 0 then a else e
theorem pairs_end {ns : List Int} {j : Nat} (h : ns.length ≤ 2 * j + 1) : pairsE (ns.drop (2 * j)) = 0 := by
  match hd : ns.drop (2 * j) with
  | [] => rfl
  | [x] => rfl
  | x :: y :: r => have := congrArg List.length hd; simp at this; omega
theorem pairs_cons {ns : List Int} {j : Nat} (h : 2 * j + 1 < ns.length) : ns.drop (2 * j) = ns[2 * j] :: ns[2 * j + 1] :: ns.drop (2 * (j + 1)) := by
  rw [List.drop_eq_getElem_cons (by omega), List.drop_eq_getElem_cons (by omega)]; rfl
theorem pairs_next {ns : List Int} {j : Nat} (h : 2 * j + 1 < ns.length) (ho : [ns[2 * j]].any (out 0 (ns[2 * j + 1] - 1)) = false) : pairsE (ns.drop (2 * j)) = pairsE (ns.drop (2 * (j + 1))) := by
  rw [pairs_cons h]
  simp only [List.any_cons, List.any_nil, Bool.or_false] at ho
  simp only [pairsE, ho]; rfl
theorem pairs_stop {ns : List Int} {j : Nat} (h : 2 * j + 1 < ns.length) (ho : [ns[2 * j]].any (out 0 (ns[2 * j + 1] - 1)) = true) : pairsE (ns.drop (2 * j)) = 4 := by
  rw [pairs_cons h]
  simp only [List.any_cons, List.any_nil, Bool.or_false] at ho
  simp only [pairsE, ho]; rfl
theorem enterE_1 {b : Board} {e : Int} (h : ¬ (check b).2.2 = 0) : enterE b e = (check b).2.2 := by unfold enterE; rw [if_pos h]
theorem enterE_2 {b : Board} {e : Int} (h : (check b).2.2 = 0) (he : ¬ e = 0) : enterE b e = e := by unfold enterE; rw [if_neg (by simp [h]), if_pos he]
theorem enterE_3 {b : Board} {e : Int} (h : (check b).2.2 = 0) (he : e = 0) (hw : truths b = []) : enterE b e = 8 := by unfold enterE; rw [if_neg (by simp [h]), if_neg (by simp [he]), if_pos hw]
theorem enterE_4 {b : Board} {e : Int} (h : (check b).2.2 = 0) (he : e = 0) (hw : truths b ≠ []) : enterE b e = 0 := by unfold enterE; rw [if_neg (by simp [h]), if_neg (by simp [he]), if_neg hw]
theorem enterE_ok {b : Board} {e : Int} (h : enterE b e = 0) : (check b).2.2 = 0 ∧ e = 0 ∧ truths b ≠ [] := by
  by_cases h1 : (check b).2.2 = 0
  · by_cases h2 : e = 0
    · by_cases h3 : truths b = []
      · rw [enterE_3 h1 h2 h3] at h; cases h
      · exact ⟨h1, h2, h3⟩
    · rw [enterE_2 h1 h2] at h; exact absurd h h2
  · rw [enterE_1 h1] at h; exact absurd h h1
theorem orE_4 {a e : Int} (h : a = 4) : orE a e = 4 := by unfold orE; rw [h]; rfl
theorem orE_e {a e : Int} (h : a = 0) : orE a e = e := by unfold orE; rw [if_neg (by simp [h])]
theorem pairs_two (a m : Int) : orE (pairsE [a, m]) 0 = idxE a m := by
  unfold orE idxE pairsE
  cases out 0 (m - 1) a <;> rfl
theorem pairs_four (c n a m : Int) : orE (pairsE [c, n, a, m]) 0 = idx2 c n a m := by
  unfold orE idx2 idxE
  simp only [pairsE]
  by_cases h1 : out 0 (n - 1) c = true <;> by_cases h2 : out 0 (m - 1) a = true <;> simp [h1, h2]
theorem pairs_looks (b : Board) (hold within : Int) : orE (pairsE [hold, b.holds]) (if within < 0 then 7 else 0) = looksE b hold within := by
  unfold orE looksE idxE
  simp only [pairsE]
  by_cases h1 : out 0 (b.holds - 1) hold = true <;> simp [h1]
/-! ### Spans -/
theorem hull_snoc (f : List Int → Int) : ∀ (l : List (List Int)) (x : List Int), l ≠ [] → hullL f (l ++ [x]) = (min (hullL f l).1 (f x), max (hullL f l).2 (f x))
  | [], _, h => absurd rfl h
  | a :: l, x, _ => by simp only [hullL, List.cons_append, List.foldl_append, List.foldl_cons, List.foldl_nil]
theorem hull_first {f : List Int → Int} {ws : List (List Int)} {i : Nat} (hi : i < ws.length) (h0 : i = 0) : hullL f (ws.take (i + 1)) = (min (f ws[i]) (f ws[i]), max (f ws[i]) (f ws[i])) := by
  subst h0
  match ws, hi with
  | a :: ws, _ =>
    simp [hullL]
theorem hull_next {f : List Int → Int} {ws : List (List Int)} {i : Nat} (hi : i < ws.length) (h0 : ¬ i = 0) : hullL f (ws.take (i + 1)) = (min (hullL f (ws.take i)).1 (f ws[i]), max (hullL f (ws.take i)).2 (f ws[i])) := by
  rw [List.take_succ_eq_append_getElem hi, hull_snoc f _ _ (by intro e; have := congrArg List.length e; simp at this; rcases this with h | h; exact h0 h; subst h; simp at hi)]
/-! ### What lies in a hold -/
theorem in_yes {b : Board} {l : List Int} {h : Int} {k : Nat} (hk : k < b.hours.length) (e : b.hours[k].hold = h) : inTo b l h (k + 1) = inTo b l h k + ld l k := by
  simp only [inTo]; rw [if_pos (by rw [← e]; simp [List.getD, hk])]
theorem in_no {b : Board} {l : List Int} {h : Int} {k : Nat} (hk : k < b.hours.length) (e : ¬ b.hours[k].hold = h) : inTo b l h (k + 1) = inTo b l h k := by
  simp only [inTo]; rw [if_neg (by rw [show b.hours.getD k ⟨0, 0, 0⟩ = b.hours[k] by simp [List.getD, hk]]; exact e)]; omega
theorem in_bound {b : Board} {l : List Int} {h : Int} (hl : ∀ k, 0 ≤ ld l k ∧ ld l k ≤ 40) : ∀ k, 0 ≤ inTo b l h k ∧ inTo b l h k ≤ 40 * (k : Int)
  | 0 => by simp [inTo]
  | k + 1 => by
    have ih := in_bound (h := h) (b := b) hl k
    have := hl k
    simp only [inTo]
    split <;> constructor <;> omega
theorem in_pad (b : Board) (l : List Int) (h : Int) : ∀ k, inTo b (pad4 l) h k = inTo b l h k
  | 0 => rfl
  | k + 1 => by simp only [inTo, in_pad b l h k, ld_pad]
theorem inH_pad (b : Board) (h : Int) (l : List Int) : inH b h (pad4 l) = inH b h l := in_pad b l h _
theorem ld_40 {b : Board} (hok : b.Ok) {l : List Int} (h : l ∈ truths b) (k : Nat) : 0 ≤ ld l k ∧ ld l k ≤ 40 := by
  obtain ⟨h1, h2⟩ := truth_in h
  by_cases hk : k < b.hours.length
  · have := h2 k hk
    have ho := hok.hour _ (List.getElem_mem hk)
    have h3 := ho.lo
    have h4 := ho.hi
    omega
  · have : ld l k = 0 := by simp [ld, List.getD, List.getElem?_eq_none (by omega : l.length ≤ k)]
    omega
theorem pad_len {b : Board} (hok : b.Ok) {l : List Int} (h : l ∈ truths b) : (pad4 l).length = 4 := pad4_len (by rw [(truth_in h).1]; exact hok.lh)
end Go.Rt.Ch
/- Plain words of the chain layer: sets as lists, loads at the hours of a set, what lies in a hold by them. No conditions. -/
set_option linter.unusedSimpArgs false
set_option linter.unusedVariables false
namespace Go.Rt.Ch
open Go.Rt.Ha
theorem listL_le (b : Nat) : ∀ n, (listL b n).length ≤ n
  | 0 => by simp [listL]
  | n + 1 => by have := listL_le b n; simp only [listL, List.length_append]; split <;> simp <;> omega
def listTo (b n k : Nat) : List Int := listL b k ++ List.replicate (n - (listL b k).length) 0
theorem listTo_len (b n k : Nat) (h : k ≤ n) : (listTo b n k).length = n := by have := listL_le b k; simp [listTo]; omega
theorem listTo_zero (b n : Nat) : listTo b n 0 = List.replicate n 0 := by simp [listTo, listL]
theorem listL_yes {b k : Nat} (h : bit b k = 1) : listL b (k + 1) = listL b k ++ [(k : Int)] := by simp [listL, h]
theorem listL_no {b k : Nat} (h : ¬ bit b k = 1) : listL b (k + 1) = listL b k := by simp [listL, h]
theorem listTo_yes {b n k : Nat} (hk : k < n) (h : bit b k = 1) : (listTo b n k).set (listL b k).length k = listTo b n (k + 1) := by
  have := listL_le b k
  unfold listTo
  rw [listL_yes h, List.set_append_right _ _ (Nat.le_refl _), Nat.sub_self, List.length_append, List.length_singleton]
  obtain ⟨q, hq⟩ : ∃ q, n - (listL b k).length = q + 1 := ⟨n - (listL b k).length - 1, by omega⟩
  rw [hq, List.replicate_succ, List.set_cons_zero, show n - ((listL b k).length + 1) = q by omega]
  simp
theorem listTo_no {b n k : Nat} (h : ¬ bit b k = 1) : listTo b n k = listTo b n (k + 1) := by unfold listTo; rw [listL_no h]
theorem listTo_take (b n : Nat) : (listTo b n n).take (listL b n).length = listL b n := by simp [listTo]
theorem bit_lt2 (b j : Nat) : bit b j = 0 ∨ bit b j = 1 := by unfold bit; have := Nat.and_lt_two_pow (x := b >>> j) (y := 1) (n := 1) (by omega); omega
/-! ### Fewest, step by step -/
theorem few_skip {d : Nat → Bool} {n s : Nat} (h1 : (fewTo d n s).2 = true) (h2 : before (fewTo d n s).1 (listL s n) = true) : fewTo d n (s + 1) = fewTo d n s := by simp only [fewTo, fewStep]; rw [h1, h2]; rfl
theorem few_yes {d : Nat → Bool} {n s : Nat} (h1 : (fewTo d n s).2 = false ∨ before (fewTo d n s).1 (listL s n) = false) (h2 : d s = true) : fewTo d n (s + 1) = (listL s n, true) := by
  simp only [fewTo, fewStep]; rw [if_neg (by rcases h1 with h | h <;> simp [h]), if_pos h2]
theorem few_no {d : Nat → Bool} {n s : Nat} (h1 : (fewTo d n s).2 = false ∨ before (fewTo d n s).1 (listL s n) = false) (h2 : d s = false) : fewTo d n (s + 1) = fewTo d n s := by
  simp only [fewTo, fewStep]; rw [if_neg (by rcases h1 with h | h <;> simp [h]), if_neg (by simp [h2])]
theorem few_len (d : Nat → Bool) (n : Nat) : ∀ s, (fewTo d n s).1.length ≤ n
  | 0 => by simp [fewTo]
  | s + 1 => by have := few_len d n s; have := listL_le s n; simp only [fewTo, fewStep]; split <;> (try split) <;> assumption
theorem few_vals {v1 v2 : Value} {b1 b2 : Bool} {z1 z2 : Int} (h1 : v1 = v2) (h2 : b1 = b2) (h3 : z1 = z2) : [v1, Value.bool b1, Value.int .i64 z1] = [v2, Value.bool b2, Value.int .i64 z2] := by rw [h1, h2, h3]
theorem before_no {a b : List Int} (h1 : a.length ≤ b.length → ¬ (b.length : Int) > a.length) (h2 : a.length = b.length → less a b = false) : before a b = false := by
  unfold before
  rw [Bool.or_eq_false_iff, Bool.and_eq_false_iff]
  refine ⟨by simp; omega, ?_⟩
  by_cases e : a.length = b.length
  · exact .inr (h2 e)
  · left; simpa using e
theorem shl_256 {n : Nat} (h : n ≤ 8) : 1 ≤ 1 <<< n ∧ 1 <<< n ≤ 256 := by
  rw [Nat.shiftLeft_eq, Nat.one_mul]
  have h2 : 2 ^ n ≤ 2 ^ 8 := Nat.pow_le_pow_right (by omega) h
  have := Nat.one_le_two_pow (n := n)
  omega
def cmpI (a b : Int) : Int := if a < b then -1 else if b < a then 1 else 0
theorem cmp_zero {a b : Int} (h : cmpI a b = 0) : a = b := by
  unfold cmpI at h
  split at h
  · omega
  · split at h <;> omega
/-! ### Loads at the hours of a set -/
/-- Loads, of whose first k only those of a set are kept. -/
def maskTo (s : Nat) (l : List Int) (k : Nat) : List Int := (List.range 4).map fun j => if j < k then l.getD j 0 * ((bit s j : Nat) : Int) else l.getD j 0
def mask (s : Nat) (l : List Int) : List Int := maskTo s l 4
theorem maskTo_len (s : Nat) (l : List Int) (k : Nat) : (maskTo s l k).length = 4 := by simp [maskTo]
theorem maskTo_zero {s : Nat} {l : List Int} (h : l.length = 4) : maskTo s l 0 = l := by
  apply List.ext_getElem
  · rw [maskTo_len, h]
  · intro i h1 h2
    simp [maskTo, List.getD, h2]
theorem maskTo_get {s : Nat} {l : List Int} {k : Nat} (hk : k < 4) : (maskTo s l k).getD k 0 = l.getD k 0 := by
  simp [maskTo, List.getD, hk]
theorem maskTo_set {s : Nat} {l : List Int} {k : Nat} (hk : k < 4) : (maskTo s l k).set k ((maskTo s l k).getD k 0 * ((bit s k : Nat) : Int)) = maskTo s l (k + 1) := by
  rw [maskTo_get hk]
  apply List.ext_getElem
  · simp [maskTo]
  · intro i h1 h2
    have hi : i < 4 := by rwa [maskTo_len] at h2
    rw [List.getElem_set]
    by_cases e : k = i
    · subst e; simp [maskTo]
    · rw [if_neg e]
      by_cases h3 : i < k
      · simp [maskTo, h3, show i < k + 1 by omega]
      · simp [maskTo, h3, show ¬ i < k + 1 by omega]
theorem mask_get (s : Nat) (l : List Int) {k : Nat} (hk : k < 4) : (mask s l).getD k 0 = l.getD k 0 * ((bit s k : Nat) : Int) := by simp [mask, maskTo, List.getD, hk]
theorem list_mem {s n k : Nat} : (k : Int) ∈ listL s n ↔ k < n ∧ bit s k = 1 := by
  induction n with
  | zero => simp [listL]
  | succ n ih =>
    simp only [listL, List.mem_append, ih]
    constructor
    · rintro (h | h)
      · exact ⟨by omega, h.2⟩
      · split at h
        · rename_i hb
          have h2 : (k : Int) = (n : Int) := by simpa using h
          have : k = n := by omega
          subst this; exact ⟨by omega, hb⟩
        · cases h
    · rintro ⟨h1, h2⟩
      by_cases e : k = n
      · subst e; right; rw [if_pos h2]; simp
      · exact .inl ⟨by omega, h2⟩
theorem list_nat {s n : Nat} {z : Int} (h : z ∈ listL s n) : ∃ k : Nat, z = k ∧ k < n ∧ bit s k = 1 := by
  induction n with
  | zero => simp [listL] at h
  | succ n ih =>
    simp only [listL, List.mem_append] at h
    rcases h with h | h
    · obtain ⟨k, h1, h2, h3⟩ := ih h; exact ⟨k, h1, by omega, h3⟩
    · split at h
      · rename_i hb; simp at h; exact ⟨n, h, by omega, hb⟩
      · cases h
theorem mask_same {s n : Nat} (hn : n ≤ 4) {l m : List Int} (hl : l.length = n) (hm : m.length = n) : mask s (pad4 l) = mask s (pad4 m) ↔ sameAt s n l m = true := by
  unfold sameAt
  rw [List.all_eq_true]
  constructor
  · intro h z hz
    obtain ⟨k, rfl, hk, hb⟩ := list_nat hz
    have := congrArg (fun x : List Int => x.getD k 0) h
    try simp only at this
    rw [mask_get _ _ (by omega), mask_get _ _ (by omega), pad4_at, pad4_at, hb] at this
    simp only [decide_eq_true_eq, Int.toNat_natCast]
    have e1 : ld l k = l.getD k 0 := rfl
    have e2 : ld m k = m.getD k 0 := rfl
    omega
  · intro h
    apply List.ext_getElem
    · rw [mask, mask, maskTo_len, maskTo_len]
    · intro k h1 h2
      have hk : k < 4 := by rw [mask, maskTo_len] at h1; exact h1
      have e : ∀ x : List Int, ∀ hx : k < (mask s x).length, (mask s x)[k] = x.getD k 0 * ((bit s k : Nat) : Int) := by
        intro x hx
        rw [← mask_get s x hk]; simp [List.getD, hx]
      rw [e, e, pad4_at, pad4_at]
      by_cases hkn : k < n
      · rcases bit_lt2 s k with hb | hb
        · rw [hb]; simp
        · have := h _ (list_mem.2 ⟨hkn, hb⟩)
          simp only [decide_eq_true_eq, Int.toNat_natCast] at this
          have e1 : ld l k = l.getD k 0 := rfl
          have e2 : ld m k = m.getD k 0 := rfl
          rw [← e1, ← e2, this]
      · have e1 : l.getD k 0 = 0 := by simp [List.getD, List.getElem?_eq_none (by omega : l.length ≤ k)]
        have e2 : m.getD k 0 = 0 := by simp [List.getD, List.getElem?_eq_none (by omega : m.length ≤ k)]
        rw [e1, e2]
/-! ### What lies in a hold, by these -/
def sv (p : Int × Int) : Value := .agg #[.int .i64 p.1, .int .i64 p.2]
/-- The span of those that are the same at a set. -/
def gS (s : Nat) (f : List Int → Int) (ws : List (List Int)) (key : List Int) : Int × Int := hullL f (ws.filter fun l => decide (mask s (pad4 l) = key))
/-- What a map of spans says of the loads that were gone through. -/
structure SpM (s : Nat) (f : List Int → Int) (ws : List (List Int)) (es : List (List Int × Value × Nat)) : Prop where
  v : ∀ q ∈ es, q.2.1 = sv (gS s f ws q.1)
  k : ∀ key, key ∈ es.map (·.1) ↔ ∃ l ∈ ws, mask s (pad4 l) = key
theorem spm_nil (s : Nat) (f : List Int → Int) : SpM s f [] [] := ⟨by simp, by simp⟩
theorem SpM.len {s : Nat} {f : List Int → Int} {ws : List (List Int)} {es : List (List Int × Value × Nat)} (h : SpM s f ws es) : ∀ q ∈ es, q.1.length = 4 := by
  intro q hq
  obtain ⟨l, _, e⟩ := (h.k q.1).1 (List.mem_map_of_mem (f := fun x : List Int × Value × Nat => x.1) hq)
  rw [← e, mask, maskTo_len]
theorem SpM.zero {s : Nat} {f : List Int → Int} {ws : List (List Int)} {es : List (List Int × Value × Nat)} (h : SpM s f ws es) {key : List Int} (hk : key ∉ es.map (·.1)) : gS s f ws key = (0, 0) := by
  unfold gS
  rw [List.filter_eq_nil_iff.2]
  · rfl
  · intro l hl; simp only [decide_eq_true_eq]; intro e; exact hk ((h.k key).2 ⟨l, hl, e⟩)
theorem putA_strong {α : Type} [DecidableEq α] {a : α} {v : Value} {ck : Nat} {q : α × Value × Nat} : ∀ {l : List (α × Value × Nat)}, (l.map (·.1)).Nodup → q ∈ putA a v ck l → (q.1 = a ∧ q.2.1 = v) ∨ (q ∈ l ∧ q.1 ≠ a)
  | [], _, h => by simp [putA] at h; subst h; exact .inl ⟨rfl, rfl⟩
  | x :: l, hn, h => by
    rw [List.map_cons, List.nodup_cons] at hn
    by_cases e : x.1 = a
    · simp only [putA, if_pos e] at h
      cases h with
      | head => exact .inl ⟨rfl, rfl⟩
      | tail _ h =>
        right
        refine ⟨.tail _ h, fun e2 => hn.1 ?_⟩
        rw [e, ← e2]; exact List.mem_map_of_mem (f := fun x : α × Value × Nat => x.1) h
    · simp only [putA, if_neg e] at h
      cases h with
      | head => exact .inr ⟨.head _, e⟩
      | tail _ h =>
        rcases putA_strong hn.2 h with h | h
        · exact .inl h
        · exact .inr ⟨.tail _ h.1, h.2⟩
theorem gS_other {s : Nat} {f : List Int → Int} {ws : List (List Int)} {l key : List Int} (h : mask s (pad4 l) ≠ key) : gS s f (ws ++ [l]) key = gS s f ws key := by
  unfold gS; rw [List.filter_append]; simp [h]
theorem gS_own {s : Nat} {f : List Int → Int} {ws : List (List Int)} {l : List Int} : gS s f (ws ++ [l]) (mask s (pad4 l)) = hullL f ((ws.filter fun x => decide (mask s (pad4 x) = mask s (pad4 l))) ++ [l]) := by
  unfold gS; rw [List.filter_append]; simp
theorem gS_new {s : Nat} {f : List Int → Int} {ws : List (List Int)} {es : List (List Int × Value × Nat)} (h : SpM s f ws es) {l : List Int} (hk : mask s (pad4 l) ∉ es.map (·.1)) : gS s f (ws ++ [l]) (mask s (pad4 l)) = (min (f l) (f l), max (f l) (f l)) := by
  rw [gS_own, List.filter_eq_nil_iff.2]
  · simp [hullL]
  · intro x hx; simp only [decide_eq_true_eq]; intro e; exact hk ((h.k _).2 ⟨x, hx, e⟩)
theorem gS_more {s : Nat} {f : List Int → Int} {ws : List (List Int)} {es : List (List Int × Value × Nat)} (h : SpM s f ws es) {l : List Int} (hk : mask s (pad4 l) ∈ es.map (·.1)) : gS s f (ws ++ [l]) (mask s (pad4 l)) = (min (gS s f ws (mask s (pad4 l))).1 (f l), max (gS s f ws (mask s (pad4 l))).2 (f l)) := by
  rw [gS_own, hull_snoc]
  · rfl
  · obtain ⟨x, hx, e⟩ := (h.k _).1 hk
    exact List.ne_nil_of_mem (List.mem_filter.2 ⟨hx, by simpa using e⟩)
theorem SpM.put {s : Nat} {f : List Int → Int} {ws : List (List Int)} {es : List (List Int × Value × Nat)} (h : SpM s f ws es) (hn : (es.map (·.1)).Nodup) {l : List Int} {p : Int × Int} (hp : p = gS s f (ws ++ [l]) (mask s (pad4 l))) (ck : Nat) : SpM s f (ws ++ [l]) (putA (mask s (pad4 l)) (sv p) ck es) := by
  refine ⟨fun q hq => ?_, fun key => ?_⟩
  · rcases putA_strong hn hq with ⟨h1, h2⟩ | ⟨h1, h2⟩
    · rw [h1, h2, hp]
    · rw [h.v q h1, gS_other (fun e => h2 e.symm)]
  · rw [keys_putA, h.k]
    constructor
    · rintro (rfl | ⟨x, hx, e⟩)
      · exact ⟨l, by simp, rfl⟩
      · exact ⟨x, List.mem_append_left _ hx, e⟩
    · rintro ⟨x, hx, e⟩
      rcases List.mem_append.1 hx with hx | hx
      · exact .inr ⟨x, hx, e⟩
      · rw [List.mem_singleton] at hx; subst hx; exact .inl e.symm
theorem hull_in {f : List Int → Int} {lo hi : Int} (h0 : lo ≤ 0 ∧ 0 ≤ hi) : ∀ (ws : List (List Int)), (∀ l ∈ ws, lo ≤ f l ∧ f l ≤ hi) → lo ≤ (hullL f ws).1 ∧ (hullL f ws).1 ≤ hi ∧ lo ≤ (hullL f ws).2 ∧ (hullL f ws).2 ≤ hi
  | [], _ => by simp [hullL]; omega
  | a :: ws, h => by
    simp only [hullL]
    have key : ∀ (r : List (List Int)) (p : Int × Int), (lo ≤ p.1 ∧ p.1 ≤ hi) ∧ (lo ≤ p.2 ∧ p.2 ≤ hi) → (∀ l ∈ r, lo ≤ f l ∧ f l ≤ hi) → lo ≤ (r.foldl (fun s x => (min s.1 (f x), max s.2 (f x))) p).1 ∧ (r.foldl (fun s x => (min s.1 (f x), max s.2 (f x))) p).1 ≤ hi ∧ lo ≤ (r.foldl (fun s x => (min s.1 (f x), max s.2 (f x))) p).2 ∧ (r.foldl (fun s x => (min s.1 (f x), max s.2 (f x))) p).2 ≤ hi := by
      intro r
      induction r with
      | nil => intro p hp _; exact ⟨hp.1.1, hp.1.2, hp.2.1, hp.2.2⟩
      | cons x r ih =>
        intro p hp hr
        simp only [List.foldl_cons]
        have := hr x (.head _)
        exact ih _ ⟨by constructor <;> simp only <;> omega, by constructor <;> simp only <;> omega⟩ fun l hl => hr l (.tail _ hl)
    have ha := h a (.head _)
    exact key ws _ ⟨ha, ha⟩ fun l hl => h l (.tail _ hl)
theorem gS_in {b : Board} (hok : b.Ok) {hold : Int} (s : Nat) {ws : List (List Int)} (hw : ∀ l ∈ ws, l ∈ truths b) (key : List Int) : 0 ≤ (gS s (inH b hold) ws key).1 ∧ (gS s (inH b hold) ws key).1 ≤ 160 ∧ 0 ≤ (gS s (inH b hold) ws key).2 ∧ (gS s (inH b hold) ws key).2 ≤ 160 := by
  refine hull_in (by omega) _ fun l hl => ?_
  have h1 := in_bound (h := hold) (b := b) (fun k => ld_40 hok (hw l (List.mem_filter.1 hl).1) k) b.hours.length
  have := hok.lh
  unfold inH; omega
/-- Whether all spans are within a number is whether the set tells. -/
theorem tells_map {b : Board} (hok : b.Ok) {hold within : Int} {s : Nat} {es : List (List Int × Value × Nat)} (h : SpM s (inH b hold) (truths b) es) : tellsS b hold within s = true ↔ ∀ q ∈ es, (gS s (inH b hold) (truths b) q.1).2 - (gS s (inH b hold) (truths b) q.1).1 ≤ within := by
  have e : ∀ l ∈ truths b, gS s (inH b hold) (truths b) (mask s (pad4 l)) = hullL (inH b hold) ((truths b).filter (sameAt s b.hours.length l)) := by
    intro l hl
    unfold gS
    congr 1
    refine List.filter_congr fun x hx => ?_
    rw [Bool.eq_iff_iff, decide_eq_true_eq, ← mask_same hok.lh (truth_in hl).1 (truth_in hx).1]
    exact eq_comm
  unfold tellsS
  rw [List.all_eq_true]
  constructor
  · intro ht q hq
    obtain ⟨l, hl, e2⟩ := (h.k q.1).1 (List.mem_map_of_mem (f := fun x : List Int × Value × Nat => x.1) hq)
    rw [← e2, e l hl]
    simpa using ht l hl
  · intro ha l hl
    obtain ⟨q, hq, e2⟩ := List.mem_map.1 ((h.k _).2 ⟨l, hl, rfl⟩)
    have := ha q hq
    rw [show q.1 = mask s (pad4 l) from e2, e l hl] at this
    simpa using this
end Go.Rt.Ch
/- Plain words of the hand layer: spans, grades and others over the ways, step by step. No conditions. -/
set_option linter.unusedSimpArgs false
set_option linter.unusedVariables false
namespace Go.Rt.Ha
end Go.Rt.Ha
/- Plain words of the hand layer: totals, picks and others over the ways, step by step. No conditions. -/
set_option linter.unusedSimpArgs false
set_option linter.unusedVariables false
namespace Go.Rt.Ha
/-! ### Picks -/
def pickC (l : Lot) (g m : Int) : Int := if (check l).2.2 = 0 then pickE l g m else (check l).2.2
theorem find_next {s : List Int} {p : List Int → Bool} {k q : Nat} (h2 : (((choices s.length k).take q).map (pickL s)).find? p = none) (hq : q < (choices s.length k).length) (hp : p (pickL s (choices s.length k)[q]) = false) : (((choices s.length k).take (q + 1)).map (pickL s)).find? p = none := by
  rw [List.take_succ_eq_append_getElem hq, List.map_append, List.find?_append, h2, Option.none_or]
  simp [hp]
theorem find_on {s : List Int} {p : List Int → Bool} {k q : Nat} (h1 : (setsTo s k).find? p = none) (h2 : (((choices s.length k).take q).map (pickL s)).find? p = none) (hq : (choices s.length k).length ≤ q) : (setsTo s (k + 1)).find? p = none := by
  rw [List.take_of_length_le hq] at h2
  rw [setsTo, List.find?_append, h1, Option.none_or]; exact h2
theorem cTo_split {n k m : Nat} (h : k ≤ m) : ∃ r, choicesTo n m = choicesTo n k ++ r := by
  obtain ⟨d, rfl⟩ : ∃ d, m = k + d := ⟨m - k, by omega⟩
  clear h
  induction d with
  | zero => exact ⟨[], by simp⟩
  | succ d ih =>
    obtain ⟨r, hr⟩ := ih
    exact ⟨r ++ choices n (k + d), by rw [show k + (d + 1) = (k + d) + 1 by omega, choicesTo, hr, List.append_assoc]⟩
theorem cfind_here {n : Nat} {p : List Int → Bool} {k q : Nat} (hk : k < n) (h1 : (choicesTo n k).find? p = none) (h2 : ((choices n k).take q).find? p = none) (hq : q < (choices n k).length) (hp : p (choices n k)[q] = true) : (choicesTo n n).find? p = some (choices n k)[q] := by
  obtain ⟨r, hr⟩ := cTo_split (n := n) (k := k + 1) (m := n) (by omega)
  rw [hr, choicesTo, List.append_assoc, List.find?_append, h1, Option.none_or, List.find?_append]
  have : (choices n k).find? p = some (choices n k)[q] := by
    have e : ((choices n k).take q ++ (choices n k).drop q).find? p = some (choices n k)[q] := by
      rw [List.drop_eq_getElem_cons hq, List.find?_append, h2, Option.none_or, List.find?_cons, hp]
    rwa [List.take_append_drop] at e
  rw [this]; rfl
theorem cfind_next {n : Nat} {p : List Int → Bool} {k q : Nat} (h2 : ((choices n k).take q).find? p = none) (hq : q < (choices n k).length) (hp : p (choices n k)[q] = false) : ((choices n k).take (q + 1)).find? p = none := by
  rw [List.take_succ_eq_append_getElem hq, List.find?_append, h2, Option.none_or]; simp [hp]
theorem cfind_on {n : Nat} {p : List Int → Bool} {k q : Nat} (h1 : (choicesTo n k).find? p = none) (h2 : ((choices n k).take q).find? p = none) (hq : (choices n k).length ≤ q) : (choicesTo n (k + 1)).find? p = none := by
  rw [List.take_of_length_le hq] at h2
  rw [choicesTo, List.find?_append, h1, Option.none_or]; exact h2
theorem pick_idx {s : List Int} {k q j : Nat} (hq : q < (choices s.length k).length) (hj : j < ((choices s.length k)[q]).length) : 0 ≤ ((choices s.length k)[q])[j] ∧ ((choices s.length k)[q])[j].toNat < s.length := by
  have h1 := (choices_len (below := s.length) k _ (List.getElem_mem hq)).2 _ (List.getElem_mem hj)
  omega
theorem pickL_in {s : List Int} {k q : Nat} (hq : q < (choices s.length k).length) : ∀ z ∈ pickL s (choices s.length k)[q], z ∈ s := by
  intro z hz
  unfold pickL at hz
  obtain ⟨y, hy, rfl⟩ := List.mem_map.1 hz
  have h1 := (choices_len (below := s.length) k _ (List.getElem_mem hq)).2 y hy
  have hl : y.toNat < s.length := by omega
  simp only [List.getD, List.getElem?_eq_getElem hl, Option.getD_some]
  exact List.getElem_mem hl
end Go.Rt.Ha
/- Plain words of the chain layer: what the document's functions do, step by step: truths, spans, what is told. No conditions. -/
set_option linter.unusedSimpArgs false
set_option linter.unusedVariables false
namespace Go.Rt.Ch
open Go.Rt.Ha
def kE (b : Board) (e : Int) : Int := if e ≠ 0 then e else if truths b = [] then 8 else 0
def idxC (b : Board) (n m : Int) : Int := if (check b).2.2 = 0 then idxE n m else (check b).2.2
/-- The error of a counter and an hour. -/
def idx2C (b : Board) (c n a m : Int) : Int := if idxC b c n = 0 then idxC b a m else idxC b c n
def looksC (b : Board) (h n : Int) : Int := if idxC b h b.holds = 0 ∧ n < 0 then 7 else idxC b h b.holds
theorem felt_40 {b : Board} (hok : b.Ok) {l : List Int} (h : l ∈ felt (bun b)) (k : Nat) : 0 ≤ ld l k ∧ ld l k ≤ 40 := by
  obtain ⟨h1, h2⟩ := loads_at h
  by_cases hk : k < b.hours.length
  · have := h2 k hk
    have ho := hok.hour _ (List.getElem_mem hk)
    have h3 := ho.lo
    have h4 := ho.hi
    omega
  · have : ld l k = 0 := by simp [ld, List.getD, List.getElem?_eq_none (by omega : l.length ≤ k)]
    omega
/-! ### Those that are the same at some hours -/
def likeB (hours l m : List Int) : Bool := hours.all fun z => decide (ld m z.toNat = ld l z.toNat)
def like (ws : List (List Int)) (l hours : List Int) : List (List Int) := ws.filter (likeB hours l)
def tellsR (b : Board) (ws : List (List Int)) (hours : List Int) (hold within : Int) : Bool := ws.all fun l => decide ((hullL (inH b hold) (like ws l hours)).2 - (hullL (inH b hold) (like ws l hours)).1 ≤ within)
/-! ### Looks -/
end Go.Rt.Ch
/- Walks of this seat, printed by gen.py over the engine: what each function returns, in whatever world. No conditions but those of each contract. -/
set_option linter.unusedVariables false
set_option linter.unusedSimpArgs false
set_option maxRecDepth 20000
namespace Go.Proofs
open Go.Rt Go.Rt.Ch
open Go.Rt.Ha (firstE firstE_step firstE_stop firstE_end failE nameE felt spanL upto span_mem listL fewest fewTo bit before fewStep drop_lt drop_get drop_next drop_done drop_notin set_take set_zero take_less Lot Bunch feltTo fTo fPart felt_zero felt_step fTo_succ fTo_len fPart_succ fPart_len fPart_all filt_yes filt_no upto_len at_ someOf choicesTo)
attribute [local irreducible] WL WC Con Yd At Ats Sl Agree DW
/-- Slices of integers, as values: what each reads as. -/
def EL (w0 : World) (L : List (Nat × Obj)) (vs : List Value) (ll : List (List Int)) : Prop :=
  vs.length = ll.length ∧ ∀ k (h : k < ll.length), ∃ b c, vs[k]? = some (.slice b ll[k].length c) ∧ Sl w0 L b 1 (ll[k].map fun x => [Value.int .i64 x]) ∧ (b = none → c = 0)
theorem EL.mono {w0 : World} {L L' : List (Nat × Obj)} {vs : List Value} {ll : List (List Int)} (h : EL w0 L vs ll) (hs : ∀ w, St w0 w L' → St w0 w L) : EL w0 L' vs ll :=
  ⟨h.1, fun k hk => by obtain ⟨b, c, h1, h2, h3⟩ := h.2 k hk; exact ⟨b, c, h1, h2.mono hs, h3⟩⟩
theorem EL.cons {w0 : World} {L : List (Nat × Obj)} {x : Nat × Obj} {vs : List Value} {ll : List (List Int)} (h : EL w0 L vs ll) : EL w0 (x :: L) vs ll := h.mono fun _ h => h.tail
theorem EL.app {w0 : World} {L B : List (Nat × Obj)} {vs : List Value} {ll : List (List Int)} (h : EL w0 L vs ll) : EL w0 (B ++ L) vs ll := h.mono fun _ h => h.drop
theorem EL.top {w0 : World} {B F : List (Nat × Obj)} {vs : List Value} {ll : List (List Int)} (h : EL w0 B vs ll) : EL w0 (B ++ F) vs ll := h.mono fun _ h => h.front
theorem EL.nil (w0 : World) (L : List (Nat × Obj)) : EL w0 L [] [] := ⟨rfl, fun k h => by simp at h⟩
/-- A list of one's own, as a slice: nil has no room. -/
theorem own_ints {w0 : World} {v : Value} {l : List Int} {B : List (Nat × Obj)} (h : Rt.Own v 3 1 l.length (iv l) B) : ∃ a c, v = .slice a l.length c ∧ Sl w0 B a 1 (l.map fun x => [Value.int .i64 x]) ∧ (a = none → c = 0) ∧ l.length ≤ c := by
  obtain ⟨a, c, hv, hs⟩ := own_sl_map (w0 := w0) h rfl []
  rw [List.append_nil] at hs
  refine ⟨a, c, hv, hs, fun ha => ?_, ?_⟩
  · rcases h.2 with ⟨h2, _⟩ | ⟨b, cap, cs, h2, _⟩
    · rw [h2] at hv; injection hv with _ _ h3; exact h3.symm
    · rw [h2] at hv; injection hv with h3; rw [ha] at h3; cases h3
  · rcases h.2 with ⟨h2, h3, _⟩ | ⟨b, cap, cs, h2, _, h4, _⟩
    · rw [h2] at hv; injection hv with _ _ h5; omega
    · rw [h2] at hv; injection hv with _ _ h5; omega
theorem ats_ofK {w0 w : World} {L : List (Nat × Obj)} {i b : Nat} {t : TypeId} {cs vs : List Value} (hs : St w0 w L) (hi : L[i]? = some (b, blk t cs)) (h : (cs.drop 0).take vs.length = vs) : Ats w0 L b 0 vs := ats_own hi h
theorem kq_own {w0 w : World} {B F : List (Nat × Obj)} {a : Nat × Obj} (h : St w0 w (B ++ (a :: F))) : St w0 w (B ++ F) := (h.perm (perm_mid B [a] F)).tail
theorem can_vals {a b : Bool} {c d : Int} (h : a = b) (k : c = d) : [Value.bool a, Value.int .i64 c] = [Value.bool b, Value.int .i64 d] := by rw [h, k]
end Go.Proofs
/- Walks of this seat, printed by gen.py over the engine: what each function returns, in whatever world. No conditions but those of each contract. -/
set_option linter.unusedVariables false
set_option linter.unusedSimpArgs false
set_option maxRecDepth 20000
namespace Go.Proofs
open Go.Rt Go.Rt.Ch
open Go.Rt.Ha (firstE firstE_step firstE_stop firstE_end failE nameE felt spanL upto span_mem listL fewest fewTo bit before fewStep drop_lt drop_get drop_next drop_done drop_notin set_take set_zero take_less Lot Bunch feltTo fTo fPart felt_zero felt_step fTo_succ fTo_len fPart_succ fPart_len fPart_all filt_yes filt_no upto_len at_ someOf choicesTo)
attribute [local irreducible] WL WC Con Yd At Ats Sl Agree DW
end Go.Proofs
/- Walks of this seat, printed by gen.py over the engine: what each function returns, in whatever world. No conditions but those of each contract. -/
set_option linter.unusedVariables false
set_option linter.unusedSimpArgs false
set_option maxRecDepth 20000
namespace Go.Proofs
open Go.Rt Go.Rt.Ch
open Go.Rt.Ha (firstE firstE_step firstE_stop firstE_end failE nameE felt spanL upto span_mem listL fewest fewTo bit before fewStep drop_lt drop_get drop_next drop_done drop_notin set_take set_zero take_less Lot Bunch feltTo fTo fPart felt_zero felt_step fTo_succ fTo_len fPart_succ fPart_len fPart_all filt_yes filt_no upto_len at_ someOf choicesTo)
attribute [local irreducible] WL WC Con Yd At Ats Sl Agree DW

end Go.Proofs
/- Walks of this seat, printed by gen.py over the engine: what each function returns, in whatever world. No conditions but those of each contract. -/
set_option linter.unusedVariables false
set_option linter.unusedSimpArgs false
set_option maxRecDepth 20000
namespace Go.Proofs
open Go.Rt Go.Rt.Ch
open Go.Rt.Ha (firstE firstE_step firstE_stop firstE_end failE nameE felt spanL upto span_mem listL fewest fewTo bit before fewStep drop_lt drop_get drop_next drop_done drop_notin set_take set_zero take_less Lot Bunch feltTo fTo fPart felt_zero felt_step fTo_succ fTo_len fPart_succ fPart_len fPart_all filt_yes filt_no upto_len at_ someOf choicesTo)
attribute [local irreducible] WL WC Con Yd At Ats Sl Agree DW
end Go.Proofs
/- Plain laws of the chain layer: spans hold what they span; what lies in a hold. No program in sight. No conditions. -/
set_option linter.unusedSimpArgs false
set_option linter.unusedVariables false
namespace Go.Rt.Ch
open Go.Rt.Ha
def someB (b : Board) : Bool := decide ((check b).2.2 = 0) && !(truths b).isEmpty
/-! ### What is told of a board that has a truth -/
def wentH (b : Board) (k : Nat) : Int × Int := hullL (fun l => ld l k) (truths b)
theorem out_no {n m : Int} (h : 0 ≤ n ∧ n < m) : idxE n m = 0 := by unfold idxE; rw [if_neg (by rw [out_f.2 ⟨h.1, by omega⟩]; simp)]
def hsum (b : Board) (hold : Int) : Nat → Int × Int
  | 0 => (0, 0)
  | k + 1 => if (hourOf b k).hold = hold then ((hsum b hold k).1 + (wentH b k).1, (hsum b hold k).2 + (wentH b k).2) else hsum b hold k
def hmany (b : Board) (hold : Int) : Nat → Int
  | 0 => 0
  | k + 1 => if (hourOf b k).hold = hold then hmany b hold k + 1 else hmany b hold k
end Go.Rt.Ch
/- Walks of this seat, printed by gen.py over the engine: what each function returns, in whatever world. No conditions but those of each contract. -/
set_option linter.unusedVariables false
set_option linter.unusedSimpArgs false
set_option maxRecDepth 20000
namespace Go.Proofs
open Go.Rt Go.Rt.Ch
open Go.Rt.Ha (firstE firstE_step firstE_stop firstE_end failE nameE felt spanL upto span_mem listL fewest fewTo bit before fewStep drop_lt drop_get drop_next drop_done drop_notin set_take set_zero take_less Lot Bunch feltTo fTo fPart felt_zero felt_step fTo_succ fTo_len fPart_succ fPart_len fPart_all filt_yes filt_no upto_len at_ someOf choicesTo cfind_here cfind_next cfind_on choices_fin)
attribute [local irreducible] WL WC Con Yd At Ats Sl Agree DW

theorem c34 {w0 w : World} {F : List (Nat × Obj)} (b : Board) (p : AtB) (hm : BIn w0 F b p)  (hs : St w0 w F) :
  Con Try.prog 34 [.agg (b.cells p).toArray] w fun v w' => v = .bool (decide ((check b).2.2 = 0)) ∧ St w0 w' F := by
  refine con_of_wc (n := 14) Try.func34 rfl rfl (Nat.le_of_ble_eq_true rfl) ?_
  refine w_seq (fun K2 hK1 => ?_)
  refine w_region ?_
  refine w_box (v := .agg #[.int _ _, .slice _ _ _, .slice _ _ _]) (cs := [_, _, _]) want_none rfl rfl rfl hs (fun b3 w4 hs5 => ?_)
  refine w_p (y_assign (v := _) rfl rfl) rfl ?_
  refine w_nil ?_
  refine q_then (hK1 _ _ ?_)
  refine w_seq (fun K7 hK6 => ?_)
  refine w_region ?_
  refine w_p (y_loadN (vs := [_, _, _]) Try.isAgg25 Try.sizeOf25 hs5 rfl rfl (ats_own (i := 0) (vs := [_, _, _]) rfl rfl)) rfl ?_
  refine w_call want_none Try.call17 rfl rfl rfl rfl (c17 b p hm.cons hs5) ?_
  rintro _ w9 ⟨rfl, hs10⟩
  refine w_p (y_move (v := .tuple _) rfl rfl) rfl ?_
  refine w_p (y_extract (v := .int _ _) rfl rfl rfl) rfl ?_
  refine w_p (y_extract (v := .int _ _) rfl rfl rfl) rfl ?_
  refine w_p (y_extract (v := .int _ _) rfl rfl rfl) rfl ?_
  refine w_p (y_assign (v := .int _ _) rfl rfl) rfl ?_
  refine w_p (y_assign (v := .int _ _) rfl rfl) rfl ?_
  refine w_p (y_assign (v := .int _ _) rfl rfl) rfl ?_
  refine w_nil ?_
  refine q_then (hK6 _ _ ?_)
  refine w_seq (fun K12 hK11 => ?_)
  refine w_region ?_
  refine w_p (y_move (v := .int _ _) rfl rfl) rfl ?_
  refine w_p (y_eql rfl rfl rfl rfl) rfl ?_
  refine w_p (y_assign (v := .bool _) rfl rfl) rfl ?_
  refine w_nil ?_
  refine q_then (hK11 _ _ ?_)
  refine w_ret ?_
  refine q_ret (l := [.tmp 2]) (vs := [_]) rfl ⟨⟨rfl, show _ = (.bool _ : Value) from rfl⟩, trivial⟩ ?_
  exact ⟨rfl, hs10.tail⟩

end Go.Proofs
/- Walks of this seat, printed by gen.py over the engine: what each function returns, in whatever world. No conditions but those of each contract. -/
set_option linter.unusedVariables false
set_option linter.unusedSimpArgs false
set_option maxRecDepth 20000
namespace Go.Proofs
open Go.Rt Go.Rt.Ch
open Go.Rt.Ha (firstE firstE_step firstE_stop firstE_end failE nameE felt spanL upto span_mem listL fewest fewTo bit)
attribute [local irreducible] WL WC Con Yd At Ats Sl Agree DW
theorem Try_D_fb1 (x0 : Int) (w : World) : (Instr.buildSlice 39 1 [(0, .int .i64 x0)].toArray).run Try.prog w = .ok (.slice (some ⟨w.heap.size, 0, none⟩) 1 1) (w.alloc (Go.Rt.blk 3 [.int .i64 x0])) := by kernel_rfl
theorem ats_of {w0 w : World} {L : List (Nat × Obj)} {i b : Nat} {t : TypeId} {cs vs : List Value} (hs : St w0 w L) (hi : L[i]? = some (b, blk t cs)) (h : (cs.drop 0).take vs.length = vs) : Ats w0 L b 0 vs := ats_own hi h
theorem c16 {w0 w : World} {F : List (Nat × Obj)} (b : Board) (p : AtB) (hm : BIn w0 F b p)  (hs : St w0 w F) :
  Con Try.prog 16 [.agg (b.cells p).toArray] w fun v w' => v = .tuple #[.int .i64 (check b).1, .int .i64 (check b).2.1, .int .i64 (check b).2.2] ∧ St w0 w' F := by
  refine con_of_wc (n := 45) Try.func16 rfl rfl (Nat.le_of_ble_eq_true rfl) ?_
  have hlh := hm.lh
  have hlc := hm.lc
  refine w_seq (fun K2 hK1 => ?_)
  refine w_region ?_
  refine w_box (v := .agg #[.int _ _, .slice _ _ _, .slice _ _ _]) (cs := [_, _, _]) want_none rfl rfl rfl hs (fun b3 w4 hs5 => ?_)
  refine w_p (y_assign (v := _) rfl rfl) rfl ?_
  refine w_p (y_assign (v := _) rfl rfl) rfl ?_
  refine w_p (y_assign (v := _) rfl rfl) rfl ?_
  refine w_nil ?_
  refine q_then (hK1 _ _ ?_)
  refine w_seq (fun K7 hK6 => ?_)
  refine w_region ?_
  refine w_p (y_fieldAddr (o := 1) (i := 1) Try.underlying25 rfl Try.sizeOf22 rfl rfl rfl) rfl ?_
  refine w_p (y_load1 Try.isAgg22 hs5 rfl rfl (ats_own (i := 0) (vs := [_]) rfl rfl)) rfl ?_
  refine w_p (y_lenS Try.underlying22 rfl rfl) rfl ?_
  refine w_alloc (cs := [_]) want_none Try.zeroValue3 rfl hs5 (fun b8 w9 hs10 => ?_)
  refine w_store (i := 0) (v := .int _ _) (vs := [_]) want_none Try.sizeOf3 rfl rfl rfl rfl rfl (by simp [Value.oneCell']) hs10 rfl (Nat.le_of_ble_eq_true rfl) (fun w11 hs12 => ?_)
  refine w_nil ?_
  refine q_then (hK6 _ _ ?_)
  refine w_seq (fun K14 hK13 => ?_)
  refine w_block ?_
  refine w_seq (fun K16 hK15 => ?_)
  have hbx := ats_of (i := 1) (vs := b.cells p) hs12 rfl rfl
  have hbn := ats_of (i := 0) (vs := [.int .i64 (b.hours.length : Int)]) hs12 rfl rfl
  refine w_region ?_
  refine w_p (y_fieldAddr (o := 0) (i := 0) Try.underlying25 rfl Try.sizeOf3 rfl rfl rfl) rfl ?_
  refine w_p (y_load1 Try.isAgg3 hs12 rfl rfl (show Ats _ _ _ _ [_] from Ats.part hbx 0 1)) rfl ?_
  refine w_bslice (ps := [(0, _)]) (pv := [(0, .int _ _)]) (cs := [_]) want_none rfl rfl (fun w => Try_D_fb1 _ w) hs12 (fun b17 w18 hs19 => ?_)
  refine w_call want_none Try.call51 rfl rfl rfl rfl (c51 _ _ _ [_] _ (by simp) (sl_own (i := 0) (rows := [[_]]) rfl (by simp) rfl) hs19) ?_
  rintro _ w21 ⟨rfl, hs22⟩
  refine w_p (y_assign (v := .bool _) rfl rfl) rfl ?_
  refine w_nil ?_
  refine q_then (hK15 _ _ ?_)
  refine w_cond rfl rfl (fun h23 => ?_) (fun h23 => ?_)
  ·
   try simp only [zA, zB, zC, zD, zE, zF] at h23
   refine w_seq (fun K25 hK24 => ?_)
   refine w_region ?_
   refine w_p (y_assign (v := _) rfl rfl) rfl ?_
   refine w_p (y_assign (v := _) rfl rfl) rfl ?_
   refine w_p (y_assign (v := _) rfl rfl) rfl ?_
   refine w_nil ?_
   refine q_then (hK24 _ _ ?_)
   refine w_ret ?_
   refine q_blk_ret ?_
   refine q_then_ret ?_
   refine q_ret (l := [.tmp 2, .tmp 3, .tmp 4]) (vs := [_, _, _]) rfl ⟨⟨rfl, show _ = (.int _ _ : Value) from rfl⟩, ⟨rfl, show _ = (.int _ _ : Value) from rfl⟩, ⟨rfl, show _ = (.int _ _ : Value) from rfl⟩, trivial⟩ ?_
   try simp only [List.any_cons, List.any_nil, Bool.or_false, Bool.or_eq_false_iff] at h23
   refine ⟨tup3 ?_, hs22.tail.tail.tail⟩; unfold check failE
   try have e1 : ¬ ((4:Int) < (b.hours.length : Int)) := by omega
   try have e2 : ¬ ((2:Int) < (b.ctrs.length : Int)) := by omega
   first
     | (simp [out_nat, h23, e1, e2]; done)
     | (simp [out_nat, h23, e1]; done)
     | (simp [out_nat, h23]; done)
  ·
   try simp only [zA, zB, zC, zD, zE, zF] at h23
   refine w_seq (fun K27 hK26 => ?_)
   refine w_region ?_
   refine w_p (y_load1 Try.isAgg3 hs22.tail rfl rfl hbn) rfl ?_
   refine w_p (y_gtr rfl rfl rfl rfl) rfl ?_
   refine w_p (y_assign (v := .bool _) rfl rfl) rfl ?_
   refine w_nil ?_
   refine q_then (hK26 _ _ ?_)
   refine w_cond rfl rfl (fun h28 => ?_) (fun h28 => ?_)
   ·
    try simp only [zA, zB, zC, zD, zE, zF] at h28
    refine w_seq (fun K30 hK29 => ?_)
    refine w_region ?_
    refine w_p (y_assign (v := _) rfl rfl) rfl ?_
    refine w_p (y_assign (v := _) rfl rfl) rfl ?_
    refine w_p (y_assign (v := _) rfl rfl) rfl ?_
    refine w_nil ?_
    refine q_then (hK29 _ _ ?_)
    refine w_ret ?_
    refine q_blk_ret ?_
    refine q_then_ret ?_
    refine q_ret (l := [.tmp 2, .tmp 3, .tmp 4]) (vs := [_, _, _]) rfl ⟨⟨rfl, show _ = (.int _ _ : Value) from rfl⟩, ⟨rfl, show _ = (.int _ _ : Value) from rfl⟩, ⟨rfl, show _ = (.int _ _ : Value) from rfl⟩, trivial⟩ ?_
    try simp only [List.any_cons, List.any_nil, Bool.or_false, Bool.or_eq_false_iff] at h23 h28
    refine ⟨tup3 ?_, hs22.tail.tail.tail⟩; unfold check failE
    try have e1 : ¬ ((4:Int) < (b.hours.length : Int)) := by omega
    try have e2 : ¬ ((2:Int) < (b.ctrs.length : Int)) := by omega
    first
      | (simp [out_nat, h23, h28, e1, e2]; done)
      | (simp [out_nat, h23, h28, e1]; done)
      | (simp [out_nat, h23, h28]; done)
   ·
    try simp only [zA, zB, zC, zD, zE, zF] at h28
    refine w_skip ?_
    refine q_blk_normal ?_
    refine q_then (hK13 _ _ ?_)
    refine w_seq (fun K32 hK31 => ?_)
    have hho : 1 ≤ b.holds ∧ b.holds ≤ 3 := by
      have hq : [b.holds].any (out 1 3) = false := by assumption
      simp [out] at hq; omega
    refine w_region ?_
    refine w_p (y_fieldAddr (o := 1) (i := 1) Try.underlying25 rfl Try.sizeOf22 rfl rfl rfl) rfl ?_
    refine w_p (y_load1 Try.isAgg22 hs22.tail rfl rfl (show Ats _ _ _ _ [_] from Ats.part hbx 1 1)) rfl ?_
    refine w_p (y_makeFunc (fv := []) (cv := [_]) rfl rfl rfl rfl) rfl ?_
    refine w_call want_none Try.call52 rfl rfl rfl rfl (c52 _ _ b.hours hlh hm.h.cons.cons.cons (.func (.func 53) #[] #[.pointer (some ⟨b3, 0, none⟩)]) (hourE b.holds) (fun i hi X w hs => fcon_fn Try.call53 (c53 b p hho i b.hours[i] _ b3 (Ats.app hbx.cons) hs)) hs22) ?_
    rintro _ w34 ⟨rfl, hs35⟩
    refine w_p (y_move (v := .tuple _) rfl rfl) rfl ?_
    refine w_p (y_extract (v := .int _ _) rfl rfl rfl) rfl ?_
    refine w_p (y_extract (v := .int _ _) rfl rfl rfl) rfl ?_
    refine w_p (y_assign (v := .int _ _) rfl rfl) rfl ?_
    refine w_p (y_assign (v := .int _ _) rfl rfl) rfl ?_
    refine w_nil ?_
    refine q_then (hK31 _ _ ?_)
    refine w_seq (fun K37 hK36 => ?_)
    refine w_block ?_
    refine w_seq (fun K39 hK38 => ?_)
    refine w_region ?_
    refine w_p (y_move (v := .int _ _) rfl rfl) rfl ?_
    refine w_p (y_neq rfl rfl rfl rfl) rfl ?_
    refine w_p (y_assign (v := .bool _) rfl rfl) rfl ?_
    refine w_nil ?_
    refine q_then (hK38 _ _ ?_)
    refine w_cond rfl rfl (fun h40 => ?_) (fun h40 => ?_)
    ·
     try simp only [zA, zB, zC, zD, zE, zF] at h40
     refine w_seq (fun K42 hK41 => ?_)
     refine w_region ?_
     refine w_p (y_move (v := .int _ _) rfl rfl) rfl ?_
     refine w_p (y_move (v := .int _ _) rfl rfl) rfl ?_
     refine w_p (y_assign (v := _) rfl rfl) rfl ?_
     refine w_p (y_assign (v := .int _ _) rfl rfl) rfl ?_
     refine w_p (y_assign (v := .int _ _) rfl rfl) rfl ?_
     refine w_nil ?_
     refine q_then (hK41 _ _ ?_)
     refine w_ret ?_
     refine q_blk_ret ?_
     refine q_then_ret ?_
     refine q_ret (l := [.tmp 2, .tmp 3, .tmp 4]) (vs := [_, _, _]) rfl ⟨⟨rfl, show _ = (.int _ _ : Value) from rfl⟩, ⟨rfl, show _ = (.int _ _ : Value) from rfl⟩, ⟨rfl, show _ = (.int _ _ : Value) from rfl⟩, trivial⟩ ?_
     try simp only [List.any_cons, List.any_nil, Bool.or_false, Bool.or_eq_false_iff] at h23 h28 h40
     refine ⟨tup3 ?_, hs35.tail.tail.tail⟩; unfold check failE
     try have e1 : ¬ ((4:Int) < (b.hours.length : Int)) := by omega
     try have e2 : ¬ ((2:Int) < (b.ctrs.length : Int)) := by omega
     first
       | (simp [out_nat, h23, h28, h40, e1, e2]; done)
       | (simp [out_nat, h23, h28, h40, e1]; done)
       | (simp [out_nat, h23, h28, h40]; done)
    ·
     try simp only [zA, zB, zC, zD, zE, zF] at h40
     refine w_seq (fun K44 hK43 => ?_)
     refine w_region ?_
     refine w_p (y_fieldAddr (o := 2) (i := 2) Try.underlying25 rfl Try.sizeOf23 rfl rfl rfl) rfl ?_
     refine w_p (y_load1 Try.isAgg23 hs35.tail rfl rfl (show Ats _ _ _ _ [_] from Ats.part hbx 2 1)) rfl ?_
     refine w_p (y_lenS Try.underlying23 rfl rfl) rfl ?_
     refine w_p (y_gtr rfl rfl rfl rfl) rfl ?_
     refine w_p (y_assign (v := .bool _) rfl rfl) rfl ?_
     refine w_nil ?_
     refine q_then (hK43 _ _ ?_)
     refine w_cond rfl rfl (fun h45 => ?_) (fun h45 => ?_)
     ·
      try simp only [zA, zB, zC, zD, zE, zF] at h45
      refine w_seq (fun K47 hK46 => ?_)
      refine w_region ?_
      refine w_p (y_assign (v := _) rfl rfl) rfl ?_
      refine w_p (y_assign (v := _) rfl rfl) rfl ?_
      refine w_p (y_assign (v := _) rfl rfl) rfl ?_
      refine w_nil ?_
      refine q_then (hK46 _ _ ?_)
      refine w_ret ?_
      refine q_blk_ret ?_
      refine q_then_ret ?_
      refine q_ret (l := [.tmp 2, .tmp 3, .tmp 4]) (vs := [_, _, _]) rfl ⟨⟨rfl, show _ = (.int _ _ : Value) from rfl⟩, ⟨rfl, show _ = (.int _ _ : Value) from rfl⟩, ⟨rfl, show _ = (.int _ _ : Value) from rfl⟩, trivial⟩ ?_
      try simp only [List.any_cons, List.any_nil, Bool.or_false, Bool.or_eq_false_iff] at h23 h28 h40 h45
      refine ⟨tup3 ?_, hs35.tail.tail.tail⟩; unfold check failE
      try have e1 : ¬ ((4:Int) < (b.hours.length : Int)) := by omega
      try have e2 : ¬ ((2:Int) < (b.ctrs.length : Int)) := by omega
      first
        | (simp [out_nat, h23, h28, h40, h45, e1, e2]; done)
        | (simp [out_nat, h23, h28, h40, h45, e1]; done)
        | (simp [out_nat, h23, h28, h40, h45]; done)
     ·
      try simp only [zA, zB, zC, zD, zE, zF] at h45
      refine w_skip ?_
      refine q_blk_normal ?_
      refine q_then (hK36 _ _ ?_)
      refine w_seq (fun K49 hK48 => ?_)
      refine w_region ?_
      refine w_p (y_fieldAddr (o := 2) (i := 2) Try.underlying25 rfl Try.sizeOf23 rfl rfl rfl) rfl ?_
      refine w_p (y_load1 Try.isAgg23 hs35.tail rfl rfl (show Ats _ _ _ _ [_] from Ats.part hbx 2 1)) rfl ?_
      refine w_p (y_makeFunc (fv := []) (cv := [_, _]) rfl rfl rfl rfl) rfl ?_
      refine w_call want_none Try.call54 rfl rfl rfl rfl (c54 _ _ b.ctrs p.pc hlc hm.c.cons.cons.cons (.func (.func 55) #[] #[.pointer (some ⟨b3, 0, none⟩), .pointer (some ⟨b8, 0, none⟩)]) (ctrE b.hours.length) (fun i hi X w hs => fcon_fn Try.call55 (c55 b p (BIn.app hm.cons.cons.cons) i hi b3 b8 (Ats.app hbx.cons) (Ats.app hbn.cons) hs)) hs35) ?_
      rintro _ w51 ⟨rfl, hs52⟩
      refine w_p (y_move (v := .tuple _) rfl rfl) rfl ?_
      refine w_p (y_extract (v := .int _ _) rfl rfl rfl) rfl ?_
      refine w_p (y_extract (v := .int _ _) rfl rfl rfl) rfl ?_
      refine w_p (y_assign (v := .int _ _) rfl rfl) rfl ?_
      refine w_p (y_assign (v := .int _ _) rfl rfl) rfl ?_
      refine w_nil ?_
      refine q_then (hK48 _ _ ?_)
      refine w_seq (fun K54 hK53 => ?_)
      refine w_seq (fun K56 hK55 => ?_)
      refine w_region ?_
      refine w_p (y_move (v := .int _ _) rfl rfl) rfl ?_
      refine w_p (y_neq rfl rfl rfl rfl) rfl ?_
      refine w_nil ?_
      refine q_then (hK55 _ _ ?_)
      refine w_cond rfl rfl (fun h57 => ?_) (fun h57 => ?_)
      ·
       try simp only [zA, zB, zC, zD, zE, zF] at h57
       refine w_seq (fun K59 hK58 => ?_)
       refine w_region ?_
       refine w_p (y_move (v := .int _ _) rfl rfl) rfl ?_
       refine w_p (y_move (v := .int _ _) rfl rfl) rfl ?_
       refine w_p (y_assign (v := _) rfl rfl) rfl ?_
       refine w_p (y_assign (v := .int _ _) rfl rfl) rfl ?_
       refine w_p (y_assign (v := .int _ _) rfl rfl) rfl ?_
       refine w_nil ?_
       refine q_then (hK58 _ _ ?_)
       refine w_ret ?_
       refine q_then_ret ?_
       refine q_ret (l := [.tmp 2, .tmp 3, .tmp 4]) (vs := [_, _, _]) rfl ⟨⟨rfl, show _ = (.int _ _ : Value) from rfl⟩, ⟨rfl, show _ = (.int _ _ : Value) from rfl⟩, ⟨rfl, show _ = (.int _ _ : Value) from rfl⟩, trivial⟩ ?_
       try simp only [List.any_cons, List.any_nil, Bool.or_false, Bool.or_eq_false_iff] at h23 h28 h40 h45 h57
       refine ⟨tup3 ?_, hs52.tail.tail.tail⟩; unfold check failE
       try have e1 : ¬ ((4:Int) < (b.hours.length : Int)) := by omega
       try have e2 : ¬ ((2:Int) < (b.ctrs.length : Int)) := by omega
       first
         | (simp [out_nat, h23, h28, h40, h45, h57, e1, e2]; done)
         | (simp [out_nat, h23, h28, h40, h45, h57, e1]; done)
         | (simp [out_nat, h23, h28, h40, h45, h57]; done)
      ·
       try simp only [zA, zB, zC, zD, zE, zF] at h57
       refine w_skip ?_
       refine q_then (hK53 _ _ ?_)
       refine w_seq (fun K61 hK60 => ?_)
       refine w_region ?_
       refine w_p (y_assign (v := _) rfl rfl) rfl ?_
       refine w_p (y_assign (v := _) rfl rfl) rfl ?_
       refine w_p (y_assign (v := _) rfl rfl) rfl ?_
       refine w_nil ?_
       refine q_then (hK60 _ _ ?_)
       refine w_ret ?_
       refine q_ret (l := [.tmp 2, .tmp 3, .tmp 4]) (vs := [_, _, _]) rfl ⟨⟨rfl, show _ = (.int _ _ : Value) from rfl⟩, ⟨rfl, show _ = (.int _ _ : Value) from rfl⟩, ⟨rfl, show _ = (.int _ _ : Value) from rfl⟩, trivial⟩ ?_
       try simp only [List.any_cons, List.any_nil, Bool.or_false, Bool.or_eq_false_iff] at h23 h28 h40 h45 h57
       refine ⟨tup3 ?_, hs52.tail.tail.tail⟩; unfold check failE
       try have e1 : ¬ ((4:Int) < (b.hours.length : Int)) := by omega
       try have e2 : ¬ ((2:Int) < (b.ctrs.length : Int)) := by omega
       first
         | (simp [out_nat, h23, h28, h40, h45, h57, e1, e2]; done)
         | (simp [out_nat, h23, h28, h40, h45, h57, e1]; done)
         | (simp [out_nat, h23, h28, h40, h45, h57]; done)

end Go.Proofs
/- Walks of this seat, printed by gen.py over the engine: what each function returns, in whatever world. No conditions but those of each contract. -/
set_option linter.unusedVariables false
set_option linter.unusedSimpArgs false
set_option maxRecDepth 20000
namespace Go.Proofs
open Go.Rt Go.Rt.Ch
open Go.Rt.Ha (firstE firstE_step firstE_stop firstE_end failE nameE felt spanL upto span_mem listL fewest fewTo bit)
attribute [local irreducible] WL WC Con Yd At Ats Sl Agree DW
theorem Try_E_fb1 (x0 : Int) (x1 : Int) (x2 : Bool) (w : World) : (Instr.build 140 [(0, .int .i64 x0), (1, .int .i64 x1), (2, .bool x2)].toArray).run Try.prog w = .ok (.agg #[.int .i64 x0, .int .i64 x1, .bool x2]) w := by kernel_rfl
theorem Try_E_fb2 (x0 : Int) (x1 : Int) (x2 : Bool) (w : World) : (Instr.buildSlice 152 1 [(0, .agg #[.int .i64 x0, .int .i64 x1, .bool x2])].toArray).run Try.prog w = .ok (.slice (some ⟨w.heap.size, 0, none⟩) 1 1) (w.alloc (Go.Rt.blk 140 [.int .i64 x0, .int .i64 x1, .bool x2])) := by kernel_rfl
theorem Try_info140 : Try.prog.info? 140 = some Try.t140 := by kernel_rfl
/-- A board that lies opened in memory. -/
structure BK (w0 : World) (F : List (Nat × Obj)) (b : Board) (p : AtB) (bb mm : Nat) : Prop where
  i : BIn w0 F b p
  l : Ats w0 F bb 0 [.int .i64 b.holds, .slice p.ah b.hours.length p.ch, .slice p.ac b.ctrs.length p.cc, .map (some mm)]
  ok : b.Ok
theorem BK.mono {w0 : World} {F F' : List (Nat × Obj)} {b : Board} {p : AtB} {bb mm : Nat} (h : BK w0 F b p bb mm) (hs : ∀ w, St w0 w F' → St w0 w F) : BK w0 F' b p bb mm := ⟨h.i.mono hs, h.l.mono hs, h.ok⟩
theorem BK.cons {w0 : World} {F : List (Nat × Obj)} {x : Nat × Obj} {b : Board} {p : AtB} {bb mm : Nat} (h : BK w0 F b p bb mm) : BK w0 (x :: F) b p bb mm := h.mono fun _ h => h.tail
theorem BK.app {w0 : World} {F B : List (Nat × Obj)} {b : Board} {p : AtB} {bb mm : Nat} (h : BK w0 F b p bb mm) : BK w0 (B ++ F) b p bb mm := h.mono fun _ h => h.drop
theorem key_zip {P : Program} {t k : Nat} {fs : Array Field} (ks : List Nat) (hu : P.underlying t = some (.struct fs)) (hp : P.stoodInHeld t = false) (h1 : fs.toList = (fs.toList.zip ks).map Prod.fst) (h2 : ∀ q ∈ fs.toList.zip ks, FF P q.1 q.2 ∧ q.1.offset + q.2 ≤ k)
    (h3 : ∀ q ∈ fs.toList.zip ks, P.underlying q.1.type = some (.int .i64) ∨ ∃ el, P.underlying q.1.type = some (.array q.2 el) ∧ P.underlying el = some (.int .i64) ∧ ∀ w, (sizeOf el).run P w = .ok 1 w)
    (h4 : ∀ l m : List Int, l.length = k → m.length = k → ((fs.toList.zip ks).all fun q => decide ((l.drop q.1.offset).take q.2 = (m.drop q.1.offset).take q.2)) = decide (l = m)) : KeyTy P t k := keyTy_struct _ hu hp h1 h2 h3 h4
theorem key154_cov : ∀ l m : List Int, l.length = 3 → m.length = 3 → (decide ((l.drop 0).take 1 = (m.drop 0).take 1) && (decide ((l.drop 1).take 1 = (m.drop 1).take 1) && (decide ((l.drop 2).take 1 = (m.drop 2).take 1) && true))) = decide (l = m) := by
  intro l m hl hm
  match l, hl with
  | [a, b, c], _ =>
    match m, hm with
    | [a', b', c'], _ => rw [Bool.eq_iff_iff]; simp
theorem key154 : KeyTy Try.prog 154 3 := by
  refine key_zip [1, 1, 1] Try.underlying154 (by kernel_rfl) rfl ?_ ?_ ?_
  · intro q hq
    simp only [List.zip_cons_cons, List.zip_nil_right, List.mem_cons, List.not_mem_nil, or_false] at hq
    rcases hq with rfl | rfl | rfl
    · exact ⟨⟨by decide, .inl ⟨Try.underlying3, rfl⟩⟩, by decide⟩
    · exact ⟨⟨by decide, .inl ⟨Try.underlying3, rfl⟩⟩, by decide⟩
    · exact ⟨⟨by decide, .inl ⟨Try.underlying3, rfl⟩⟩, by decide⟩
  · intro q hq
    simp only [List.zip_cons_cons, List.zip_nil_right, List.mem_cons, List.not_mem_nil, or_false] at hq
    rcases hq with rfl | rfl | rfl
    · exact .inl Try.underlying3
    · exact .inl Try.underlying3
    · exact .inl Try.underlying3
  · exact key154_cov
/-- An entry of the memo: how a counter stands before an hour, and its ways. -/
def Ent (w0 : World) (b : Board) (MB : List (Nat × Obj)) (q : List Int × Value × Nat) : Prop :=
  ∃ (c a : Nat) (s : Int) (x : Option Addr) (cap : Nat), q.1 = [(c : Int), (a : Int), s] ∧ q.2.1 = .slice x (waysAt b c a s).length cap ∧ Sl w0 MB x 3 (wrows (waysAt b c a s))
theorem Ent.mono {w0 : World} {b : Board} {M M' : List (Nat × Obj)} {q : List Int × Value × Nat} (h : Ent w0 b M q) (hs : ∀ w, St w0 w M' → St w0 w M) : Ent w0 b M' q := by
  obtain ⟨c, a, s, x, cap, h1, h2, h3⟩ := h
  exact ⟨c, a, s, x, cap, h1, h2, h3.mono hs⟩
/-- What the memo of a board that is looked at holds. -/
def Memo (w0 : World) (b : Board) (mm : Nat) (M : List (Nat × Obj)) : Prop :=
  ∃ (es : List (List Int × Value × Nat)) (ck : Nat) (MB : List (Nat × Obj)), M = (mm, .map (ents (fun l : List Int => ia l) es).toArray ck) :: MB ∧ MOk es ck ∧ (∀ q ∈ es, q.1.length = 3) ∧ ∀ q ∈ es, Ent w0 b MB q
theorem memo_new (w0 : World) (b : Board) (mm : Nat) : Memo w0 b mm [(mm, .map #[] 0)] := ⟨[], 0, [], rfl, mok_nil, by simp, by simp⟩
theorem flat_wrows (l : List Ch.Way) (x : Ch.Way) : (wrows (l ++ [x])).flatten = (wrows l).flatten ++ [x.cells].flatten := by simp [wrows]
theorem own_way {v : Value} {l : List Ch.Way} {x : Ch.Way} {B : List (Nat × Obj)} (h : Rt.Own v 140 3 (l.length + 1) ((wrows l).flatten ++ [x.cells].flatten) B) : Rt.Own v 140 3 (l ++ [x]).length (wrows (l ++ [x])).flatten B := by
  rw [flat_wrows, List.length_append]; exact h
theorem wrows_row (l : List Ch.Way) : ∀ row ∈ wrows l, row.length = 3 := by intro row h; obtain ⟨q, _, rfl⟩ := List.mem_map.1 h; rfl
theorem c110f {w0 w : World} {F : List (Nat × Obj)} (b : Board) (p : AtB) (bb mm : Nat) (hk : BK w0 F b p bb mm) (c a : Nat) (hc : c < b.ctrs.length) (ha : a < b.hours.length) (s : Int) (hs1 : 0 ≤ s ∧ s < 100) (es : List (List Int × Value × Nat)) (ck : Nat) (hes : ∀ q ∈ es, q.1.length = 3) (u : Value) (a9 : Option Addr) (n9 c9 : Nat) (hu : u = .slice a9 n9 c9) (hf : getA [(c : Int), (a : Int), s] es = some u) (hs : St w0 w ((mm, .map (ents (fun l : List Int => ia l) es).toArray ck) :: F)) :
  Con Try.prog 110 [.pointer (some ⟨bb, 0, none⟩), .agg #[.int .i64 (c : Int), .int .i64 (a : Int), .int .i64 s]] w fun v w' => v = u ∧ St w0 w' ((mm, .map (ents (fun l : List Int => ia l) es).toArray ck) :: F) := by
  refine con_of_wc (n := 128) Try.func110 rfl rfl (Nat.le_of_ble_eq_true rfl) ?_
  subst hu
  have hb := hk.l
  refine w_seq (fun K2 hK1 => ?_)
  refine w_region ?_
  refine w_box (v := .agg #[.int _ _, .int _ _, .int _ _]) (cs := [_, _, _]) want_none rfl rfl rfl hs (fun b3 w4 hs5 => ?_)
  refine w_p (y_assign (v := _) rfl rfl) rfl ?_
  refine w_nil ?_
  refine q_then (hK1 _ _ ?_)
  refine w_seq (fun K7 hK6 => ?_)
  refine w_seq (fun K9 hK8 => ?_)
  refine w_draw [] [(0, 0), (1, 0), (2, 0), (3, 1), (4, 1), (5, 1), (6, 0), (7, 0), (8, 0), (9, 0), (10, 0)] Try_mo (drawOK_of (by kernel_rfl)) hs5 (fun w10 hs11 => ?_)
  refine d_any rfl want_none rfl (fun _ => (y_move (v := .pointer _) rfl rfl)) ?_
  refine d_any rfl want_none rfl (fun _ => (y_nilCheck rfl rfl)) ?_
  refine d_any rfl want_none rfl (fun _ => (y_fieldAddr (o := 3) (i := 1) Try.underlying129 rfl Try.sizeOf127 rfl rfl rfl)) ?_
  refine d_take rfl want_none rfl hs11 (fun _ hq => (y_load1 Try.isAgg127 hq.tail.tail rfl rfl (show Ats _ _ _ _ [_] from Ats.part hb 3 1))) ?_
  refine d_take rfl want_none rfl hs11 (fun _ hq => (y_loadN (vs := [_, _, _]) Try.isAgg154 Try.sizeOf154 hq rfl rfl (ats_own (i := 0) (vs := [_, _, _]) rfl rfl))) ?_
  refine d_take rfl want_none rfl hs11 (fun _ hq => (G_look2S (i := 1) (a := [(c : Int), (a : Int), s]) Try.underlying127 (keyG_ia key154) rfl hes hq rfl rfl rfl rfl rfl hf)) ?_
  refine d_any rfl want_none rfl (fun _ => (y_move (v := .tuple _) rfl rfl)) ?_
  refine d_any rfl want_none rfl (fun _ => (y_extract (v := .slice _ _ _) rfl rfl rfl)) ?_
  refine d_any rfl want_none rfl (fun _ => (y_extract (v := .bool _) rfl rfl rfl)) ?_
  refine d_any rfl want_none rfl (fun _ => (y_assign (v := .slice _ _ _) rfl rfl)) ?_
  refine d_any rfl want_none rfl (fun _ => (y_assign (v := .bool _) rfl rfl)) ?_
  refine d_nil ?_
  refine q_then (hK8 _ _ ?_)
  refine w_seq (fun K13 hK12 => ?_)
  refine w_region ?_
  refine w_p (y_move (v := .bool _) rfl rfl) rfl ?_
  refine w_nil ?_
  refine q_then (hK12 _ _ ?_)
  refine w_cond rfl rfl (fun h14 => ?_) (fun h14 => ?_)
  ·
   try simp only [zA, zB, zC, zD, zE, zF] at h14
   refine w_seq (fun K16 hK15 => ?_)
   refine w_region ?_
   refine w_p (y_move (v := .slice _ _ _) rfl rfl) rfl ?_
   refine w_p (y_assign (v := .slice _ _ _) rfl rfl) rfl ?_
   refine w_nil ?_
   refine q_then (hK15 _ _ ?_)
   refine w_ret ?_
   refine q_then_ret ?_
   refine q_ret (l := [.tmp 4]) (vs := [_]) rfl ⟨⟨rfl, show _ = (.slice _ _ _ : Value) from rfl⟩, trivial⟩ ?_
   exact ⟨rfl, hs11.tail⟩
  ·
   exfalso; simp at h14

theorem c110n {w0 w : World} {F : List (Nat × Obj)} (b : Board) (p : AtB) (bb mm : Nat) (hk : BK w0 F b p bb mm) (c a : Nat) (hc : c < b.ctrs.length) (ha : a < b.hours.length) (s : Int) (hs1 : 0 ≤ s ∧ s < 100) (es : List (List Int × Value × Nat)) (ck : Nat) (hes : ∀ q ∈ es, q.1.length = 3) (hf : getA [(c : Int), (a : Int), s] es = none) (hs : St w0 w ((mm, .map (ents (fun l : List Int => ia l) es).toArray ck) :: F)) :
  Con Try.prog 110 [.pointer (some ⟨bb, 0, none⟩), .agg #[.int .i64 (c : Int), .int .i64 (a : Int), .int .i64 s]] w fun v w' => ∃ (x : Option Addr) (cap : Nat) (B : List (Nat × Obj)), v = .slice x (waysAt b c a s).length cap ∧ Sl w0 B x 3 (wrows (waysAt b c a s)) ∧ St w0 w' ((mm, .map (ents (fun l : List Int => ia l) (putA [(c : Int), (a : Int), s] v ck es)).toArray (if idxA [(c : Int), (a : Int), s] es 0 = none then ck + 1 else ck)) :: (B ++ F)) := by
  refine con_of_wc (n := 128) Try.func110 rfl rfl (Nat.le_of_ble_eq_true rfl) ?_
  have hb := hk.l
  have hcok := hk.ok.ctr _ (List.getElem_mem hc)
  have hhok := hk.ok.hour _ (List.getElem_mem ha)
  obtain ⟨bx, ox, hbx, hxc⟩ := sl_krows hk.i.c hc
  obtain ⟨by_, oy, hby, hxh⟩ := sl_hrows hk.i.h ha
  have hz0 := hk.i.z c hc
  have hs0 := hk.i.s c hc
  rw [← ctr_at hc] at hcok hxc hz0 hs0
  rw [← hour_at ha] at hhok hxh
  have k1 := hcok.skip
  have k2 := hcok.twice
  have k3 := hhok.lo
  have k4 := hhok.le
  have k5 := hhok.hi
  have k6 := hhok.w
  have k7 := hcok.lz
  have k8 := hcok.ls
  have k9 := hk.ok.lh
  have haz : a < (ctrOf b c).zero.length := by omega
  have has : a < (ctrOf b c).shown.length := by omega
  obtain ⟨bz, oz, hbz, hxz⟩ := sl_ints hz0 haz
  obtain ⟨bv, ov, hbv, hxv⟩ := sl_ints hs0 has
  have hgz : (ctrOf b c).zero.getD a 0 = (ctrOf b c).zero[a] := by simp [List.getD, haz]
  have hgs : (ctrOf b c).shown.getD a 0 = (ctrOf b c).shown[a] := by simp [List.getD, has]
  have hsr := hcok.shown _ (List.getElem_mem has)
  refine w_seq (fun K2 hK1 => ?_)
  refine w_region ?_
  refine w_box (v := .agg #[.int _ _, .int _ _, .int _ _]) (cs := [_, _, _]) want_none rfl rfl rfl hs (fun b3 w4 hs5 => ?_)
  refine w_p (y_assign (v := _) rfl rfl) rfl ?_
  refine w_nil ?_
  refine q_then (hK1 _ _ ?_)
  refine w_seq (fun K7 hK6 => ?_)
  refine w_seq (fun K9 hK8 => ?_)
  refine w_draw [] [(0, 0), (1, 0), (2, 0), (3, 1), (4, 1), (5, 1), (6, 0), (7, 0), (8, 0), (9, 0), (10, 0)] Try_mo (drawOK_of (by kernel_rfl)) hs5 (fun w10 hs11 => ?_)
  refine d_any rfl want_none rfl (fun _ => (y_move (v := .pointer _) rfl rfl)) ?_
  refine d_any rfl want_none rfl (fun _ => (y_nilCheck rfl rfl)) ?_
  refine d_any rfl want_none rfl (fun _ => (y_fieldAddr (o := 3) (i := 1) Try.underlying129 rfl Try.sizeOf127 rfl rfl rfl)) ?_
  refine d_take rfl want_none rfl hs11 (fun _ hq => (y_load1 Try.isAgg127 hq.tail.tail rfl rfl (show Ats _ _ _ _ [_] from Ats.part hb 3 1))) ?_
  refine d_take rfl want_none rfl hs11 (fun _ hq => (y_loadN (vs := [_, _, _]) Try.isAgg154 Try.sizeOf154 hq rfl rfl (ats_own (i := 0) (vs := [_, _, _]) rfl rfl))) ?_
  refine d_take rfl want_none rfl hs11 (fun _ hq => (G_look2N (i := 1) (a := [(c : Int), (a : Int), s]) Try.underlying127 (keyG_ia key154) rfl hes Try.zeroValue152 hq rfl rfl rfl rfl rfl hf)) ?_
  refine d_any rfl want_none rfl (fun _ => (y_move (v := .tuple _) rfl rfl)) ?_
  refine d_any rfl want_none rfl (fun _ => (y_extract (v := .slice _ _ _) rfl rfl rfl)) ?_
  refine d_any rfl want_none rfl (fun _ => (y_extract (v := .bool _) rfl rfl rfl)) ?_
  refine d_any rfl want_none rfl (fun _ => (y_assign (v := .slice _ _ _) rfl rfl)) ?_
  refine d_any rfl want_none rfl (fun _ => (y_assign (v := .bool _) rfl rfl)) ?_
  refine d_nil ?_
  refine q_then (hK8 _ _ ?_)
  refine w_seq (fun K13 hK12 => ?_)
  refine w_region ?_
  refine w_p (y_move (v := .bool _) rfl rfl) rfl ?_
  refine w_nil ?_
  refine q_then (hK12 _ _ ?_)
  refine w_cond rfl rfl (fun h14 => ?_) (fun h14 => ?_)
  ·
   exfalso
   try simp only [zA, zB, zC, zD, zE, zF] at h14
   simp at h14
  ·
   try simp only [zA, zB, zC, zD, zE, zF] at h14
   refine w_skip ?_
   refine q_then (hK6 _ _ ?_)
   refine w_seq (fun K16 hK15 => ?_)
   refine w_region ?_
   refine w_p (y_assign (v := _) rfl rfl) rfl ?_
   refine w_nil ?_
   refine q_then (hK15 _ _ ?_)
   refine w_seq (fun K18 hK17 => ?_)
   refine w_cut [8, 9, 26, 27, 28, 29, 30, 31, 32, 33, 34, 35, 36, 37, 38, 39, 40, 41, 42, 43, 44] [8, 9] (fun vs w => ∃ b8 b9, vs = [.pointer (some ⟨b8, 0, none⟩), .pointer (some ⟨b9, 0, none⟩)] ∧ St w0 w ((b9, blk 31 [.int .i64 (hourOf b a).lo, .int .i64 (hourOf b a).hi]) :: (b8, blk 76 ((ctrOf b c).cells (p.pc c))) :: (b3, blk 154 [.int .i64 (c : Int), .int .i64 (a : Int), .int .i64 s]) :: (mm, .map (ents (fun l : List Int => ia l) es).toArray ck) :: F)) (fun K20 hC19 => ?_) ?_
   ·
    refine w_drawT (C := fun w => St w0 w _) [] (.two [(0, 0), (1, 0), (2, 0), (3, 0), (4, 1), (5, 0), (6, 1), (7, 0), (8, 1), (9, 0), (10, 0), (11, 0), (12, 0), (13, 1), (14, 0), (15, 1), (16, 0), (17, 0), (18, 1)] 19 20 (.done [(20, 2), (21, 2), (22, 2)]) (.done [(19, 2), (21, 2), (22, 2)])) Try_mo (by kernel_rfl) hs11 (fun _ h => h.drew) (fun w21 hs22 => ?_)
    refine dt_two ?_
    refine d_any rfl want_none rfl (fun _ => (y_move (v := .pointer _) rfl rfl)) ?_
    refine d_any rfl want_none rfl (fun _ => (y_nilCheck rfl rfl)) ?_
    refine d_any rfl want_none rfl (fun _ => (y_fieldAddr (o := 0) (i := 0) Try.underlying129 rfl Try.sizeOf25 rfl rfl rfl)) ?_
    refine d_any rfl want_none rfl (fun _ => (y_fieldAddr (o := 2) (i := 2) Try.underlying25 rfl Try.sizeOf23 rfl rfl rfl)) ?_
    refine d_take rfl want_none rfl hs22 (fun _ hq => (yd_slice hbx (y_load1 Try.isAgg23 hq.tail.tail rfl rfl (show Ats _ _ _ _ [_] from Ats.part hb 2 1)))) ?_
    refine d_any rfl want_none rfl (fun _ => (y_fieldAddr (o := 0) (i := 0) Try.underlying154 rfl Try.sizeOf3 rfl rfl rfl)) ?_
    refine d_take rfl want_none rfl hs22 (fun _ hq => (y_load1 Try.isAgg3 hq rfl rfl (ats_own (i := 0) (vs := [_]) rfl rfl))) ?_
    refine d_any rfl want_none rfl (fun _ => (y_indexS Try.underlying23 Try.sizeOf76 rfl rfl rfl rfl (i := c) rfl hc)) ?_
    refine d_take rfl want_none rfl hs22 (fun _ hq => (y_loadN (vs := [_, _, _, _, _, _]) Try.isAgg76 Try.sizeOf76 hq.tail.tail rfl rfl hxc)) ?_
    refine d_any rfl want_none rfl (fun _ => (y_move (v := .pointer _) rfl rfl)) ?_
    refine d_any rfl want_none rfl (fun _ => (y_nilCheck rfl rfl)) ?_
    refine d_any rfl want_none rfl (fun _ => (y_fieldAddr (o := 0) (i := 0) Try.underlying129 rfl Try.sizeOf25 rfl rfl rfl)) ?_
    refine d_any rfl want_none rfl (fun _ => (y_fieldAddr (o := 1) (i := 1) Try.underlying25 rfl Try.sizeOf22 rfl rfl rfl)) ?_
    refine d_take rfl want_none rfl hs22 (fun _ hq => (yd_slice hby (y_load1 Try.isAgg22 hq.tail.tail rfl rfl (show Ats _ _ _ _ [_] from Ats.part hb 1 1)))) ?_
    refine d_any rfl want_none rfl (fun _ => (y_fieldAddr (o := 1) (i := 1) Try.underlying154 rfl Try.sizeOf3 rfl rfl rfl)) ?_
    refine d_take rfl want_none rfl hs22 (fun _ hq => (y_load1 Try.isAgg3 hq rfl rfl (ats_own (i := 0) (vs := [_]) rfl rfl))) ?_
    refine d_any rfl want_none rfl (fun _ => (y_indexS Try.underlying22 Try.sizeOf70 rfl rfl rfl rfl (i := a) rfl ha)) ?_
    refine d_any rfl want_none rfl (fun _ => (y_fieldAddr (o := 1) (i := 1) Try.underlying70 rfl Try.sizeOf31 rfl rfl rfl)) ?_
    refine d_take rfl want_none rfl hs22 (fun _ hq => (y_loadN (vs := [_, _]) Try.isAgg31 Try.sizeOf31 hq.tail.tail rfl rfl (show Ats _ _ _ _ [_, _] from Ats.part hxh 1 2))) ?_
    refine d_two rfl rfl ?_ ?_
    ·
     refine w_alloc (cs := [_, _, _, _, _, _]) want_none Try.zeroValue76 rfl hs22 (fun b23 w24 hs25 => ?_)
     refine w_nil ?_
     refine qn ⟨hs25.tail, ?_⟩
     refine dt_done ?_
     refine d_eff rfl ?_
     refine w_alloc (cs := [_, _]) want_none Try.zeroValue31 rfl hs25 (fun b26 w27 hs28 => ?_)
     refine w_nil ?_
     refine qn ⟨hs28.tail.tail, ?_⟩
     refine d_eff rfl ?_
     refine w_store (i := 1) (v := .agg #[.string _, .int _ _, .int _ _, .int _ _, .slice _ _ _, .slice _ _ _]) (vs := [_, _, _, _, _, _]) want_none Try.sizeOf76 rfl rfl rfl rfl rfl (by simp [Value.oneCell']) hs28 rfl (Nat.le_of_ble_eq_true rfl) (fun w29 hs30 => ?_)
     refine w_nil ?_
     refine qn ⟨hs30.tail.tail, ?_⟩
     refine d_eff rfl ?_
     refine w_store (i := 0) (v := .agg #[.int _ _, .int _ _]) (vs := [_, _]) want_none Try.sizeOf31 rfl rfl rfl rfl rfl (by simp [Value.oneCell']) hs30 rfl (Nat.le_of_ble_eq_true rfl) (fun w31 hs32 => ?_)
     refine w_nil ?_
     refine qn ⟨hs32.tail.tail, ?_⟩
     refine d_nil ?_
     refine q_then (hC19 _ _ (Md.intro (by repeat (first | exact agree_refl | exact agree_mix | refine agree_upd rfl ?_ | refine agree_updL rfl ?_ _ | refine agree_mixin rfl ?_)) ?_))
     first
       | exact ⟨_, _, rfl, hs32⟩
       | exact ⟨_, _, rfl, swp2 (show St _ _ (_ :: _ :: _) from hs32)⟩
    ·
     refine w_alloc (cs := [_, _]) want_none Try.zeroValue31 rfl hs22 (fun b33 w34 hs35 => ?_)
     refine w_nil ?_
     refine qn ⟨hs35.tail, ?_⟩
     refine dt_done ?_
     refine d_eff rfl ?_
     refine w_alloc (cs := [_, _, _, _, _, _]) want_none Try.zeroValue76 rfl hs35 (fun b36 w37 hs38 => ?_)
     refine w_nil ?_
     refine qn ⟨hs38.tail.tail, ?_⟩
     refine d_eff rfl ?_
     refine w_store (i := 0) (v := .agg #[.string _, .int _ _, .int _ _, .int _ _, .slice _ _ _, .slice _ _ _]) (vs := [_, _, _, _, _, _]) want_none Try.sizeOf76 rfl rfl rfl rfl rfl (by simp [Value.oneCell']) hs38 rfl (Nat.le_of_ble_eq_true rfl) (fun w39 hs40 => ?_)
     refine w_nil ?_
     refine qn ⟨hs40.tail.tail, ?_⟩
     refine d_eff rfl ?_
     refine w_store (i := 1) (v := .agg #[.int _ _, .int _ _]) (vs := [_, _]) want_none Try.sizeOf31 rfl rfl rfl rfl rfl (by simp [Value.oneCell']) hs40 rfl (Nat.le_of_ble_eq_true rfl) (fun w41 hs42 => ?_)
     refine w_nil ?_
     refine qn ⟨hs42.tail.tail, ?_⟩
     refine d_nil ?_
     refine q_then (hC19 _ _ (Md.intro (by repeat (first | exact agree_refl | exact agree_mix | refine agree_upd rfl ?_ | refine agree_updL rfl ?_ _ | refine agree_mixin rfl ?_)) ?_))
     first
       | exact ⟨_, _, rfl, hs42⟩
       | exact ⟨_, _, rfl, swp2 (show St _ _ (_ :: _ :: _) from hs42)⟩
   ·
    intro vs μ w43 hM
    obtain ⟨b8, b9, rfl, hs⟩ := hM
    refine q_then (hK17 _ _ ?_)
    refine w_seq (fun K45 hK44 => ?_)
    refine w_seq (fun K47 hK46 => ?_)
    refine w_region ?_
    refine w_p (y_move (v := _) rfl rfl) rfl ?_
    refine w_nil ?_
    refine q_then (hK46 _ _ ?_)
    refine w_block ?_
    refine w_loop [7, 10, 11, 12, 13, 14, 45, 46, 47, 48, 49, 50, 51, 52, 53, 54, 55, 56, 57, 58, 59, 60, 61, 62, 63, 64, 65, 66, 67, 68, 69, 70, 71, 72, 73, 74, 75, 76, 77, 78, 79, 80, 81, 82, 83, 84, 85, 86, 87, 88, 89, 90, 91, 92, 93, 94, 95, 96, 97, 98, 99, 100, 101, 102, 103, 104, 105, 106, 107, 108, 109, 110, 111, 112, 113, 114, 115, 116, 117, 118, 119, 120] [7, 45] (fun kk vs w => ∃ (z : Nat) (v : Value) (B : List (Nat × Obj)), vs = [v, .int .i64 z] ∧ z ≤ 2 ∧ kk = 2 - z ∧ Rt.Own v 140 3 (wTo (ctrOf b c) (hourOf b a) a s z).length (wrows (wTo (ctrOf b c) (hourOf b a) a s z)).flatten B ∧ St w0 w ((b9, blk 31 [.int .i64 (hourOf b a).lo, .int .i64 (hourOf b a).hi]) :: (b8, blk 76 ((ctrOf b c).cells (p.pc c))) :: (b3, blk 154 [.int .i64 (c : Int), .int .i64 (a : Int), .int .i64 s]) :: (mm, .map (ents (fun l : List Int => ia l) es).toArray ck) :: (B ++ F))) (2) ?_ ?_
    ·
     exact ⟨0, _, [], rfl, by omega, by omega, own_nil 140 3, hs⟩
    ·
     intro k vs μ w50 hI K49 hN48
     obtain ⟨z, v, B, rfl, hza, rfl, hown, hs⟩ := hI
     have hzb : decide ((z : Int) = 1) = decide (z = 1) := by rw [Bool.eq_iff_iff]; simp; omega
     have hwl := wTo_len (a := a) (s := s) hcok hhok z
     refine w_seq (fun K52 hK51 => ?_)
     refine w_region ?_
     refine w_p (y_lss rfl rfl rfl rfl) rfl ?_
     refine w_nil ?_
     refine q_then (hK51 _ _ ?_)
     refine w_seq (fun K54 hK53 => ?_)
     refine w_cond rfl rfl (fun h55 => ?_) (fun h55 => ?_)
     ·
      try simp only [zA, zB, zC, zD, zE, zF] at h55
      refine w_skip ?_
      refine q_then (hK53 _ _ ?_)
      refine w_seq (fun K57 hK56 => ?_)
      refine w_block ?_
      refine w_seq (fun K59 hK58 => ?_)
      refine w_region ?_
      refine w_p (y_move (v := .int _ _) rfl rfl) rfl ?_
      refine w_p (y_assign (v := .int _ _) rfl rfl) rfl ?_
      refine w_nil ?_
      refine q_then (hK58 _ _ ?_)
      refine w_seq (fun K61 hK60 => ?_)
      refine w_seq (fun K63 hK62 => ?_)
      refine w_region ?_
      refine w_p (y_move (v := .int _ _) rfl rfl) rfl ?_
      refine w_p (y_eql rfl rfl rfl rfl) rfl ?_
      refine w_p (y_move (v := .bool _) rfl rfl) rfl ?_
      refine w_split (fun h64 => ?_) (fun h64 => ?_)
      ·
       try simp only [zA, zB, zC, zD, zE, zF] at h64
       refine w_y rfl rfl rfl (y_fieldAddr (o := 4) (i := 4) Try.underlying76 rfl Try.sizeOf39 rfl rfl rfl) rfl ?_
       refine w_y rfl rfl rfl (yd_slice hbz (y_load1 Try.isAgg39 hs rfl rfl (ats_own (i := 1) (vs := [_]) rfl rfl))) rfl ?_
       refine w_y rfl rfl rfl (y_fieldAddr (o := 1) (i := 1) Try.underlying154 rfl Try.sizeOf3 rfl rfl rfl) rfl ?_
       refine w_y rfl rfl rfl (y_load1 Try.isAgg3 hs rfl rfl (ats_own (i := 2) (vs := [_]) rfl rfl)) rfl ?_
       refine w_y rfl rfl rfl (y_indexS Try.underlying39 Try.sizeOf3 rfl rfl rfl rfl (i := a) rfl haz) rfl ?_
       refine w_y rfl rfl rfl (y_load1 Try.isAgg3 hs.tail.tail.tail.tail.drop rfl rfl hxz) rfl ?_
       refine w_y rfl rfl rfl (y_eql rfl rfl rfl rfl) rfl ?_
       refine w_p (y_pickT (v := .bool _) rfl rfl rfl rfl) rfl ?_
       refine w_p (y_move (v := .bool _) rfl rfl) rfl ?_
       refine w_split (fun h65 => ?_) (fun h65 => ?_)
       ·
        try simp only [zA, zB, zC, zD, zE, zF] at h65
        refine w_skipop rfl rfl rfl ?_
        refine w_skipop rfl rfl rfl ?_
        refine w_skipop rfl rfl rfl ?_
        refine w_skipop' rfl rfl rfl ?_
        refine w_skipop' rfl rfl rfl ?_
        refine w_skipop' rfl rfl rfl ?_
        refine w_skipop' rfl rfl rfl ?_
        refine w_skipop' rfl rfl rfl ?_
        refine w_skipop' rfl rfl rfl ?_
        refine w_skipop' rfl rfl rfl ?_
        refine w_skipop rfl rfl rfl ?_
        refine w_p (y_pickT (v := _) rfl rfl rfl rfl) rfl ?_
        refine w_nil ?_
        refine q_then (hK62 _ _ ?_)
        refine w_condT rfl rfl ?_
        refine w_exit ?_
        refine q_then_exit ?_
        refine q_blk_this ?_
        refine q_then (hK56 _ _ ?_)
        refine w_region ?_
        refine w_p (y_add rfl rfl rfl rfl (by omega) (by omega)) rfl ?_
        refine w_p (y_move (v := .int _ _) rfl rfl) rfl ?_
        refine w_nil ?_
        refine q_then (hN48 _ _ (Nx.intro (2 - (z + 1)) (by omega) (by repeat (first | exact agree_mix | refine agree_upd rfl ?_ | refine agree_updL rfl ?_ _ | refine agree_mixin rfl ?_)) ?_))
        first
          | exact ⟨z + 1, v, B, rfl, by omega, rfl, by rw [wTo_no (canZ_n (by omega) (by omega))]; exact hown, hs⟩
          | exact ⟨z + 1, v, B, rfl, by omega, rfl, by rw [wPart_all (canZ_y (by omega) (by omega)) (q := q) (by omega)]; exact hown2, hs.tail⟩
       ·
        try simp only [zA, zB, zC, zD, zE, zF] at h65
        refine w_y rfl rfl rfl (y_move (v := .int _ _) rfl rfl) rfl ?_
        refine w_y rfl rfl rfl (y_eql rfl rfl rfl rfl) rfl ?_
        refine w_y rfl rfl rfl (y_move (v := .bool _) rfl rfl) rfl ?_
        refine w_split (fun h66 => ?_) (fun h66 => ?_)
        ·
         try simp only [zA, zB, zC, zD, zE, zF] at h66
         refine w_y rfl rfl rfl (y_fieldAddr (o := 4) (i := 4) Try.underlying76 rfl Try.sizeOf39 rfl rfl rfl) rfl ?_
         refine w_y rfl rfl rfl (yd_slice hbz (y_load1 Try.isAgg39 hs rfl rfl (ats_own (i := 1) (vs := [_]) rfl rfl))) rfl ?_
         refine w_y rfl rfl rfl (y_fieldAddr (o := 1) (i := 1) Try.underlying154 rfl Try.sizeOf3 rfl rfl rfl) rfl ?_
         refine w_y rfl rfl rfl (y_load1 Try.isAgg3 hs rfl rfl (ats_own (i := 2) (vs := [_]) rfl rfl)) rfl ?_
         refine w_y rfl rfl rfl (y_indexS Try.underlying39 Try.sizeOf3 rfl rfl rfl rfl (i := a) rfl haz) rfl ?_
         refine w_y rfl rfl rfl (y_load1 Try.isAgg3 hs.tail.tail.tail.tail.drop rfl rfl hxz) rfl ?_
         refine w_y rfl rfl rfl (y_eql rfl rfl rfl rfl) rfl ?_
         refine w_y rfl rfl rfl (y_pickT (v := .bool _) rfl rfl rfl rfl) rfl ?_
         refine w_p (y_pickF (v := .bool _) rfl rfl rfl rfl) rfl ?_
         refine w_nil ?_
         refine q_then (hK62 _ _ ?_)
         refine w_cond rfl rfl (fun h67 => ?_) (fun h67 => ?_)
         ·
          try simp only [zA, zB, zC, zD, zE, zF] at h67
          refine w_exit ?_
          refine q_then_exit ?_
          refine q_blk_this ?_
          refine q_then (hK56 _ _ ?_)
          refine w_region ?_
          refine w_p (y_add rfl rfl rfl rfl (by omega) (by omega)) rfl ?_
          refine w_p (y_move (v := .int _ _) rfl rfl) rfl ?_
          refine w_nil ?_
          refine q_then (hN48 _ _ (Nx.intro (2 - (z + 1)) (by omega) (by repeat (first | exact agree_mix | refine agree_upd rfl ?_ | refine agree_updL rfl ?_ _ | refine agree_mixin rfl ?_)) ?_))
          first
            | exact ⟨z + 1, v, B, rfl, by omega, rfl, by rw [wTo_no (canZ_n (by omega) (by omega))]; exact hown, hs⟩
            | exact ⟨z + 1, v, B, rfl, by omega, rfl, by rw [wPart_all (canZ_y (by omega) (by omega)) (q := q) (by omega)]; exact hown2, hs.tail⟩
         ·
          try simp only [zA, zB, zC, zD, zE, zF] at h67
          refine w_skip ?_
          refine q_then (hK60 _ _ ?_)
          refine w_seq (fun K69 hK68 => ?_)
          refine w_region ?_
          refine w_p (y_loadN (vs := [_, _, _]) Try.isAgg154 Try.sizeOf154 hs rfl rfl (ats_own (i := 2) (vs := [_, _, _]) rfl rfl)) rfl ?_
          refine w_alloc (cs := [_, _, _]) want_none Try.zeroValue154 rfl hs (fun b70 w71 hs72 => ?_)
          refine w_store (i := 0) (v := .agg #[.int _ _, .int _ _, .int _ _]) (vs := [_, _, _]) want_none Try.sizeOf154 rfl rfl rfl rfl rfl (by simp [Value.oneCell']) hs72 rfl (Nat.le_of_ble_eq_true rfl) (fun w73 hs74 => ?_)
          refine w_nil ?_
          refine q_then (hK68 _ _ ?_)
          refine w_seq (fun K76 hK75 => ?_)
          have hmi := mul_in (s := s) (show z < 2 by omega) hs1
          refine w_region ?_
          refine w_p (y_fieldAddr (o := 2) (i := 2) Try.underlying154 rfl Try.sizeOf3 rfl rfl rfl) rfl ?_
          refine w_p (y_load1 Try.isAgg3 hs74 rfl rfl (ats_own (i := 0) (vs := [_]) rfl rfl)) rfl ?_
          refine w_p (y_move (v := .int _ _) rfl rfl) rfl ?_
          refine w_p (y_sub rfl rfl rfl rfl (by omega) (by omega)) rfl ?_
          refine w_p (y_mul rfl rfl rfl rfl (by omega) (by omega)) rfl ?_
          refine w_p (y_fieldAddr (o := 2) (i := 2) Try.underlying154 rfl Try.sizeOf3 rfl rfl rfl) rfl ?_
          refine w_store (i := 0) (v := .int _ _) (vs := [_]) want_none Try.sizeOf3 rfl rfl rfl rfl rfl (by simp [Value.oneCell']) hs74 rfl (Nat.le_of_ble_eq_true rfl) (fun w77 hs78 => ?_)
          refine w_nil ?_
          refine q_then (hK75 _ _ ?_)
          refine w_seq (fun K80 hK79 => ?_)
          refine w_region ?_
          refine w_p (y_fieldAddr (o := 0) (i := 0) Try.underlying31 rfl Try.sizeOf3 rfl rfl rfl) rfl ?_
          refine w_p (y_load1 Try.isAgg3 hs78 rfl rfl (ats_own (i := 1) (vs := [_]) rfl rfl)) rfl ?_
          refine w_p (y_fieldAddr (o := 1) (i := 1) Try.underlying76 rfl Try.sizeOf3 rfl rfl rfl) rfl ?_
          refine w_p (y_load1 Try.isAgg3 hs78 rfl rfl (ats_own (i := 2) (vs := [_]) rfl rfl)) rfl ?_
          refine w_p (y_sub rfl rfl rfl rfl (by omega) (by omega)) rfl ?_
          refine w_p (y_max2 rfl rfl rfl rfl) rfl ?_
          refine w_p (y_assign (v := .int _ _) rfl rfl) rfl ?_
          refine w_nil ?_
          refine q_then (hK79 _ _ ?_)
          refine w_block ?_
          refine w_loop [7, 12, 13, 14, 85, 86, 87, 88, 89, 90, 91, 92, 93, 94, 95, 96, 97, 98, 99, 100, 101, 102, 103, 104, 105, 106, 107, 108, 109, 110, 111, 112, 113, 114, 115, 116, 117, 118, 119] [7, 12] (fun kk vs w => ∃ (q : Nat) (v : Value) (B : List (Nat × Obj)), vs = [v, .int .i64 ((max 0 ((hourOf b a).lo - (ctrOf b c).skip)) + q)] ∧ q ≤ ((hourOf b a).hi + (ctrOf b c).twice + 1 - (max 0 ((hourOf b a).lo - (ctrOf b c).skip))).toNat ∧ kk = ((hourOf b a).hi + (ctrOf b c).twice + 1 - (max 0 ((hourOf b a).lo - (ctrOf b c).skip))).toNat - q ∧ Rt.Own v 140 3 ((wTo (ctrOf b c) (hourOf b a) a s z) ++ wPart (ctrOf b c) a s (decide (z = 1)) (max 0 ((hourOf b a).lo - (ctrOf b c).skip)) q).length (wrows ((wTo (ctrOf b c) (hourOf b a) a s z) ++ wPart (ctrOf b c) a s (decide (z = 1)) (max 0 ((hourOf b a).lo - (ctrOf b c).skip)) q)).flatten B ∧ St w0 w ((b70, blk 154 [.int .i64 (c : Int), .int .i64 (a : Int), .int .i64 (s * (1 - (z : Int)))]) :: (b9, blk 31 [.int .i64 (hourOf b a).lo, .int .i64 (hourOf b a).hi]) :: (b8, blk 76 ((ctrOf b c).cells (p.pc c))) :: (b3, blk 154 [.int .i64 (c : Int), .int .i64 (a : Int), .int .i64 s]) :: (mm, .map (ents (fun l : List Int => ia l) es).toArray ck) :: (B ++ F))) (((hourOf b a).hi + (ctrOf b c).twice + 1 - (max 0 ((hourOf b a).lo - (ctrOf b c).skip))).toNat) ?_ ?_
          ·
           exact ⟨0, v, B, vi (by omega), by omega, by omega, by rw [show wPart (ctrOf b c) a s (decide (z = 1)) (max 0 ((hourOf b a).lo - (ctrOf b c).skip)) 0 = [] from rfl, List.append_nil]; exact hown, hs78⟩
          ·
           intro k vs μ w83 hI K82 hN81
           obtain ⟨q, v, B, rfl, hqa, rfl, hown2, hs⟩ := hI
           have hpl := wPart_len (ctrOf b c) a s (max 0 ((hourOf b a).lo - (ctrOf b c).skip)) (decide (z = 1)) q
           have hpa : ((wTo (ctrOf b c) (hourOf b a) a s z) ++ wPart (ctrOf b c) a s (decide (z = 1)) (max 0 ((hourOf b a).lo - (ctrOf b c).skip)) q).length = (wTo (ctrOf b c) (hourOf b a) a s z).length + (wPart (ctrOf b c) a s (decide (z = 1)) (max 0 ((hourOf b a).lo - (ctrOf b c).skip)) q).length := List.length_append
           refine w_seq (fun K85 hK84 => ?_)
           refine w_seq (fun K87 hK86 => ?_)
           refine w_region ?_
           refine w_p (y_move (v := .int _ _) rfl rfl) rfl ?_
           refine w_p (y_fieldAddr (o := 1) (i := 1) Try.underlying31 rfl Try.sizeOf3 rfl rfl rfl) rfl ?_
           refine w_p (y_load1 Try.isAgg3 hs rfl rfl (ats_own (i := 1) (vs := [_]) rfl rfl)) rfl ?_
           refine w_p (y_fieldAddr (o := 2) (i := 2) Try.underlying76 rfl Try.sizeOf3 rfl rfl rfl) rfl ?_
           refine w_p (y_load1 Try.isAgg3 hs rfl rfl (ats_own (i := 2) (vs := [_]) rfl rfl)) rfl ?_
           refine w_p (y_add rfl rfl rfl rfl (by omega) (by omega)) rfl ?_
           refine w_p (y_leq rfl rfl rfl rfl) rfl ?_
           refine w_nil ?_
           refine q_then (hK86 _ _ ?_)
           refine w_cond rfl rfl (fun h88 => ?_) (fun h88 => ?_)
           ·
            try simp only [zA, zB, zC, zD, zE, zF] at h88
            refine w_skip ?_
            refine q_then (hK84 _ _ ?_)
            refine w_seq (fun K90 hK89 => ?_)
            refine w_block ?_
            refine w_seq (fun K92 hK91 => ?_)
            refine w_region ?_
            refine w_p (y_fieldAddr (o := 2) (i := 2) Try.underlying154 rfl Try.sizeOf3 rfl rfl rfl) rfl ?_
            refine w_p (y_load1 Try.isAgg3 hs rfl rfl (ats_own (i := 0) (vs := [_]) rfl rfl)) rfl ?_
            refine w_p (y_move (v := .int _ _) rfl rfl) rfl ?_
            refine w_p (y_add rfl rfl rfl rfl (by omega) (by omega)) rfl ?_
            refine w_p (y_rem rfl rfl rfl rfl (by omega) (by omega)) rfl ?_
            refine w_p (y_assign (v := .int _ _) rfl rfl) rfl ?_
            refine w_nil ?_
            refine q_then (hK91 _ _ ?_)
            refine w_seq (fun K94 hK93 => ?_)
            refine w_region ?_
            refine w_p (y_fieldAddr (o := 5) (i := 5) Try.underlying76 rfl Try.sizeOf39 rfl rfl rfl) rfl ?_
            refine w_p (yd_slice hbv (y_load1 Try.isAgg39 hs rfl rfl (ats_own (i := 2) (vs := [_]) rfl rfl))) rfl ?_
            refine w_p (y_fieldAddr (o := 1) (i := 1) Try.underlying154 rfl Try.sizeOf3 rfl rfl rfl) rfl ?_
            refine w_p (y_load1 Try.isAgg3 hs rfl rfl (ats_own (i := 3) (vs := [_]) rfl rfl)) rfl ?_
            refine w_p (y_indexS Try.underlying39 Try.sizeOf3 rfl rfl rfl rfl (i := a) rfl has) rfl ?_
            refine w_p (y_load1 Try.isAgg3 hs.tail.tail.tail.tail.tail.drop rfl rfl hxv) rfl ?_
            refine w_p (y_assign (v := .int _ _) rfl rfl) rfl ?_
            refine w_nil ?_
            refine q_then (hK93 _ _ ?_)
            refine w_seq (fun K96 hK95 => ?_)
            rw [sh_mul (by omega)]
            refine w_region ?_
            refine w_p (y_move (v := .int _ _) rfl rfl) rfl ?_
            refine w_p (y_eql rfl rfl rfl rfl) rfl ?_
            refine w_p (y_move (v := .bool _) rfl rfl) rfl ?_
            refine w_split (fun h97 => ?_) (fun h97 => ?_)
            ·
             try simp only [zA, zB, zC, zD, zE, zF] at h97
             refine w_skipop rfl rfl rfl ?_
             refine w_skipop rfl rfl rfl ?_
             refine w_skipop rfl rfl rfl ?_
             refine w_p (y_pickT (v := _) rfl rfl rfl rfl) rfl ?_
             refine w_nil ?_
             refine q_then (hK95 _ _ ?_)
             refine w_condT rfl rfl ?_
             refine w_region ?_
             refine w_p (y_move (v := v) rfl rfl) rfl ?_
             refine w_p (y_move (v := .int _ _) rfl rfl) rfl ?_
             refine w_p (y_move (v := .int _ _) rfl rfl) rfl ?_
             refine w_p (y_move (v := .int _ _) rfl rfl) rfl ?_
             refine w_p (y_eql rfl rfl rfl rfl) rfl ?_
             refine w_p (y_build (ps := [(0, _), (1, _), (2, _)]) (pv := [(0, .int _ _), (1, .int _ _), (2, .bool _)]) rfl rfl (fun w => Try_E_fb1 _ _ _ w)) rfl ?_
             refine w_bslice (ps := [(0, _)]) (pv := [(0, .agg #[.int _ _, .int _ _, .bool _])]) (cs := [_, _, _]) want_none rfl rfl (fun w => Try_E_fb2 _ _ _ w) hs (fun b98 w99 hs100 => ?_)
             refine w_append (X := (_ :: _ :: _ :: _ :: _ :: _ :: [])) (B := B) (rows := [[_, _, _]]) (sz := 3) (bytes := 24) want_none Try.underlying152 Try_info140 rfl rfl rfl rfl rfl rfl rfl rfl rfl hs100 hown2 (sl_own (i := 0) rfl (by simp) rfl) rfl (by simp) (by simp [Value.oneCell']) (by simp only [maxLen]; omega) (by omega) (fun v101 w102 B103 ho104 hs105 => ?_)
             replace hs105 := (show St _ _ (_ :: _ :: _ :: _ :: _ :: _ :: B103 ++ (F)) from hs105)
             refine w_p (y_assign (v := v101) rfl rfl) rfl ?_
             refine w_nil ?_
             refine q_blk_normal ?_
             refine q_then (hK89 _ _ ?_)
             refine w_region ?_
             refine w_p (y_move (v := .int _ _) rfl rfl) rfl ?_
             refine w_p (y_add rfl rfl rfl rfl (by omega) (by omega)) rfl ?_
             refine w_p (y_assign (v := .int _ _) rfl rfl) rfl ?_
             refine w_nil ?_
             refine q_then (hN81 _ _ (Nx.intro (((hourOf b a).hi + (ctrOf b c).twice + 1 - (max 0 ((hourOf b a).lo - (ctrOf b c).skip))).toNat - (q + 1)) (by omega) (by repeat (first | exact agree_mix | refine agree_upd rfl ?_ | refine agree_updL rfl ?_ _ | refine agree_mixin rfl ?_)) ?_))
             exact ⟨q + 1, _, _, vi (by omega), by omega, rfl, by rw [wPart_y (by rw [hgs]; omega), ← List.append_assoc]; exact own_way (by have h9 := ho104; rw [hzb] at h9; exact h9), hs105.tail⟩
            ·
             try simp only [zA, zB, zC, zD, zE, zF] at h97
             refine w_y rfl rfl rfl (y_move (v := .int _ _) rfl rfl) rfl ?_
             refine w_y rfl rfl rfl (y_move (v := .int _ _) rfl rfl) rfl ?_
             refine w_y rfl rfl rfl (y_eql rfl rfl rfl rfl) rfl ?_
             refine w_p (y_pickF (v := .bool _) rfl rfl rfl rfl) rfl ?_
             refine w_nil ?_
             refine q_then (hK95 _ _ ?_)
             refine w_cond rfl rfl (fun h106 => ?_) (fun h106 => ?_)
             ·
              try simp only [zA, zB, zC, zD, zE, zF] at h106
              refine w_region ?_
              refine w_p (y_move (v := v) rfl rfl) rfl ?_
              refine w_p (y_move (v := .int _ _) rfl rfl) rfl ?_
              refine w_p (y_move (v := .int _ _) rfl rfl) rfl ?_
              refine w_p (y_move (v := .int _ _) rfl rfl) rfl ?_
              refine w_p (y_eql rfl rfl rfl rfl) rfl ?_
              refine w_p (y_build (ps := [(0, _), (1, _), (2, _)]) (pv := [(0, .int _ _), (1, .int _ _), (2, .bool _)]) rfl rfl (fun w => Try_E_fb1 _ _ _ w)) rfl ?_
              refine w_bslice (ps := [(0, _)]) (pv := [(0, .agg #[.int _ _, .int _ _, .bool _])]) (cs := [_, _, _]) want_none rfl rfl (fun w => Try_E_fb2 _ _ _ w) hs (fun b107 w108 hs109 => ?_)
              refine w_append (X := (_ :: _ :: _ :: _ :: _ :: _ :: [])) (B := B) (rows := [[_, _, _]]) (sz := 3) (bytes := 24) want_none Try.underlying152 Try_info140 rfl rfl rfl rfl rfl rfl rfl rfl rfl hs109 hown2 (sl_own (i := 0) rfl (by simp) rfl) rfl (by simp) (by simp [Value.oneCell']) (by simp only [maxLen]; omega) (by omega) (fun v110 w111 B112 ho113 hs114 => ?_)
              replace hs114 := (show St _ _ (_ :: _ :: _ :: _ :: _ :: _ :: B112 ++ (F)) from hs114)
              refine w_p (y_assign (v := v110) rfl rfl) rfl ?_
              refine w_nil ?_
              refine q_blk_normal ?_
              refine q_then (hK89 _ _ ?_)
              refine w_region ?_
              refine w_p (y_move (v := .int _ _) rfl rfl) rfl ?_
              refine w_p (y_add rfl rfl rfl rfl (by omega) (by omega)) rfl ?_
              refine w_p (y_assign (v := .int _ _) rfl rfl) rfl ?_
              refine w_nil ?_
              refine q_then (hN81 _ _ (Nx.intro (((hourOf b a).hi + (ctrOf b c).twice + 1 - (max 0 ((hourOf b a).lo - (ctrOf b c).skip))).toNat - (q + 1)) (by omega) (by repeat (first | exact agree_mix | refine agree_upd rfl ?_ | refine agree_updL rfl ?_ _ | refine agree_mixin rfl ?_)) ?_))
              exact ⟨q + 1, _, _, vi (by omega), by omega, rfl, by rw [wPart_y (by rw [hgs]; omega), ← List.append_assoc]; exact own_way (by have h9 := ho113; rw [hzb] at h9; exact h9), hs114.tail⟩
             ·
              try simp only [zA, zB, zC, zD, zE, zF] at h106
              refine w_skip ?_
              refine q_blk_normal ?_
              refine q_then (hK89 _ _ ?_)
              refine w_region ?_
              refine w_p (y_move (v := .int _ _) rfl rfl) rfl ?_
              refine w_p (y_add rfl rfl rfl rfl (by omega) (by omega)) rfl ?_
              refine w_p (y_assign (v := .int _ _) rfl rfl) rfl ?_
              refine w_nil ?_
              refine q_then (hN81 _ _ (Nx.intro (((hourOf b a).hi + (ctrOf b c).twice + 1 - (max 0 ((hourOf b a).lo - (ctrOf b c).skip))).toNat - (q + 1)) (by omega) (by repeat (first | exact agree_mix | refine agree_upd rfl ?_ | refine agree_updL rfl ?_ _ | refine agree_mixin rfl ?_)) ?_))
              exact ⟨q + 1, v, B, vi (by omega), by omega, rfl, by rw [wPart_n (by rw [hgs]; omega)]; exact hown2, hs⟩
           ·
            try simp only [zA, zB, zC, zD, zE, zF] at h88
            refine w_exit ?_
            refine q_then_exit ?_
            refine q_then_exit ?_
            refine q_blk_this ?_
            refine q_blk_normal ?_
            refine q_then (hK56 _ _ ?_)
            refine w_region ?_
            refine w_p (y_add rfl rfl rfl rfl (by omega) (by omega)) rfl ?_
            refine w_p (y_move (v := .int _ _) rfl rfl) rfl ?_
            refine w_nil ?_
            refine q_then (hN48 _ _ (Nx.intro (2 - (z + 1)) (by omega) (by repeat (first | exact agree_mix | refine agree_upd rfl ?_ | refine agree_updL rfl ?_ _ | refine agree_mixin rfl ?_)) ?_))
            first
              | exact ⟨z + 1, v, B, rfl, by omega, rfl, by rw [wTo_no (canZ_n (by omega) (by omega))]; exact hown, hs⟩
              | exact ⟨z + 1, v, B, rfl, by omega, rfl, by rw [wPart_all (canZ_y (by omega) (by omega)) (q := q) (by omega)]; exact hown2, hs.tail⟩
        ·
         try simp only [zA, zB, zC, zD, zE, zF] at h66
         refine w_skipop rfl rfl rfl ?_
         refine w_skipop rfl rfl rfl ?_
         refine w_skipop rfl rfl rfl ?_
         refine w_skipop rfl rfl rfl ?_
         refine w_skipop rfl rfl rfl ?_
         refine w_skipop rfl rfl rfl ?_
         refine w_skipop rfl rfl rfl ?_
         refine w_y rfl rfl rfl (y_pickF (v := _) rfl rfl rfl rfl) rfl ?_
         refine w_p (y_pickF (v := .bool _) rfl rfl rfl rfl) rfl ?_
         refine w_nil ?_
         refine q_then (hK62 _ _ ?_)
         refine w_condF rfl rfl ?_
         refine w_skip ?_
         refine q_then (hK60 _ _ ?_)
         refine w_seq (fun K116 hK115 => ?_)
         refine w_region ?_
         refine w_p (y_loadN (vs := [_, _, _]) Try.isAgg154 Try.sizeOf154 hs rfl rfl (ats_own (i := 2) (vs := [_, _, _]) rfl rfl)) rfl ?_
         refine w_alloc (cs := [_, _, _]) want_none Try.zeroValue154 rfl hs (fun b117 w118 hs119 => ?_)
         refine w_store (i := 0) (v := .agg #[.int _ _, .int _ _, .int _ _]) (vs := [_, _, _]) want_none Try.sizeOf154 rfl rfl rfl rfl rfl (by simp [Value.oneCell']) hs119 rfl (Nat.le_of_ble_eq_true rfl) (fun w120 hs121 => ?_)
         refine w_nil ?_
         refine q_then (hK115 _ _ ?_)
         refine w_seq (fun K123 hK122 => ?_)
         have hmi := mul_in (s := s) (show z < 2 by omega) hs1
         refine w_region ?_
         refine w_p (y_fieldAddr (o := 2) (i := 2) Try.underlying154 rfl Try.sizeOf3 rfl rfl rfl) rfl ?_
         refine w_p (y_load1 Try.isAgg3 hs121 rfl rfl (ats_own (i := 0) (vs := [_]) rfl rfl)) rfl ?_
         refine w_p (y_move (v := .int _ _) rfl rfl) rfl ?_
         refine w_p (y_sub rfl rfl rfl rfl (by omega) (by omega)) rfl ?_
         refine w_p (y_mul rfl rfl rfl rfl (by omega) (by omega)) rfl ?_
         refine w_p (y_fieldAddr (o := 2) (i := 2) Try.underlying154 rfl Try.sizeOf3 rfl rfl rfl) rfl ?_
         refine w_store (i := 0) (v := .int _ _) (vs := [_]) want_none Try.sizeOf3 rfl rfl rfl rfl rfl (by simp [Value.oneCell']) hs121 rfl (Nat.le_of_ble_eq_true rfl) (fun w124 hs125 => ?_)
         refine w_nil ?_
         refine q_then (hK122 _ _ ?_)
         refine w_seq (fun K127 hK126 => ?_)
         refine w_region ?_
         refine w_p (y_fieldAddr (o := 0) (i := 0) Try.underlying31 rfl Try.sizeOf3 rfl rfl rfl) rfl ?_
         refine w_p (y_load1 Try.isAgg3 hs125 rfl rfl (ats_own (i := 1) (vs := [_]) rfl rfl)) rfl ?_
         refine w_p (y_fieldAddr (o := 1) (i := 1) Try.underlying76 rfl Try.sizeOf3 rfl rfl rfl) rfl ?_
         refine w_p (y_load1 Try.isAgg3 hs125 rfl rfl (ats_own (i := 2) (vs := [_]) rfl rfl)) rfl ?_
         refine w_p (y_sub rfl rfl rfl rfl (by omega) (by omega)) rfl ?_
         refine w_p (y_max2 rfl rfl rfl rfl) rfl ?_
         refine w_p (y_assign (v := .int _ _) rfl rfl) rfl ?_
         refine w_nil ?_
         refine q_then (hK126 _ _ ?_)
         refine w_block ?_
         refine w_loop [7, 12, 13, 14, 85, 86, 87, 88, 89, 90, 91, 92, 93, 94, 95, 96, 97, 98, 99, 100, 101, 102, 103, 104, 105, 106, 107, 108, 109, 110, 111, 112, 113, 114, 115, 116, 117, 118, 119] [7, 12] (fun kk vs w => ∃ (q : Nat) (v : Value) (B : List (Nat × Obj)), vs = [v, .int .i64 ((max 0 ((hourOf b a).lo - (ctrOf b c).skip)) + q)] ∧ q ≤ ((hourOf b a).hi + (ctrOf b c).twice + 1 - (max 0 ((hourOf b a).lo - (ctrOf b c).skip))).toNat ∧ kk = ((hourOf b a).hi + (ctrOf b c).twice + 1 - (max 0 ((hourOf b a).lo - (ctrOf b c).skip))).toNat - q ∧ Rt.Own v 140 3 ((wTo (ctrOf b c) (hourOf b a) a s z) ++ wPart (ctrOf b c) a s (decide (z = 1)) (max 0 ((hourOf b a).lo - (ctrOf b c).skip)) q).length (wrows ((wTo (ctrOf b c) (hourOf b a) a s z) ++ wPart (ctrOf b c) a s (decide (z = 1)) (max 0 ((hourOf b a).lo - (ctrOf b c).skip)) q)).flatten B ∧ St w0 w ((b117, blk 154 [.int .i64 (c : Int), .int .i64 (a : Int), .int .i64 (s * (1 - (z : Int)))]) :: (b9, blk 31 [.int .i64 (hourOf b a).lo, .int .i64 (hourOf b a).hi]) :: (b8, blk 76 ((ctrOf b c).cells (p.pc c))) :: (b3, blk 154 [.int .i64 (c : Int), .int .i64 (a : Int), .int .i64 s]) :: (mm, .map (ents (fun l : List Int => ia l) es).toArray ck) :: (B ++ F))) (((hourOf b a).hi + (ctrOf b c).twice + 1 - (max 0 ((hourOf b a).lo - (ctrOf b c).skip))).toNat) ?_ ?_
         ·
          exact ⟨0, v, B, vi (by omega), by omega, by omega, by rw [show wPart (ctrOf b c) a s (decide (z = 1)) (max 0 ((hourOf b a).lo - (ctrOf b c).skip)) 0 = [] from rfl, List.append_nil]; exact hown, hs125⟩
         ·
          intro k vs μ w130 hI K129 hN128
          obtain ⟨q, v, B, rfl, hqa, rfl, hown2, hs⟩ := hI
          have hpl := wPart_len (ctrOf b c) a s (max 0 ((hourOf b a).lo - (ctrOf b c).skip)) (decide (z = 1)) q
          have hpa : ((wTo (ctrOf b c) (hourOf b a) a s z) ++ wPart (ctrOf b c) a s (decide (z = 1)) (max 0 ((hourOf b a).lo - (ctrOf b c).skip)) q).length = (wTo (ctrOf b c) (hourOf b a) a s z).length + (wPart (ctrOf b c) a s (decide (z = 1)) (max 0 ((hourOf b a).lo - (ctrOf b c).skip)) q).length := List.length_append
          refine w_seq (fun K132 hK131 => ?_)
          refine w_seq (fun K134 hK133 => ?_)
          refine w_region ?_
          refine w_p (y_move (v := .int _ _) rfl rfl) rfl ?_
          refine w_p (y_fieldAddr (o := 1) (i := 1) Try.underlying31 rfl Try.sizeOf3 rfl rfl rfl) rfl ?_
          refine w_p (y_load1 Try.isAgg3 hs rfl rfl (ats_own (i := 1) (vs := [_]) rfl rfl)) rfl ?_
          refine w_p (y_fieldAddr (o := 2) (i := 2) Try.underlying76 rfl Try.sizeOf3 rfl rfl rfl) rfl ?_
          refine w_p (y_load1 Try.isAgg3 hs rfl rfl (ats_own (i := 2) (vs := [_]) rfl rfl)) rfl ?_
          refine w_p (y_add rfl rfl rfl rfl (by omega) (by omega)) rfl ?_
          refine w_p (y_leq rfl rfl rfl rfl) rfl ?_
          refine w_nil ?_
          refine q_then (hK133 _ _ ?_)
          refine w_cond rfl rfl (fun h135 => ?_) (fun h135 => ?_)
          ·
           try simp only [zA, zB, zC, zD, zE, zF] at h135
           refine w_skip ?_
           refine q_then (hK131 _ _ ?_)
           refine w_seq (fun K137 hK136 => ?_)
           refine w_block ?_
           refine w_seq (fun K139 hK138 => ?_)
           refine w_region ?_
           refine w_p (y_fieldAddr (o := 2) (i := 2) Try.underlying154 rfl Try.sizeOf3 rfl rfl rfl) rfl ?_
           refine w_p (y_load1 Try.isAgg3 hs rfl rfl (ats_own (i := 0) (vs := [_]) rfl rfl)) rfl ?_
           refine w_p (y_move (v := .int _ _) rfl rfl) rfl ?_
           refine w_p (y_add rfl rfl rfl rfl (by omega) (by omega)) rfl ?_
           refine w_p (y_rem rfl rfl rfl rfl (by omega) (by omega)) rfl ?_
           refine w_p (y_assign (v := .int _ _) rfl rfl) rfl ?_
           refine w_nil ?_
           refine q_then (hK138 _ _ ?_)
           refine w_seq (fun K141 hK140 => ?_)
           refine w_region ?_
           refine w_p (y_fieldAddr (o := 5) (i := 5) Try.underlying76 rfl Try.sizeOf39 rfl rfl rfl) rfl ?_
           refine w_p (yd_slice hbv (y_load1 Try.isAgg39 hs rfl rfl (ats_own (i := 2) (vs := [_]) rfl rfl))) rfl ?_
           refine w_p (y_fieldAddr (o := 1) (i := 1) Try.underlying154 rfl Try.sizeOf3 rfl rfl rfl) rfl ?_
           refine w_p (y_load1 Try.isAgg3 hs rfl rfl (ats_own (i := 3) (vs := [_]) rfl rfl)) rfl ?_
           refine w_p (y_indexS Try.underlying39 Try.sizeOf3 rfl rfl rfl rfl (i := a) rfl has) rfl ?_
           refine w_p (y_load1 Try.isAgg3 hs.tail.tail.tail.tail.tail.drop rfl rfl hxv) rfl ?_
           refine w_p (y_assign (v := .int _ _) rfl rfl) rfl ?_
           refine w_nil ?_
           refine q_then (hK140 _ _ ?_)
           refine w_seq (fun K143 hK142 => ?_)
           rw [sh_mul (by omega)]
           refine w_region ?_
           refine w_p (y_move (v := .int _ _) rfl rfl) rfl ?_
           refine w_p (y_eql rfl rfl rfl rfl) rfl ?_
           refine w_p (y_move (v := .bool _) rfl rfl) rfl ?_
           refine w_split (fun h144 => ?_) (fun h144 => ?_)
           ·
            try simp only [zA, zB, zC, zD, zE, zF] at h144
            refine w_skipop rfl rfl rfl ?_
            refine w_skipop rfl rfl rfl ?_
            refine w_skipop rfl rfl rfl ?_
            refine w_p (y_pickT (v := _) rfl rfl rfl rfl) rfl ?_
            refine w_nil ?_
            refine q_then (hK142 _ _ ?_)
            refine w_condT rfl rfl ?_
            refine w_region ?_
            refine w_p (y_move (v := v) rfl rfl) rfl ?_
            refine w_p (y_move (v := .int _ _) rfl rfl) rfl ?_
            refine w_p (y_move (v := .int _ _) rfl rfl) rfl ?_
            refine w_p (y_move (v := .int _ _) rfl rfl) rfl ?_
            refine w_p (y_eql rfl rfl rfl rfl) rfl ?_
            refine w_p (y_build (ps := [(0, _), (1, _), (2, _)]) (pv := [(0, .int _ _), (1, .int _ _), (2, .bool _)]) rfl rfl (fun w => Try_E_fb1 _ _ _ w)) rfl ?_
            refine w_bslice (ps := [(0, _)]) (pv := [(0, .agg #[.int _ _, .int _ _, .bool _])]) (cs := [_, _, _]) want_none rfl rfl (fun w => Try_E_fb2 _ _ _ w) hs (fun b145 w146 hs147 => ?_)
            refine w_append (X := (_ :: _ :: _ :: _ :: _ :: _ :: [])) (B := B) (rows := [[_, _, _]]) (sz := 3) (bytes := 24) want_none Try.underlying152 Try_info140 rfl rfl rfl rfl rfl rfl rfl rfl rfl hs147 hown2 (sl_own (i := 0) rfl (by simp) rfl) rfl (by simp) (by simp [Value.oneCell']) (by simp only [maxLen]; omega) (by omega) (fun v148 w149 B150 ho151 hs152 => ?_)
            replace hs152 := (show St _ _ (_ :: _ :: _ :: _ :: _ :: _ :: B150 ++ (F)) from hs152)
            refine w_p (y_assign (v := v148) rfl rfl) rfl ?_
            refine w_nil ?_
            refine q_blk_normal ?_
            refine q_then (hK136 _ _ ?_)
            refine w_region ?_
            refine w_p (y_move (v := .int _ _) rfl rfl) rfl ?_
            refine w_p (y_add rfl rfl rfl rfl (by omega) (by omega)) rfl ?_
            refine w_p (y_assign (v := .int _ _) rfl rfl) rfl ?_
            refine w_nil ?_
            refine q_then (hN128 _ _ (Nx.intro (((hourOf b a).hi + (ctrOf b c).twice + 1 - (max 0 ((hourOf b a).lo - (ctrOf b c).skip))).toNat - (q + 1)) (by omega) (by repeat (first | exact agree_mix | refine agree_upd rfl ?_ | refine agree_updL rfl ?_ _ | refine agree_mixin rfl ?_)) ?_))
            exact ⟨q + 1, _, _, vi (by omega), by omega, rfl, by rw [wPart_y (by rw [hgs]; omega), ← List.append_assoc]; exact own_way (by have h9 := ho151; rw [hzb] at h9; exact h9), hs152.tail⟩
           ·
            try simp only [zA, zB, zC, zD, zE, zF] at h144
            refine w_y rfl rfl rfl (y_move (v := .int _ _) rfl rfl) rfl ?_
            refine w_y rfl rfl rfl (y_move (v := .int _ _) rfl rfl) rfl ?_
            refine w_y rfl rfl rfl (y_eql rfl rfl rfl rfl) rfl ?_
            refine w_p (y_pickF (v := .bool _) rfl rfl rfl rfl) rfl ?_
            refine w_nil ?_
            refine q_then (hK142 _ _ ?_)
            refine w_cond rfl rfl (fun h153 => ?_) (fun h153 => ?_)
            ·
             try simp only [zA, zB, zC, zD, zE, zF] at h153
             refine w_region ?_
             refine w_p (y_move (v := v) rfl rfl) rfl ?_
             refine w_p (y_move (v := .int _ _) rfl rfl) rfl ?_
             refine w_p (y_move (v := .int _ _) rfl rfl) rfl ?_
             refine w_p (y_move (v := .int _ _) rfl rfl) rfl ?_
             refine w_p (y_eql rfl rfl rfl rfl) rfl ?_
             refine w_p (y_build (ps := [(0, _), (1, _), (2, _)]) (pv := [(0, .int _ _), (1, .int _ _), (2, .bool _)]) rfl rfl (fun w => Try_E_fb1 _ _ _ w)) rfl ?_
             refine w_bslice (ps := [(0, _)]) (pv := [(0, .agg #[.int _ _, .int _ _, .bool _])]) (cs := [_, _, _]) want_none rfl rfl (fun w => Try_E_fb2 _ _ _ w) hs (fun b154 w155 hs156 => ?_)
             refine w_append (X := (_ :: _ :: _ :: _ :: _ :: _ :: [])) (B := B) (rows := [[_, _, _]]) (sz := 3) (bytes := 24) want_none Try.underlying152 Try_info140 rfl rfl rfl rfl rfl rfl rfl rfl rfl hs156 hown2 (sl_own (i := 0) rfl (by simp) rfl) rfl (by simp) (by simp [Value.oneCell']) (by simp only [maxLen]; omega) (by omega) (fun v157 w158 B159 ho160 hs161 => ?_)
             replace hs161 := (show St _ _ (_ :: _ :: _ :: _ :: _ :: _ :: B159 ++ (F)) from hs161)
             refine w_p (y_assign (v := v157) rfl rfl) rfl ?_
             refine w_nil ?_
             refine q_blk_normal ?_
             refine q_then (hK136 _ _ ?_)
             refine w_region ?_
             refine w_p (y_move (v := .int _ _) rfl rfl) rfl ?_
             refine w_p (y_add rfl rfl rfl rfl (by omega) (by omega)) rfl ?_
             refine w_p (y_assign (v := .int _ _) rfl rfl) rfl ?_
             refine w_nil ?_
             refine q_then (hN128 _ _ (Nx.intro (((hourOf b a).hi + (ctrOf b c).twice + 1 - (max 0 ((hourOf b a).lo - (ctrOf b c).skip))).toNat - (q + 1)) (by omega) (by repeat (first | exact agree_mix | refine agree_upd rfl ?_ | refine agree_updL rfl ?_ _ | refine agree_mixin rfl ?_)) ?_))
             exact ⟨q + 1, _, _, vi (by omega), by omega, rfl, by rw [wPart_y (by rw [hgs]; omega), ← List.append_assoc]; exact own_way (by have h9 := ho160; rw [hzb] at h9; exact h9), hs161.tail⟩
            ·
             try simp only [zA, zB, zC, zD, zE, zF] at h153
             refine w_skip ?_
             refine q_blk_normal ?_
             refine q_then (hK136 _ _ ?_)
             refine w_region ?_
             refine w_p (y_move (v := .int _ _) rfl rfl) rfl ?_
             refine w_p (y_add rfl rfl rfl rfl (by omega) (by omega)) rfl ?_
             refine w_p (y_assign (v := .int _ _) rfl rfl) rfl ?_
             refine w_nil ?_
             refine q_then (hN128 _ _ (Nx.intro (((hourOf b a).hi + (ctrOf b c).twice + 1 - (max 0 ((hourOf b a).lo - (ctrOf b c).skip))).toNat - (q + 1)) (by omega) (by repeat (first | exact agree_mix | refine agree_upd rfl ?_ | refine agree_updL rfl ?_ _ | refine agree_mixin rfl ?_)) ?_))
             exact ⟨q + 1, v, B, vi (by omega), by omega, rfl, by rw [wPart_n (by rw [hgs]; omega)]; exact hown2, hs⟩
          ·
           try simp only [zA, zB, zC, zD, zE, zF] at h135
           refine w_exit ?_
           refine q_then_exit ?_
           refine q_then_exit ?_
           refine q_blk_this ?_
           refine q_blk_normal ?_
           refine q_then (hK56 _ _ ?_)
           refine w_region ?_
           refine w_p (y_add rfl rfl rfl rfl (by omega) (by omega)) rfl ?_
           refine w_p (y_move (v := .int _ _) rfl rfl) rfl ?_
           refine w_nil ?_
           refine q_then (hN48 _ _ (Nx.intro (2 - (z + 1)) (by omega) (by repeat (first | exact agree_mix | refine agree_upd rfl ?_ | refine agree_updL rfl ?_ _ | refine agree_mixin rfl ?_)) ?_))
           first
             | exact ⟨z + 1, v, B, rfl, by omega, rfl, by rw [wTo_no (canZ_n (by omega) (by omega))]; exact hown, hs⟩
             | exact ⟨z + 1, v, B, rfl, by omega, rfl, by rw [wPart_all (canZ_y (by omega) (by omega)) (q := q) (by omega)]; exact hown2, hs.tail⟩
      ·
       try simp only [zA, zB, zC, zD, zE, zF] at h64
       refine w_skipop rfl rfl rfl ?_
       refine w_skipop rfl rfl rfl ?_
       refine w_skipop rfl rfl rfl ?_
       refine w_skipop rfl rfl rfl ?_
       refine w_skipop rfl rfl rfl ?_
       refine w_skipop rfl rfl rfl ?_
       refine w_skipop rfl rfl rfl ?_
       refine w_p (y_pickF (v := _) rfl rfl rfl rfl) rfl ?_
       refine w_p (y_move (v := .bool _) rfl rfl) rfl ?_
       refine w_y rfl rfl rfl (y_move (v := .int _ _) rfl rfl) rfl ?_
       refine w_y rfl rfl rfl (y_eql rfl rfl rfl rfl) rfl ?_
       refine w_y rfl rfl rfl (y_move (v := .bool _) rfl rfl) rfl ?_
       refine w_split (fun h162 => ?_) (fun h162 => ?_)
       ·
        try simp only [zA, zB, zC, zD, zE, zF] at h162
        refine w_y rfl rfl rfl (y_fieldAddr (o := 4) (i := 4) Try.underlying76 rfl Try.sizeOf39 rfl rfl rfl) rfl ?_
        refine w_y rfl rfl rfl (yd_slice hbz (y_load1 Try.isAgg39 hs rfl rfl (ats_own (i := 1) (vs := [_]) rfl rfl))) rfl ?_
        refine w_y rfl rfl rfl (y_fieldAddr (o := 1) (i := 1) Try.underlying154 rfl Try.sizeOf3 rfl rfl rfl) rfl ?_
        refine w_y rfl rfl rfl (y_load1 Try.isAgg3 hs rfl rfl (ats_own (i := 2) (vs := [_]) rfl rfl)) rfl ?_
        refine w_y rfl rfl rfl (y_indexS Try.underlying39 Try.sizeOf3 rfl rfl rfl rfl (i := a) rfl haz) rfl ?_
        refine w_y rfl rfl rfl (y_load1 Try.isAgg3 hs.tail.tail.tail.tail.drop rfl rfl hxz) rfl ?_
        refine w_y rfl rfl rfl (y_eql rfl rfl rfl rfl) rfl ?_
        refine w_y rfl rfl rfl (y_pickT (v := .bool _) rfl rfl rfl rfl) rfl ?_
        refine w_p (y_pickF (v := .bool _) rfl rfl rfl rfl) rfl ?_
        refine w_nil ?_
        refine q_then (hK62 _ _ ?_)
        refine w_cond rfl rfl (fun h163 => ?_) (fun h163 => ?_)
        ·
         try simp only [zA, zB, zC, zD, zE, zF] at h163
         refine w_exit ?_
         refine q_then_exit ?_
         refine q_blk_this ?_
         refine q_then (hK56 _ _ ?_)
         refine w_region ?_
         refine w_p (y_add rfl rfl rfl rfl (by omega) (by omega)) rfl ?_
         refine w_p (y_move (v := .int _ _) rfl rfl) rfl ?_
         refine w_nil ?_
         refine q_then (hN48 _ _ (Nx.intro (2 - (z + 1)) (by omega) (by repeat (first | exact agree_mix | refine agree_upd rfl ?_ | refine agree_updL rfl ?_ _ | refine agree_mixin rfl ?_)) ?_))
         first
           | exact ⟨z + 1, v, B, rfl, by omega, rfl, by rw [wTo_no (canZ_n (by omega) (by omega))]; exact hown, hs⟩
           | exact ⟨z + 1, v, B, rfl, by omega, rfl, by rw [wPart_all (canZ_y (by omega) (by omega)) (q := q) (by omega)]; exact hown2, hs.tail⟩
        ·
         try simp only [zA, zB, zC, zD, zE, zF] at h163
         refine w_skip ?_
         refine q_then (hK60 _ _ ?_)
         refine w_seq (fun K165 hK164 => ?_)
         refine w_region ?_
         refine w_p (y_loadN (vs := [_, _, _]) Try.isAgg154 Try.sizeOf154 hs rfl rfl (ats_own (i := 2) (vs := [_, _, _]) rfl rfl)) rfl ?_
         refine w_alloc (cs := [_, _, _]) want_none Try.zeroValue154 rfl hs (fun b166 w167 hs168 => ?_)
         refine w_store (i := 0) (v := .agg #[.int _ _, .int _ _, .int _ _]) (vs := [_, _, _]) want_none Try.sizeOf154 rfl rfl rfl rfl rfl (by simp [Value.oneCell']) hs168 rfl (Nat.le_of_ble_eq_true rfl) (fun w169 hs170 => ?_)
         refine w_nil ?_
         refine q_then (hK164 _ _ ?_)
         refine w_seq (fun K172 hK171 => ?_)
         have hmi := mul_in (s := s) (show z < 2 by omega) hs1
         refine w_region ?_
         refine w_p (y_fieldAddr (o := 2) (i := 2) Try.underlying154 rfl Try.sizeOf3 rfl rfl rfl) rfl ?_
         refine w_p (y_load1 Try.isAgg3 hs170 rfl rfl (ats_own (i := 0) (vs := [_]) rfl rfl)) rfl ?_
         refine w_p (y_move (v := .int _ _) rfl rfl) rfl ?_
         refine w_p (y_sub rfl rfl rfl rfl (by omega) (by omega)) rfl ?_
         refine w_p (y_mul rfl rfl rfl rfl (by omega) (by omega)) rfl ?_
         refine w_p (y_fieldAddr (o := 2) (i := 2) Try.underlying154 rfl Try.sizeOf3 rfl rfl rfl) rfl ?_
         refine w_store (i := 0) (v := .int _ _) (vs := [_]) want_none Try.sizeOf3 rfl rfl rfl rfl rfl (by simp [Value.oneCell']) hs170 rfl (Nat.le_of_ble_eq_true rfl) (fun w173 hs174 => ?_)
         refine w_nil ?_
         refine q_then (hK171 _ _ ?_)
         refine w_seq (fun K176 hK175 => ?_)
         refine w_region ?_
         refine w_p (y_fieldAddr (o := 0) (i := 0) Try.underlying31 rfl Try.sizeOf3 rfl rfl rfl) rfl ?_
         refine w_p (y_load1 Try.isAgg3 hs174 rfl rfl (ats_own (i := 1) (vs := [_]) rfl rfl)) rfl ?_
         refine w_p (y_fieldAddr (o := 1) (i := 1) Try.underlying76 rfl Try.sizeOf3 rfl rfl rfl) rfl ?_
         refine w_p (y_load1 Try.isAgg3 hs174 rfl rfl (ats_own (i := 2) (vs := [_]) rfl rfl)) rfl ?_
         refine w_p (y_sub rfl rfl rfl rfl (by omega) (by omega)) rfl ?_
         refine w_p (y_max2 rfl rfl rfl rfl) rfl ?_
         refine w_p (y_assign (v := .int _ _) rfl rfl) rfl ?_
         refine w_nil ?_
         refine q_then (hK175 _ _ ?_)
         refine w_block ?_
         refine w_loop [7, 12, 13, 14, 85, 86, 87, 88, 89, 90, 91, 92, 93, 94, 95, 96, 97, 98, 99, 100, 101, 102, 103, 104, 105, 106, 107, 108, 109, 110, 111, 112, 113, 114, 115, 116, 117, 118, 119] [7, 12] (fun kk vs w => ∃ (q : Nat) (v : Value) (B : List (Nat × Obj)), vs = [v, .int .i64 ((max 0 ((hourOf b a).lo - (ctrOf b c).skip)) + q)] ∧ q ≤ ((hourOf b a).hi + (ctrOf b c).twice + 1 - (max 0 ((hourOf b a).lo - (ctrOf b c).skip))).toNat ∧ kk = ((hourOf b a).hi + (ctrOf b c).twice + 1 - (max 0 ((hourOf b a).lo - (ctrOf b c).skip))).toNat - q ∧ Rt.Own v 140 3 ((wTo (ctrOf b c) (hourOf b a) a s z) ++ wPart (ctrOf b c) a s (decide (z = 1)) (max 0 ((hourOf b a).lo - (ctrOf b c).skip)) q).length (wrows ((wTo (ctrOf b c) (hourOf b a) a s z) ++ wPart (ctrOf b c) a s (decide (z = 1)) (max 0 ((hourOf b a).lo - (ctrOf b c).skip)) q)).flatten B ∧ St w0 w ((b166, blk 154 [.int .i64 (c : Int), .int .i64 (a : Int), .int .i64 (s * (1 - (z : Int)))]) :: (b9, blk 31 [.int .i64 (hourOf b a).lo, .int .i64 (hourOf b a).hi]) :: (b8, blk 76 ((ctrOf b c).cells (p.pc c))) :: (b3, blk 154 [.int .i64 (c : Int), .int .i64 (a : Int), .int .i64 s]) :: (mm, .map (ents (fun l : List Int => ia l) es).toArray ck) :: (B ++ F))) (((hourOf b a).hi + (ctrOf b c).twice + 1 - (max 0 ((hourOf b a).lo - (ctrOf b c).skip))).toNat) ?_ ?_
         ·
          exact ⟨0, v, B, vi (by omega), by omega, by omega, by rw [show wPart (ctrOf b c) a s (decide (z = 1)) (max 0 ((hourOf b a).lo - (ctrOf b c).skip)) 0 = [] from rfl, List.append_nil]; exact hown, hs174⟩
         ·
          intro k vs μ w179 hI K178 hN177
          obtain ⟨q, v, B, rfl, hqa, rfl, hown2, hs⟩ := hI
          have hpl := wPart_len (ctrOf b c) a s (max 0 ((hourOf b a).lo - (ctrOf b c).skip)) (decide (z = 1)) q
          have hpa : ((wTo (ctrOf b c) (hourOf b a) a s z) ++ wPart (ctrOf b c) a s (decide (z = 1)) (max 0 ((hourOf b a).lo - (ctrOf b c).skip)) q).length = (wTo (ctrOf b c) (hourOf b a) a s z).length + (wPart (ctrOf b c) a s (decide (z = 1)) (max 0 ((hourOf b a).lo - (ctrOf b c).skip)) q).length := List.length_append
          refine w_seq (fun K181 hK180 => ?_)
          refine w_seq (fun K183 hK182 => ?_)
          refine w_region ?_
          refine w_p (y_move (v := .int _ _) rfl rfl) rfl ?_
          refine w_p (y_fieldAddr (o := 1) (i := 1) Try.underlying31 rfl Try.sizeOf3 rfl rfl rfl) rfl ?_
          refine w_p (y_load1 Try.isAgg3 hs rfl rfl (ats_own (i := 1) (vs := [_]) rfl rfl)) rfl ?_
          refine w_p (y_fieldAddr (o := 2) (i := 2) Try.underlying76 rfl Try.sizeOf3 rfl rfl rfl) rfl ?_
          refine w_p (y_load1 Try.isAgg3 hs rfl rfl (ats_own (i := 2) (vs := [_]) rfl rfl)) rfl ?_
          refine w_p (y_add rfl rfl rfl rfl (by omega) (by omega)) rfl ?_
          refine w_p (y_leq rfl rfl rfl rfl) rfl ?_
          refine w_nil ?_
          refine q_then (hK182 _ _ ?_)
          refine w_cond rfl rfl (fun h184 => ?_) (fun h184 => ?_)
          ·
           try simp only [zA, zB, zC, zD, zE, zF] at h184
           refine w_skip ?_
           refine q_then (hK180 _ _ ?_)
           refine w_seq (fun K186 hK185 => ?_)
           refine w_block ?_
           refine w_seq (fun K188 hK187 => ?_)
           refine w_region ?_
           refine w_p (y_fieldAddr (o := 2) (i := 2) Try.underlying154 rfl Try.sizeOf3 rfl rfl rfl) rfl ?_
           refine w_p (y_load1 Try.isAgg3 hs rfl rfl (ats_own (i := 0) (vs := [_]) rfl rfl)) rfl ?_
           refine w_p (y_move (v := .int _ _) rfl rfl) rfl ?_
           refine w_p (y_add rfl rfl rfl rfl (by omega) (by omega)) rfl ?_
           refine w_p (y_rem rfl rfl rfl rfl (by omega) (by omega)) rfl ?_
           refine w_p (y_assign (v := .int _ _) rfl rfl) rfl ?_
           refine w_nil ?_
           refine q_then (hK187 _ _ ?_)
           refine w_seq (fun K190 hK189 => ?_)
           refine w_region ?_
           refine w_p (y_fieldAddr (o := 5) (i := 5) Try.underlying76 rfl Try.sizeOf39 rfl rfl rfl) rfl ?_
           refine w_p (yd_slice hbv (y_load1 Try.isAgg39 hs rfl rfl (ats_own (i := 2) (vs := [_]) rfl rfl))) rfl ?_
           refine w_p (y_fieldAddr (o := 1) (i := 1) Try.underlying154 rfl Try.sizeOf3 rfl rfl rfl) rfl ?_
           refine w_p (y_load1 Try.isAgg3 hs rfl rfl (ats_own (i := 3) (vs := [_]) rfl rfl)) rfl ?_
           refine w_p (y_indexS Try.underlying39 Try.sizeOf3 rfl rfl rfl rfl (i := a) rfl has) rfl ?_
           refine w_p (y_load1 Try.isAgg3 hs.tail.tail.tail.tail.tail.drop rfl rfl hxv) rfl ?_
           refine w_p (y_assign (v := .int _ _) rfl rfl) rfl ?_
           refine w_nil ?_
           refine q_then (hK189 _ _ ?_)
           refine w_seq (fun K192 hK191 => ?_)
           rw [sh_mul (by omega)]
           refine w_region ?_
           refine w_p (y_move (v := .int _ _) rfl rfl) rfl ?_
           refine w_p (y_eql rfl rfl rfl rfl) rfl ?_
           refine w_p (y_move (v := .bool _) rfl rfl) rfl ?_
           refine w_split (fun h193 => ?_) (fun h193 => ?_)
           ·
            try simp only [zA, zB, zC, zD, zE, zF] at h193
            refine w_skipop rfl rfl rfl ?_
            refine w_skipop rfl rfl rfl ?_
            refine w_skipop rfl rfl rfl ?_
            refine w_p (y_pickT (v := _) rfl rfl rfl rfl) rfl ?_
            refine w_nil ?_
            refine q_then (hK191 _ _ ?_)
            refine w_condT rfl rfl ?_
            refine w_region ?_
            refine w_p (y_move (v := v) rfl rfl) rfl ?_
            refine w_p (y_move (v := .int _ _) rfl rfl) rfl ?_
            refine w_p (y_move (v := .int _ _) rfl rfl) rfl ?_
            refine w_p (y_move (v := .int _ _) rfl rfl) rfl ?_
            refine w_p (y_eql rfl rfl rfl rfl) rfl ?_
            refine w_p (y_build (ps := [(0, _), (1, _), (2, _)]) (pv := [(0, .int _ _), (1, .int _ _), (2, .bool _)]) rfl rfl (fun w => Try_E_fb1 _ _ _ w)) rfl ?_
            refine w_bslice (ps := [(0, _)]) (pv := [(0, .agg #[.int _ _, .int _ _, .bool _])]) (cs := [_, _, _]) want_none rfl rfl (fun w => Try_E_fb2 _ _ _ w) hs (fun b194 w195 hs196 => ?_)
            refine w_append (X := (_ :: _ :: _ :: _ :: _ :: _ :: [])) (B := B) (rows := [[_, _, _]]) (sz := 3) (bytes := 24) want_none Try.underlying152 Try_info140 rfl rfl rfl rfl rfl rfl rfl rfl rfl hs196 hown2 (sl_own (i := 0) rfl (by simp) rfl) rfl (by simp) (by simp [Value.oneCell']) (by simp only [maxLen]; omega) (by omega) (fun v197 w198 B199 ho200 hs201 => ?_)
            replace hs201 := (show St _ _ (_ :: _ :: _ :: _ :: _ :: _ :: B199 ++ (F)) from hs201)
            refine w_p (y_assign (v := v197) rfl rfl) rfl ?_
            refine w_nil ?_
            refine q_blk_normal ?_
            refine q_then (hK185 _ _ ?_)
            refine w_region ?_
            refine w_p (y_move (v := .int _ _) rfl rfl) rfl ?_
            refine w_p (y_add rfl rfl rfl rfl (by omega) (by omega)) rfl ?_
            refine w_p (y_assign (v := .int _ _) rfl rfl) rfl ?_
            refine w_nil ?_
            refine q_then (hN177 _ _ (Nx.intro (((hourOf b a).hi + (ctrOf b c).twice + 1 - (max 0 ((hourOf b a).lo - (ctrOf b c).skip))).toNat - (q + 1)) (by omega) (by repeat (first | exact agree_mix | refine agree_upd rfl ?_ | refine agree_updL rfl ?_ _ | refine agree_mixin rfl ?_)) ?_))
            exact ⟨q + 1, _, _, vi (by omega), by omega, rfl, by rw [wPart_y (by rw [hgs]; omega), ← List.append_assoc]; exact own_way (by have h9 := ho200; rw [hzb] at h9; exact h9), hs201.tail⟩
           ·
            try simp only [zA, zB, zC, zD, zE, zF] at h193
            refine w_y rfl rfl rfl (y_move (v := .int _ _) rfl rfl) rfl ?_
            refine w_y rfl rfl rfl (y_move (v := .int _ _) rfl rfl) rfl ?_
            refine w_y rfl rfl rfl (y_eql rfl rfl rfl rfl) rfl ?_
            refine w_p (y_pickF (v := .bool _) rfl rfl rfl rfl) rfl ?_
            refine w_nil ?_
            refine q_then (hK191 _ _ ?_)
            refine w_cond rfl rfl (fun h202 => ?_) (fun h202 => ?_)
            ·
             try simp only [zA, zB, zC, zD, zE, zF] at h202
             refine w_region ?_
             refine w_p (y_move (v := v) rfl rfl) rfl ?_
             refine w_p (y_move (v := .int _ _) rfl rfl) rfl ?_
             refine w_p (y_move (v := .int _ _) rfl rfl) rfl ?_
             refine w_p (y_move (v := .int _ _) rfl rfl) rfl ?_
             refine w_p (y_eql rfl rfl rfl rfl) rfl ?_
             refine w_p (y_build (ps := [(0, _), (1, _), (2, _)]) (pv := [(0, .int _ _), (1, .int _ _), (2, .bool _)]) rfl rfl (fun w => Try_E_fb1 _ _ _ w)) rfl ?_
             refine w_bslice (ps := [(0, _)]) (pv := [(0, .agg #[.int _ _, .int _ _, .bool _])]) (cs := [_, _, _]) want_none rfl rfl (fun w => Try_E_fb2 _ _ _ w) hs (fun b203 w204 hs205 => ?_)
             refine w_append (X := (_ :: _ :: _ :: _ :: _ :: _ :: [])) (B := B) (rows := [[_, _, _]]) (sz := 3) (bytes := 24) want_none Try.underlying152 Try_info140 rfl rfl rfl rfl rfl rfl rfl rfl rfl hs205 hown2 (sl_own (i := 0) rfl (by simp) rfl) rfl (by simp) (by simp [Value.oneCell']) (by simp only [maxLen]; omega) (by omega) (fun v206 w207 B208 ho209 hs210 => ?_)
             replace hs210 := (show St _ _ (_ :: _ :: _ :: _ :: _ :: _ :: B208 ++ (F)) from hs210)
             refine w_p (y_assign (v := v206) rfl rfl) rfl ?_
             refine w_nil ?_
             refine q_blk_normal ?_
             refine q_then (hK185 _ _ ?_)
             refine w_region ?_
             refine w_p (y_move (v := .int _ _) rfl rfl) rfl ?_
             refine w_p (y_add rfl rfl rfl rfl (by omega) (by omega)) rfl ?_
             refine w_p (y_assign (v := .int _ _) rfl rfl) rfl ?_
             refine w_nil ?_
             refine q_then (hN177 _ _ (Nx.intro (((hourOf b a).hi + (ctrOf b c).twice + 1 - (max 0 ((hourOf b a).lo - (ctrOf b c).skip))).toNat - (q + 1)) (by omega) (by repeat (first | exact agree_mix | refine agree_upd rfl ?_ | refine agree_updL rfl ?_ _ | refine agree_mixin rfl ?_)) ?_))
             exact ⟨q + 1, _, _, vi (by omega), by omega, rfl, by rw [wPart_y (by rw [hgs]; omega), ← List.append_assoc]; exact own_way (by have h9 := ho209; rw [hzb] at h9; exact h9), hs210.tail⟩
            ·
             try simp only [zA, zB, zC, zD, zE, zF] at h202
             refine w_skip ?_
             refine q_blk_normal ?_
             refine q_then (hK185 _ _ ?_)
             refine w_region ?_
             refine w_p (y_move (v := .int _ _) rfl rfl) rfl ?_
             refine w_p (y_add rfl rfl rfl rfl (by omega) (by omega)) rfl ?_
             refine w_p (y_assign (v := .int _ _) rfl rfl) rfl ?_
             refine w_nil ?_
             refine q_then (hN177 _ _ (Nx.intro (((hourOf b a).hi + (ctrOf b c).twice + 1 - (max 0 ((hourOf b a).lo - (ctrOf b c).skip))).toNat - (q + 1)) (by omega) (by repeat (first | exact agree_mix | refine agree_upd rfl ?_ | refine agree_updL rfl ?_ _ | refine agree_mixin rfl ?_)) ?_))
             exact ⟨q + 1, v, B, vi (by omega), by omega, rfl, by rw [wPart_n (by rw [hgs]; omega)]; exact hown2, hs⟩
          ·
           try simp only [zA, zB, zC, zD, zE, zF] at h184
           refine w_exit ?_
           refine q_then_exit ?_
           refine q_then_exit ?_
           refine q_blk_this ?_
           refine q_blk_normal ?_
           refine q_then (hK56 _ _ ?_)
           refine w_region ?_
           refine w_p (y_add rfl rfl rfl rfl (by omega) (by omega)) rfl ?_
           refine w_p (y_move (v := .int _ _) rfl rfl) rfl ?_
           refine w_nil ?_
           refine q_then (hN48 _ _ (Nx.intro (2 - (z + 1)) (by omega) (by repeat (first | exact agree_mix | refine agree_upd rfl ?_ | refine agree_updL rfl ?_ _ | refine agree_mixin rfl ?_)) ?_))
           first
             | exact ⟨z + 1, v, B, rfl, by omega, rfl, by rw [wTo_no (canZ_n (by omega) (by omega))]; exact hown, hs⟩
             | exact ⟨z + 1, v, B, rfl, by omega, rfl, by rw [wPart_all (canZ_y (by omega) (by omega)) (q := q) (by omega)]; exact hown2, hs.tail⟩
       ·
        try simp only [zA, zB, zC, zD, zE, zF] at h162
        refine w_skipop rfl rfl rfl ?_
        refine w_skipop rfl rfl rfl ?_
        refine w_skipop rfl rfl rfl ?_
        refine w_skipop rfl rfl rfl ?_
        refine w_skipop rfl rfl rfl ?_
        refine w_skipop rfl rfl rfl ?_
        refine w_skipop rfl rfl rfl ?_
        refine w_y rfl rfl rfl (y_pickF (v := _) rfl rfl rfl rfl) rfl ?_
        refine w_p (y_pickF (v := .bool _) rfl rfl rfl rfl) rfl ?_
        refine w_nil ?_
        refine q_then (hK62 _ _ ?_)
        refine w_condF rfl rfl ?_
        refine w_skip ?_
        refine q_then (hK60 _ _ ?_)
        refine w_seq (fun K212 hK211 => ?_)
        refine w_region ?_
        refine w_p (y_loadN (vs := [_, _, _]) Try.isAgg154 Try.sizeOf154 hs rfl rfl (ats_own (i := 2) (vs := [_, _, _]) rfl rfl)) rfl ?_
        refine w_alloc (cs := [_, _, _]) want_none Try.zeroValue154 rfl hs (fun b213 w214 hs215 => ?_)
        refine w_store (i := 0) (v := .agg #[.int _ _, .int _ _, .int _ _]) (vs := [_, _, _]) want_none Try.sizeOf154 rfl rfl rfl rfl rfl (by simp [Value.oneCell']) hs215 rfl (Nat.le_of_ble_eq_true rfl) (fun w216 hs217 => ?_)
        refine w_nil ?_
        refine q_then (hK211 _ _ ?_)
        refine w_seq (fun K219 hK218 => ?_)
        have hmi := mul_in (s := s) (show z < 2 by omega) hs1
        refine w_region ?_
        refine w_p (y_fieldAddr (o := 2) (i := 2) Try.underlying154 rfl Try.sizeOf3 rfl rfl rfl) rfl ?_
        refine w_p (y_load1 Try.isAgg3 hs217 rfl rfl (ats_own (i := 0) (vs := [_]) rfl rfl)) rfl ?_
        refine w_p (y_move (v := .int _ _) rfl rfl) rfl ?_
        refine w_p (y_sub rfl rfl rfl rfl (by omega) (by omega)) rfl ?_
        refine w_p (y_mul rfl rfl rfl rfl (by omega) (by omega)) rfl ?_
        refine w_p (y_fieldAddr (o := 2) (i := 2) Try.underlying154 rfl Try.sizeOf3 rfl rfl rfl) rfl ?_
        refine w_store (i := 0) (v := .int _ _) (vs := [_]) want_none Try.sizeOf3 rfl rfl rfl rfl rfl (by simp [Value.oneCell']) hs217 rfl (Nat.le_of_ble_eq_true rfl) (fun w220 hs221 => ?_)
        refine w_nil ?_
        refine q_then (hK218 _ _ ?_)
        refine w_seq (fun K223 hK222 => ?_)
        refine w_region ?_
        refine w_p (y_fieldAddr (o := 0) (i := 0) Try.underlying31 rfl Try.sizeOf3 rfl rfl rfl) rfl ?_
        refine w_p (y_load1 Try.isAgg3 hs221 rfl rfl (ats_own (i := 1) (vs := [_]) rfl rfl)) rfl ?_
        refine w_p (y_fieldAddr (o := 1) (i := 1) Try.underlying76 rfl Try.sizeOf3 rfl rfl rfl) rfl ?_
        refine w_p (y_load1 Try.isAgg3 hs221 rfl rfl (ats_own (i := 2) (vs := [_]) rfl rfl)) rfl ?_
        refine w_p (y_sub rfl rfl rfl rfl (by omega) (by omega)) rfl ?_
        refine w_p (y_max2 rfl rfl rfl rfl) rfl ?_
        refine w_p (y_assign (v := .int _ _) rfl rfl) rfl ?_
        refine w_nil ?_
        refine q_then (hK222 _ _ ?_)
        refine w_block ?_
        refine w_loop [7, 12, 13, 14, 85, 86, 87, 88, 89, 90, 91, 92, 93, 94, 95, 96, 97, 98, 99, 100, 101, 102, 103, 104, 105, 106, 107, 108, 109, 110, 111, 112, 113, 114, 115, 116, 117, 118, 119] [7, 12] (fun kk vs w => ∃ (q : Nat) (v : Value) (B : List (Nat × Obj)), vs = [v, .int .i64 ((max 0 ((hourOf b a).lo - (ctrOf b c).skip)) + q)] ∧ q ≤ ((hourOf b a).hi + (ctrOf b c).twice + 1 - (max 0 ((hourOf b a).lo - (ctrOf b c).skip))).toNat ∧ kk = ((hourOf b a).hi + (ctrOf b c).twice + 1 - (max 0 ((hourOf b a).lo - (ctrOf b c).skip))).toNat - q ∧ Rt.Own v 140 3 ((wTo (ctrOf b c) (hourOf b a) a s z) ++ wPart (ctrOf b c) a s (decide (z = 1)) (max 0 ((hourOf b a).lo - (ctrOf b c).skip)) q).length (wrows ((wTo (ctrOf b c) (hourOf b a) a s z) ++ wPart (ctrOf b c) a s (decide (z = 1)) (max 0 ((hourOf b a).lo - (ctrOf b c).skip)) q)).flatten B ∧ St w0 w ((b213, blk 154 [.int .i64 (c : Int), .int .i64 (a : Int), .int .i64 (s * (1 - (z : Int)))]) :: (b9, blk 31 [.int .i64 (hourOf b a).lo, .int .i64 (hourOf b a).hi]) :: (b8, blk 76 ((ctrOf b c).cells (p.pc c))) :: (b3, blk 154 [.int .i64 (c : Int), .int .i64 (a : Int), .int .i64 s]) :: (mm, .map (ents (fun l : List Int => ia l) es).toArray ck) :: (B ++ F))) (((hourOf b a).hi + (ctrOf b c).twice + 1 - (max 0 ((hourOf b a).lo - (ctrOf b c).skip))).toNat) ?_ ?_
        ·
         exact ⟨0, v, B, vi (by omega), by omega, by omega, by rw [show wPart (ctrOf b c) a s (decide (z = 1)) (max 0 ((hourOf b a).lo - (ctrOf b c).skip)) 0 = [] from rfl, List.append_nil]; exact hown, hs221⟩
        ·
         intro k vs μ w226 hI K225 hN224
         obtain ⟨q, v, B, rfl, hqa, rfl, hown2, hs⟩ := hI
         have hpl := wPart_len (ctrOf b c) a s (max 0 ((hourOf b a).lo - (ctrOf b c).skip)) (decide (z = 1)) q
         have hpa : ((wTo (ctrOf b c) (hourOf b a) a s z) ++ wPart (ctrOf b c) a s (decide (z = 1)) (max 0 ((hourOf b a).lo - (ctrOf b c).skip)) q).length = (wTo (ctrOf b c) (hourOf b a) a s z).length + (wPart (ctrOf b c) a s (decide (z = 1)) (max 0 ((hourOf b a).lo - (ctrOf b c).skip)) q).length := List.length_append
         refine w_seq (fun K228 hK227 => ?_)
         refine w_seq (fun K230 hK229 => ?_)
         refine w_region ?_
         refine w_p (y_move (v := .int _ _) rfl rfl) rfl ?_
         refine w_p (y_fieldAddr (o := 1) (i := 1) Try.underlying31 rfl Try.sizeOf3 rfl rfl rfl) rfl ?_
         refine w_p (y_load1 Try.isAgg3 hs rfl rfl (ats_own (i := 1) (vs := [_]) rfl rfl)) rfl ?_
         refine w_p (y_fieldAddr (o := 2) (i := 2) Try.underlying76 rfl Try.sizeOf3 rfl rfl rfl) rfl ?_
         refine w_p (y_load1 Try.isAgg3 hs rfl rfl (ats_own (i := 2) (vs := [_]) rfl rfl)) rfl ?_
         refine w_p (y_add rfl rfl rfl rfl (by omega) (by omega)) rfl ?_
         refine w_p (y_leq rfl rfl rfl rfl) rfl ?_
         refine w_nil ?_
         refine q_then (hK229 _ _ ?_)
         refine w_cond rfl rfl (fun h231 => ?_) (fun h231 => ?_)
         ·
          try simp only [zA, zB, zC, zD, zE, zF] at h231
          refine w_skip ?_
          refine q_then (hK227 _ _ ?_)
          refine w_seq (fun K233 hK232 => ?_)
          refine w_block ?_
          refine w_seq (fun K235 hK234 => ?_)
          refine w_region ?_
          refine w_p (y_fieldAddr (o := 2) (i := 2) Try.underlying154 rfl Try.sizeOf3 rfl rfl rfl) rfl ?_
          refine w_p (y_load1 Try.isAgg3 hs rfl rfl (ats_own (i := 0) (vs := [_]) rfl rfl)) rfl ?_
          refine w_p (y_move (v := .int _ _) rfl rfl) rfl ?_
          refine w_p (y_add rfl rfl rfl rfl (by omega) (by omega)) rfl ?_
          refine w_p (y_rem rfl rfl rfl rfl (by omega) (by omega)) rfl ?_
          refine w_p (y_assign (v := .int _ _) rfl rfl) rfl ?_
          refine w_nil ?_
          refine q_then (hK234 _ _ ?_)
          refine w_seq (fun K237 hK236 => ?_)
          refine w_region ?_
          refine w_p (y_fieldAddr (o := 5) (i := 5) Try.underlying76 rfl Try.sizeOf39 rfl rfl rfl) rfl ?_
          refine w_p (yd_slice hbv (y_load1 Try.isAgg39 hs rfl rfl (ats_own (i := 2) (vs := [_]) rfl rfl))) rfl ?_
          refine w_p (y_fieldAddr (o := 1) (i := 1) Try.underlying154 rfl Try.sizeOf3 rfl rfl rfl) rfl ?_
          refine w_p (y_load1 Try.isAgg3 hs rfl rfl (ats_own (i := 3) (vs := [_]) rfl rfl)) rfl ?_
          refine w_p (y_indexS Try.underlying39 Try.sizeOf3 rfl rfl rfl rfl (i := a) rfl has) rfl ?_
          refine w_p (y_load1 Try.isAgg3 hs.tail.tail.tail.tail.tail.drop rfl rfl hxv) rfl ?_
          refine w_p (y_assign (v := .int _ _) rfl rfl) rfl ?_
          refine w_nil ?_
          refine q_then (hK236 _ _ ?_)
          refine w_seq (fun K239 hK238 => ?_)
          rw [sh_mul (by omega)]
          refine w_region ?_
          refine w_p (y_move (v := .int _ _) rfl rfl) rfl ?_
          refine w_p (y_eql rfl rfl rfl rfl) rfl ?_
          refine w_p (y_move (v := .bool _) rfl rfl) rfl ?_
          refine w_split (fun h240 => ?_) (fun h240 => ?_)
          ·
           try simp only [zA, zB, zC, zD, zE, zF] at h240
           refine w_skipop rfl rfl rfl ?_
           refine w_skipop rfl rfl rfl ?_
           refine w_skipop rfl rfl rfl ?_
           refine w_p (y_pickT (v := _) rfl rfl rfl rfl) rfl ?_
           refine w_nil ?_
           refine q_then (hK238 _ _ ?_)
           refine w_condT rfl rfl ?_
           refine w_region ?_
           refine w_p (y_move (v := v) rfl rfl) rfl ?_
           refine w_p (y_move (v := .int _ _) rfl rfl) rfl ?_
           refine w_p (y_move (v := .int _ _) rfl rfl) rfl ?_
           refine w_p (y_move (v := .int _ _) rfl rfl) rfl ?_
           refine w_p (y_eql rfl rfl rfl rfl) rfl ?_
           refine w_p (y_build (ps := [(0, _), (1, _), (2, _)]) (pv := [(0, .int _ _), (1, .int _ _), (2, .bool _)]) rfl rfl (fun w => Try_E_fb1 _ _ _ w)) rfl ?_
           refine w_bslice (ps := [(0, _)]) (pv := [(0, .agg #[.int _ _, .int _ _, .bool _])]) (cs := [_, _, _]) want_none rfl rfl (fun w => Try_E_fb2 _ _ _ w) hs (fun b241 w242 hs243 => ?_)
           refine w_append (X := (_ :: _ :: _ :: _ :: _ :: _ :: [])) (B := B) (rows := [[_, _, _]]) (sz := 3) (bytes := 24) want_none Try.underlying152 Try_info140 rfl rfl rfl rfl rfl rfl rfl rfl rfl hs243 hown2 (sl_own (i := 0) rfl (by simp) rfl) rfl (by simp) (by simp [Value.oneCell']) (by simp only [maxLen]; omega) (by omega) (fun v244 w245 B246 ho247 hs248 => ?_)
           replace hs248 := (show St _ _ (_ :: _ :: _ :: _ :: _ :: _ :: B246 ++ (F)) from hs248)
           refine w_p (y_assign (v := v244) rfl rfl) rfl ?_
           refine w_nil ?_
           refine q_blk_normal ?_
           refine q_then (hK232 _ _ ?_)
           refine w_region ?_
           refine w_p (y_move (v := .int _ _) rfl rfl) rfl ?_
           refine w_p (y_add rfl rfl rfl rfl (by omega) (by omega)) rfl ?_
           refine w_p (y_assign (v := .int _ _) rfl rfl) rfl ?_
           refine w_nil ?_
           refine q_then (hN224 _ _ (Nx.intro (((hourOf b a).hi + (ctrOf b c).twice + 1 - (max 0 ((hourOf b a).lo - (ctrOf b c).skip))).toNat - (q + 1)) (by omega) (by repeat (first | exact agree_mix | refine agree_upd rfl ?_ | refine agree_updL rfl ?_ _ | refine agree_mixin rfl ?_)) ?_))
           exact ⟨q + 1, _, _, vi (by omega), by omega, rfl, by rw [wPart_y (by rw [hgs]; omega), ← List.append_assoc]; exact own_way (by have h9 := ho247; rw [hzb] at h9; exact h9), hs248.tail⟩
          ·
           try simp only [zA, zB, zC, zD, zE, zF] at h240
           refine w_y rfl rfl rfl (y_move (v := .int _ _) rfl rfl) rfl ?_
           refine w_y rfl rfl rfl (y_move (v := .int _ _) rfl rfl) rfl ?_
           refine w_y rfl rfl rfl (y_eql rfl rfl rfl rfl) rfl ?_
           refine w_p (y_pickF (v := .bool _) rfl rfl rfl rfl) rfl ?_
           refine w_nil ?_
           refine q_then (hK238 _ _ ?_)
           refine w_cond rfl rfl (fun h249 => ?_) (fun h249 => ?_)
           ·
            try simp only [zA, zB, zC, zD, zE, zF] at h249
            refine w_region ?_
            refine w_p (y_move (v := v) rfl rfl) rfl ?_
            refine w_p (y_move (v := .int _ _) rfl rfl) rfl ?_
            refine w_p (y_move (v := .int _ _) rfl rfl) rfl ?_
            refine w_p (y_move (v := .int _ _) rfl rfl) rfl ?_
            refine w_p (y_eql rfl rfl rfl rfl) rfl ?_
            refine w_p (y_build (ps := [(0, _), (1, _), (2, _)]) (pv := [(0, .int _ _), (1, .int _ _), (2, .bool _)]) rfl rfl (fun w => Try_E_fb1 _ _ _ w)) rfl ?_
            refine w_bslice (ps := [(0, _)]) (pv := [(0, .agg #[.int _ _, .int _ _, .bool _])]) (cs := [_, _, _]) want_none rfl rfl (fun w => Try_E_fb2 _ _ _ w) hs (fun b250 w251 hs252 => ?_)
            refine w_append (X := (_ :: _ :: _ :: _ :: _ :: _ :: [])) (B := B) (rows := [[_, _, _]]) (sz := 3) (bytes := 24) want_none Try.underlying152 Try_info140 rfl rfl rfl rfl rfl rfl rfl rfl rfl hs252 hown2 (sl_own (i := 0) rfl (by simp) rfl) rfl (by simp) (by simp [Value.oneCell']) (by simp only [maxLen]; omega) (by omega) (fun v253 w254 B255 ho256 hs257 => ?_)
            replace hs257 := (show St _ _ (_ :: _ :: _ :: _ :: _ :: _ :: B255 ++ (F)) from hs257)
            refine w_p (y_assign (v := v253) rfl rfl) rfl ?_
            refine w_nil ?_
            refine q_blk_normal ?_
            refine q_then (hK232 _ _ ?_)
            refine w_region ?_
            refine w_p (y_move (v := .int _ _) rfl rfl) rfl ?_
            refine w_p (y_add rfl rfl rfl rfl (by omega) (by omega)) rfl ?_
            refine w_p (y_assign (v := .int _ _) rfl rfl) rfl ?_
            refine w_nil ?_
            refine q_then (hN224 _ _ (Nx.intro (((hourOf b a).hi + (ctrOf b c).twice + 1 - (max 0 ((hourOf b a).lo - (ctrOf b c).skip))).toNat - (q + 1)) (by omega) (by repeat (first | exact agree_mix | refine agree_upd rfl ?_ | refine agree_updL rfl ?_ _ | refine agree_mixin rfl ?_)) ?_))
            exact ⟨q + 1, _, _, vi (by omega), by omega, rfl, by rw [wPart_y (by rw [hgs]; omega), ← List.append_assoc]; exact own_way (by have h9 := ho256; rw [hzb] at h9; exact h9), hs257.tail⟩
           ·
            try simp only [zA, zB, zC, zD, zE, zF] at h249
            refine w_skip ?_
            refine q_blk_normal ?_
            refine q_then (hK232 _ _ ?_)
            refine w_region ?_
            refine w_p (y_move (v := .int _ _) rfl rfl) rfl ?_
            refine w_p (y_add rfl rfl rfl rfl (by omega) (by omega)) rfl ?_
            refine w_p (y_assign (v := .int _ _) rfl rfl) rfl ?_
            refine w_nil ?_
            refine q_then (hN224 _ _ (Nx.intro (((hourOf b a).hi + (ctrOf b c).twice + 1 - (max 0 ((hourOf b a).lo - (ctrOf b c).skip))).toNat - (q + 1)) (by omega) (by repeat (first | exact agree_mix | refine agree_upd rfl ?_ | refine agree_updL rfl ?_ _ | refine agree_mixin rfl ?_)) ?_))
            exact ⟨q + 1, v, B, vi (by omega), by omega, rfl, by rw [wPart_n (by rw [hgs]; omega)]; exact hown2, hs⟩
         ·
          try simp only [zA, zB, zC, zD, zE, zF] at h231
          refine w_exit ?_
          refine q_then_exit ?_
          refine q_then_exit ?_
          refine q_blk_this ?_
          refine q_blk_normal ?_
          refine q_then (hK56 _ _ ?_)
          refine w_region ?_
          refine w_p (y_add rfl rfl rfl rfl (by omega) (by omega)) rfl ?_
          refine w_p (y_move (v := .int _ _) rfl rfl) rfl ?_
          refine w_nil ?_
          refine q_then (hN48 _ _ (Nx.intro (2 - (z + 1)) (by omega) (by repeat (first | exact agree_mix | refine agree_upd rfl ?_ | refine agree_updL rfl ?_ _ | refine agree_mixin rfl ?_)) ?_))
          first
            | exact ⟨z + 1, v, B, rfl, by omega, rfl, by rw [wTo_no (canZ_n (by omega) (by omega))]; exact hown, hs⟩
            | exact ⟨z + 1, v, B, rfl, by omega, rfl, by rw [wPart_all (canZ_y (by omega) (by omega)) (q := q) (by omega)]; exact hown2, hs.tail⟩
     ·
      try simp only [zA, zB, zC, zD, zE, zF] at h55
      refine w_exit ?_
      refine q_then_exit ?_
      refine q_then_exit ?_
      refine q_blk_this ?_
      refine q_then (hK44 _ _ ?_)
      refine w_seq (fun K259 hK258 => ?_)
      refine w_draw [6] [(0, 0), (1, 0), (2, 0), (3, 1), (4, 1), (5, 0), (6, 3)] Try_mo (drawOK_of (by kernel_rfl)) hs (fun w260 hs261 => ?_)
      refine d_any rfl want_none rfl (fun _ => (y_move (v := .pointer _) rfl rfl)) ?_
      refine d_any rfl want_none rfl (fun _ => (y_nilCheck rfl rfl)) ?_
      refine d_any rfl want_none rfl (fun _ => (y_fieldAddr (o := 3) (i := 1) Try.underlying129 rfl Try.sizeOf127 rfl rfl rfl)) ?_
      refine d_take rfl want_none rfl hs261 (fun _ hq => (y_load1 Try.isAgg127 hq.tail.tail.tail.tail.drop rfl rfl (show Ats _ _ _ _ [_] from Ats.part hb 3 1))) ?_
      refine d_take rfl want_none rfl hs261 (fun _ hq => (y_loadN (vs := [_, _, _]) Try.isAgg154 Try.sizeOf154 hq rfl rfl (ats_own (i := 2) (vs := [_, _, _]) rfl rfl))) ?_
      refine d_any rfl want_none rfl (fun _ => (y_move (v := v) rfl rfl)) ?_
      refine d_late rfl ?_
      refine G_put (i := 3) (a := [(c : Int), (a : Int), s]) want_none Try.underlying127 (keyG_ia key154) rfl hes rfl rfl rfl rfl rfl rfl hs261 rfl (fun w262 hs263 => ?_)
      refine w_nil ?_
      refine qn ?_
      refine d_nil ?_
      refine q_then (hK258 _ _ ?_)
      refine w_seq (fun K265 hK264 => ?_)
      refine w_region ?_
      refine w_p (y_move (v := v) rfl rfl) rfl ?_
      refine w_p (y_assign (v := v) rfl rfl) rfl ?_
      refine w_nil ?_
      refine q_then (hK264 _ _ ?_)
      refine w_ret ?_
      refine q_ret (l := [.tmp 4]) (vs := [_]) rfl ⟨⟨rfl, show _ = (v : Value) from rfl⟩, trivial⟩ ?_
      have hz2 : z = 2 := by omega
      subst hz2
      rw [wTo_two] at hown
      obtain ⟨x, cap, rfl, hsl, _, _⟩ := own_rows0 (w0 := w0) hown (wrows_row _) (by simp [wrows]) rfl
      exact ⟨x, cap, B, rfl, hsl, hs263.tail.tail.tail⟩

theorem getA_mem {α : Type} [DecidableEq α] {a : α} {u : Value} : ∀ {l : List (α × Value × Nat)}, getA a l = some u → ∃ q ∈ l, q.1 = a ∧ q.2.1 = u
  | [], h => by simp [getA] at h
  | q :: l, h => by
    by_cases e : q.1 = a
    · simp only [getA, if_pos e] at h
      exact ⟨q, .head _, e, by simpa using h⟩
    · simp only [getA, if_neg e] at h
      obtain ⟨x, hx, h1, h2⟩ := getA_mem h
      exact ⟨x, .tail _ hx, h1, h2⟩
theorem ways_con {w0 w : World} {X M F : List (Nat × Obj)} (b : Board) (p : AtB) (bb mm : Nat) (hk : BK w0 F b p bb mm) (c a : Nat) (hc : c < b.ctrs.length) (ha : a < b.hours.length) (s : Int) (hs1 : 0 ≤ s ∧ s < 100) (hM : Memo w0 b mm M) (hs : St w0 w (X ++ (M ++ F))) :
    Con Try.prog 110 [.pointer (some ⟨bb, 0, none⟩), .agg #[.int .i64 (c : Int), .int .i64 (a : Int), .int .i64 s]] w fun v w' => ∃ (M' : List (Nat × Obj)) (x : Option Addr) (cap : Nat), v = .slice x (waysAt b c a s).length cap ∧ Sl w0 M' x 3 (wrows (waysAt b c a s)) ∧ Memo w0 b mm M' ∧ St w0 w' (X ++ (M' ++ F)) := by
  obtain ⟨es, ck, MB, rfl, hok, hlen, hes⟩ := hM
  have hs2 : St w0 w ((mm, .map (ents (fun l : List Int => ia l) es).toArray ck) :: (X ++ (MB ++ F))) := hs.perm (perm_mid X [_] (MB ++ F))
  cases hf : getA [(c : Int), (a : Int), s] es with
  | none =>
    refine (c110n b p bb mm hk.app.app c a hc ha s hs1 es ck hlen hf hs2).mono ?_
    rintro v w' ⟨x, cap, B, rfl, hsl, hs3⟩
    refine ⟨(mm, .map (ents (fun l : List Int => ia l) (putA [(c : Int), (a : Int), s] (.slice x (waysAt b c a s).length cap) ck es)).toArray (if idxA [(c : Int), (a : Int), s] es 0 = none then ck + 1 else ck)) :: (B ++ MB), x, cap, rfl, hsl.top.cons, ⟨_, _, B ++ MB, rfl, hok.put _ _, fun q hq => ?_, fun q hq => ?_⟩, ?_⟩
    · rcases mem_putA hq with ⟨h1, _⟩ | h
      · rw [h1]; rfl
      · exact hlen q h
    · rcases mem_putA hq with ⟨h1, h2⟩ | h
      · exact ⟨c, a, s, x, cap, h1, h2, hsl.top⟩
      · exact (hes q h).mono fun _ h => h.drop
    · have h4 := hs3.perm (perm_mid (_ :: B) X (MB ++ F))
      simpa only [List.append_assoc, List.cons_append] using h4
  | some u =>
    obtain ⟨q, hq, h1, h2⟩ := getA_mem hf
    obtain ⟨c', a', s', x, cap, h3, h4, h5⟩ := hes q hq
    rw [h1] at h3
    injection h3 with e1 h3
    injection h3 with e2 h3
    injection h3 with e3 _
    have e4 : c' = c := by omega
    have e5 : a' = a := by omega
    subst e4 e5 e3
    rw [h2] at h4
    refine (c110f b p bb mm hk.app.app c' a' hc ha s hs1 es ck hlen u x _ cap h4 hf hs2).mono ?_
    rintro v w' ⟨rfl, hs3⟩
    refine ⟨(mm, .map (ents (fun l : List Int => ia l) es).toArray ck) :: MB, x, cap, h4, h5.cons, ⟨es, ck, MB, rfl, hok, hlen, hes⟩, ?_⟩
    exact hs3.perm (perm_mid [_] X (MB ++ F))
end Go.Proofs
/- Walks of this seat, printed by gen.py over the engine: what each function returns, in whatever world. No conditions but those of each contract. -/
set_option linter.unusedVariables false
set_option linter.unusedSimpArgs false
set_option maxRecDepth 20000
namespace Go.Proofs
open Go.Rt Go.Rt.Ch
open Go.Rt.Ha (firstE firstE_step firstE_stop firstE_end failE nameE felt spanL upto span_mem listL fewest fewTo bit)
attribute [local irreducible] WL WC Con Yd At Ats Sl Agree DW
theorem Try_F_fb2 (x0 : Int) (x1 : Int) (x2 : Bool) (w : World) : (Instr.build 140 [(0, .int .i64 x0), (1, .int .i64 x1), (2, .bool x2)].toArray).run Try.prog w = .ok (.agg #[.int .i64 x0, .int .i64 x1, .bool x2]) w := by kernel_rfl
theorem Try_F_fb3 (x0 : Go.Fn) (a0 c0 : Array Value) (w : World) : (Instr.build 112 [(0, .func x0 a0 c0)].toArray).run Try.prog w = .ok (.agg #[.func x0 a0 c0]) w := by kernel_rfl
/-- A function that answers a question of ways. -/
def QIs (w0 : World) (F : List (Nat × Obj)) (fq : Value) (q : Quest) : Prop := ∀ (k : Nat) (load : Int) (x : Ch.Way) (X : List (Nat × Obj)) (w : World), St w0 w (X ++ F) → FCon Try.prog fq [.int .i64 (k : Int), .int .i64 load, .agg x.cells.toArray] w fun v w' => v = .bool (q k load x) ∧ St w0 w' (X ++ F)
theorem QIs.at {w0 w : World} {P X M F : List (Nat × Obj)} {fq : Value} {q : Quest} (h : QIs w0 F fq q) (k : Nat) (load : Int) (x : Ch.Way) (hs : St w0 w (P ++ (X ++ (M ++ F)))) : FCon Try.prog fq [.int .i64 (k : Int), .int .i64 load, .agg x.cells.toArray] w fun v w' => v = .bool (q k load x) ∧ St w0 w' (P ++ (X ++ (M ++ F))) :=
  (h k load x _ w (st_in hs)).mono fun _ _ h => ⟨h.1, st_out h.2⟩
theorem QIs.app {w0 : World} {B F : List (Nat × Obj)} {fq : Value} {q : Quest} (h : QIs w0 F fq q) : QIs w0 (B ++ F) fq q := fun k load x X w hs => by
  have h1 := h k load x (X ++ B) w (by rw [List.append_assoc]; exact hs)
  exact h1.mono fun _ _ h => ⟨h.1, by have h2 := h.2; rw [List.append_assoc] at h2; exact h2⟩
theorem iib140 : ∃ f0 f1 f2, IIB Try.prog 140 f0 f1 f2 := ⟨_, _, _, ⟨Try.underlying140, by kernel_rfl, by kernel_rfl, ⟨by decide, rfl, Try.underlying3⟩, ⟨by decide, rfl, Try.underlying3⟩, ⟨by decide, rfl, Try.underlying4⟩⟩⟩
theorem dec_slip {a b : Int} : (!decide (a = b)) = decide (a ≠ b) := by rw [Bool.eq_iff_iff]; simp
theorem c100 {w0 w : World} {F : List (Nat × Obj)} (k : Nat) (load : Int) (x : Ch.Way) (hs : St w0 w F) :
  Con Try.prog 100 [.int .i64 (k : Int), .int .i64 load, .agg x.cells.toArray] w fun v w' => v = .bool (slips k load x) ∧ St w0 w' F := by
  refine con_of_wc (n := 11) Try.func100 rfl rfl (Nat.le_of_ble_eq_true rfl) ?_
  refine w_seq (fun K2 hK1 => ?_)
  refine w_region ?_
  refine w_box (v := .agg #[.int _ _, .int _ _, .bool _]) (cs := [_, _, _]) want_none rfl rfl rfl hs (fun b3 w4 hs5 => ?_)
  refine w_p (y_assign (v := _) rfl rfl) rfl ?_
  refine w_nil ?_
  refine q_then (hK1 _ _ ?_)
  refine w_seq (fun K7 hK6 => ?_)
  refine w_region ?_
  refine w_p (y_fieldAddr (o := 0) (i := 0) Try.underlying140 rfl Try.sizeOf3 rfl rfl rfl) rfl ?_
  refine w_p (y_load1 Try.isAgg3 hs5 rfl rfl (ats_own (i := 0) (vs := [_]) rfl rfl)) rfl ?_
  refine w_p (y_move (v := .int _ _) rfl rfl) rfl ?_
  refine w_p (y_neq rfl rfl rfl rfl) rfl ?_
  refine w_p (y_assign (v := .bool _) rfl rfl) rfl ?_
  refine w_nil ?_
  refine q_then (hK6 _ _ ?_)
  refine w_ret ?_
  refine q_ret (l := [.tmp 6]) (vs := [_]) rfl ⟨⟨rfl, show _ = (.bool _ : Value) from rfl⟩, trivial⟩ ?_
  exact ⟨congrArg Value.bool dec_slip, hs5.tail⟩

theorem c103 {w0 w : World} {F : List (Nat × Obj)} (k a : Nat) (load : Int) (x : Ch.Way) (ba : Nat) (hb : Ats w0 F ba 0 [.int .i64 (a : Int)]) (hs : St w0 w F) :
  Con Try.prog 103 [.int .i64 (k : Int), .int .i64 load, .agg x.cells.toArray, .pointer (some ⟨ba, 0, none⟩)] w fun v w' => v = .bool (zeroed a k load x) ∧ St w0 w' F := by
  refine con_of_wc (n := 20) Try.func103 rfl rfl (Nat.le_of_ble_eq_true rfl) ?_
  obtain ⟨f0, f1, f2, hT⟩ := iib140
  refine w_seq (fun K2 hK1 => ?_)
  refine w_region ?_
  refine w_box (v := .agg #[.int _ _, .int _ _, .bool _]) (cs := [_, _, _]) want_none rfl rfl rfl hs (fun b3 w4 hs5 => ?_)
  refine w_p (y_assign (v := _) rfl rfl) rfl ?_
  refine w_nil ?_
  refine q_then (hK1 _ _ ?_)
  refine w_seq (fun K7 hK6 => ?_)
  refine w_region ?_
  refine w_p (y_move (v := .int _ _) rfl rfl) rfl ?_
  refine w_p (y_load1 Try.isAgg3 hs5.tail rfl rfl hb) rfl ?_
  refine w_p (y_eql rfl rfl rfl rfl) rfl ?_
  refine w_p (y_move (v := .bool _) rfl rfl) rfl ?_
  refine w_split (fun h8 => ?_) (fun h8 => ?_)
  ·
   try simp only [zA, zB, zC, zD, zE, zF] at h8
   refine w_y rfl rfl rfl (y_loadN (vs := [_, _, _]) Try.isAgg140 Try.sizeOf140 hs5 rfl rfl (ats_own (i := 0) (vs := [_, _, _]) rfl rfl)) rfl ?_
   refine w_y rfl rfl rfl (y_fieldAddr (o := 0) (i := 0) Try.underlying140 rfl Try.sizeOf3 rfl rfl rfl) rfl ?_
   refine w_y rfl rfl rfl (y_load1 Try.isAgg3 hs5 rfl rfl (ats_own (i := 0) (vs := [_]) rfl rfl)) rfl ?_
   refine w_y rfl rfl rfl (y_fieldAddr (o := 1) (i := 1) Try.underlying140 rfl Try.sizeOf3 rfl rfl rfl) rfl ?_
   refine w_y rfl rfl rfl (y_load1 Try.isAgg3 hs5 rfl rfl (ats_own (i := 0) (vs := [_]) rfl rfl)) rfl ?_
   refine w_y rfl rfl rfl (y_build (ps := [(0, _), (1, _), (2, _)]) (pv := [(0, .int _ _), (1, .int _ _), (2, .bool _)]) rfl rfl (fun w => Try_F_fb2 _ _ _ w)) rfl ?_
   refine w_y rfl rfl rfl (y_eqIIB hT rfl rfl rfl rfl) rfl ?_
   refine w_p (y_pickT (v := .bool _) rfl rfl rfl rfl) rfl ?_
   refine w_p (y_assign (v := .bool _) rfl rfl) rfl ?_
   refine w_nil ?_
   refine q_then (hK6 _ _ ?_)
   refine w_ret ?_
   refine q_ret (l := [.tmp 7]) (vs := [_]) rfl ⟨⟨rfl, show _ = (.bool _ : Value) from rfl⟩, trivial⟩ ?_
   first
     | (have hka : k = a := by omega
        subst hka
        exact ⟨congrArg Value.bool (by unfold zeroed; rw [Bool.eq_iff_iff]; simp), hs5.tail⟩)
     | (have hka : ¬ k = a := by omega
        exact ⟨congrArg Value.bool (by unfold zeroed; rw [Bool.eq_iff_iff]; simp [hka]), hs5.tail⟩)
  ·
   try simp only [zA, zB, zC, zD, zE, zF] at h8
   refine w_skipop rfl rfl rfl ?_
   refine w_skipop rfl rfl rfl ?_
   refine w_skipop rfl rfl rfl ?_
   refine w_skipop rfl rfl rfl ?_
   refine w_skipop rfl rfl rfl ?_
   refine w_skipop rfl rfl rfl ?_
   refine w_skipop rfl rfl rfl ?_
   refine w_p (y_pickF (v := _) rfl rfl rfl rfl) rfl ?_
   refine w_p (y_assign (v := .bool _) rfl rfl) rfl ?_
   refine w_nil ?_
   refine q_then (hK6 _ _ ?_)
   refine w_ret ?_
   refine q_ret (l := [.tmp 7]) (vs := [_]) rfl ⟨⟨rfl, show _ = (.bool _ : Value) from rfl⟩, trivial⟩ ?_
   first
     | (have hka : k = a := by omega
        subst hka
        exact ⟨congrArg Value.bool (by unfold zeroed; rw [Bool.eq_iff_iff]; simp), hs5.tail⟩)
     | (have hka : ¬ k = a := by omega
        exact ⟨congrArg Value.bool (by unfold zeroed; rw [Bool.eq_iff_iff]; simp [hka]), hs5.tail⟩)

theorem c73 {w0 w : World} {F : List (Nat × Obj)}  (hs : St w0 w F) :
  Con Try.prog 73 [] w fun v w' => v = .agg #[.func (.func 100) #[] #[]] ∧ St w0 w' F := by
  refine con_of_wc (n := 2) Try.func73 rfl rfl (Nat.le_of_ble_eq_true rfl) ?_
  refine w_seq (fun K2 hK1 => ?_)
  refine w_region ?_
  refine w_alloc (cs := [_]) want_none Try.zeroValue112 rfl hs (fun b3 w4 hs5 => ?_)
  refine w_nil ?_
  refine q_then (hK1 _ _ ?_)
  refine w_seq (fun K7 hK6 => ?_)
  refine w_region ?_
  refine w_p (y_build (ps := [(0, _)]) (pv := [(0, .func _ _ _)]) rfl rfl (fun w => Try_F_fb3 _ _ _ w)) rfl ?_
  refine w_store (i := 0) (v := .agg #[.func _ _ _]) (vs := [_]) want_none Try.sizeOf112 rfl rfl rfl rfl rfl (by simp [Value.oneCell']) hs5 rfl (Nat.le_of_ble_eq_true rfl) (fun w8 hs9 => ?_)
  refine w_nil ?_
  refine q_then (hK6 _ _ ?_)
  refine w_ret ?_
  refine q_ret (l := [.cell 0 112]) (vs := [_]) rfl ⟨⟨rfl, _, rfl, run_loadVarN (vs := [_]) Try.isAgg112 Try.sizeOf112 hs9 (ats_own (i := 0) (vs := [_]) rfl rfl)⟩, trivial⟩ ?_
  exact ⟨rfl, hs9.tail⟩

theorem c77 {w0 w : World} {F : List (Nat × Obj)} (a : Nat) (hs : St w0 w F) :
  Con Try.prog 77 [.int .i64 (a : Int)] w fun v w' => ∃ ba, v = .agg #[.func (.func 103) #[] #[.pointer (some ⟨ba, 0, none⟩)]] ∧ St w0 w' ((ba, blk 3 [.int .i64 (a : Int)]) :: F) := by
  refine con_of_wc (n := 5) Try.func77 rfl rfl (Nat.le_of_ble_eq_true rfl) ?_
  refine w_seq (fun K2 hK1 => ?_)
  refine w_region ?_
  refine w_box (v := .int _ _) (cs := [_]) want_none rfl rfl rfl hs (fun b3 w4 hs5 => ?_)
  refine w_alloc (cs := [_]) want_none Try.zeroValue112 rfl hs5 (fun b6 w7 hs8 => ?_)
  refine w_nil ?_
  refine q_then (hK1 _ _ ?_)
  refine w_seq (fun K10 hK9 => ?_)
  refine w_region ?_
  refine w_p (y_makeFunc (fv := []) (cv := [_]) rfl rfl rfl rfl) rfl ?_
  refine w_p (y_build (ps := [(0, _)]) (pv := [(0, .func _ _ _)]) rfl rfl (fun w => Try_F_fb3 _ _ _ w)) rfl ?_
  refine w_store (i := 0) (v := .agg #[.func _ _ _]) (vs := [_]) want_none Try.sizeOf112 rfl rfl rfl rfl rfl (by simp [Value.oneCell']) hs8 rfl (Nat.le_of_ble_eq_true rfl) (fun w11 hs12 => ?_)
  refine w_nil ?_
  refine q_then (hK9 _ _ ?_)
  refine w_ret ?_
  refine q_ret (l := [.cell 2 112]) (vs := [_]) rfl ⟨⟨rfl, _, rfl, run_loadVarN (vs := [_]) Try.isAgg112 Try.sizeOf112 hs12 (ats_own (i := 0) (vs := [_]) rfl rfl)⟩, trivial⟩ ?_
  exact ⟨_, rfl, hs12.tail⟩

theorem qis_slips {w0 : World} {F : List (Nat × Obj)} : QIs w0 F (.func (.func 100) #[] #[]) slips := fun k load x X w hs => fcon_fn Try.call100 (c100 k load x hs)
theorem qis_zeroed {w0 : World} {F : List (Nat × Obj)} {a ba : Nat} (hb : Ats w0 F ba 0 [.int .i64 (a : Int)]) : QIs w0 F (.func (.func 103) #[] #[.pointer (some ⟨ba, 0, none⟩)]) (zeroed a) := fun k load x X w hs => fcon_fn Try.call103 (c103 k a load x ba hb.app hs)
end Go.Proofs
