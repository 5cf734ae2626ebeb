/- Own texts of this claim, joined. No conditions. -/
import Derived.Test.YtgndnnpadkoagaaHChainOnea
import Derived.Test.YtgndnnpadkoagaaHChainOneb
import Derived.Test.YtgndnnpadkoagaaHChainOnec
/- Plain laws of maps as lists: what is left of a range, values that are ints. No conditions. -/
set_option linter.unusedSimpArgs false
set_option linter.unusedVariables false
set_option linter.unusedSectionVars false
namespace Go.Rt
open Go.RowKit
section
variable {α : Type} [DecidableEq α]
/-- How many entries have not been handed out. -/
def remN (es : List (α × Value × Nat)) (seen : Array Nat) : Nat := (es.filter fun r => !decide (r.2.2 ∈ seen.toList)).length
theorem rem_zero (es : List (α × Value × Nat)) : remN es #[] = es.length := by
  unfold remN
  rw [List.filter_eq_self.2 (by intro a _; simp)]
theorem rem_le (es : List (α × Value × Nat)) (seen : Array Nat) : remN es seen ≤ es.length := List.length_filter_le _ _
theorem rem_push : ∀ {es : List (α × Value × Nat)} {seen : Array Nat} {q : α × Value × Nat}, (es.map (·.2.2)).Nodup → q ∈ es → q.2.2 ∉ seen.toList → remN es (seen.push q.2.2) + 1 = remN es seen
  | [], _, _, _, h, _ => by cases h
  | x :: es, seen, q, hn, hq, hs => by
    rw [List.map_cons, List.nodup_cons] at hn
    have hnot : ∀ r ∈ es, r.2.2 ≠ x.2.2 := fun r hr e => hn.1 (by rw [← e]; exact List.mem_map_of_mem (f := fun r : α × Value × Nat => r.2.2) hr)
    unfold remN
    by_cases e : q.2.2 = x.2.2
    · have h1 : (es.filter fun r => !decide (r.2.2 ∈ (seen.push q.2.2).toList)) = es.filter fun r => !decide (r.2.2 ∈ seen.toList) := by
        refine List.filter_congr fun r hr => ?_
        have := hnot r hr
        rw [← e] at this
        simp [this]
      rw [List.filter_cons, List.filter_cons, if_neg (by simp [e]), if_pos (by rw [← e]; simpa using hs), h1, List.length_cons]
    · have hq2 : q ∈ es := by
        rcases List.mem_cons.1 hq with rfl | h
        · exact absurd rfl e
        · exact h
      have ih := rem_push hn.2 hq2 hs
      unfold remN at ih
      have hx : (!decide (x.2.2 ∈ (seen.push q.2.2).toList)) = !decide (x.2.2 ∈ seen.toList) := by
        have : x.2.2 ≠ q.2.2 := fun h => e h.symm
        simp [this]
      rw [List.filter_cons, List.filter_cons, hx]
      split
      · rw [List.length_cons, List.length_cons]; omega
      · exact ih
/-- The entries that have been handed out, with one more. -/
theorem seen_push {es : List (α × Value × Nat)} {seen : Array Nat} {q : α × Value × Nat} (hn : (es.map (·.2.2)).Nodup) (hq : q ∈ es) (G : α → Prop) :
    (∃ r ∈ es, r.2.2 ∈ (seen.push q.2.2).toList ∧ G r.1) ↔ (∃ r ∈ es, r.2.2 ∈ seen.toList ∧ G r.1) ∨ G q.1 := by
  have inj : ∀ {es : List (α × Value × Nat)}, (es.map (·.2.2)).Nodup → ∀ a ∈ es, ∀ b ∈ es, a.2.2 = b.2.2 → a = b := by
    intro es
    induction es with
    | nil => intro _ a h; cases h
    | cons x es ih =>
      intro hn a ha b hb e
      rw [List.map_cons, List.nodup_cons] at hn
      have hnot : ∀ r ∈ es, r.2.2 ≠ x.2.2 := fun r hr e => hn.1 (by rw [← e]; exact List.mem_map_of_mem (f := fun r : α × Value × Nat => r.2.2) hr)
      rcases List.mem_cons.1 ha with ea | ha2
      · rcases List.mem_cons.1 hb with eb | hb2
        · rw [ea, eb]
        · exact absurd (by rw [← ea]; exact e.symm) (hnot b hb2)
      · rcases List.mem_cons.1 hb with eb | hb2
        · exact absurd (by rw [← eb]; exact e) (hnot a ha2)
        · exact ih hn.2 a ha2 b hb2 e
  constructor
  · rintro ⟨r, hr, hs, hG⟩
    rw [Array.toList_push, List.mem_append, List.mem_singleton] at hs
    rcases hs with hs | hs
    · exact .inl ⟨r, hr, hs, hG⟩
    · right
      have := inj hn r hr q hq hs
      subst this; exact hG
  · rintro (⟨r, hr, hs, hG⟩ | hG)
    · exact ⟨r, hr, by rw [Array.toList_push]; exact List.mem_append_left _ hs, hG⟩
    · exact ⟨q, hq, by simp, hG⟩
/-- A map's value that is an int; 0 where there is none. -/
def valA (a : α) (l : List (α × Value × Nat)) : Int := match getA a l with | some (.int _ z) => z | _ => 0
/-- A map's values are ints, from 0 to a number. -/
def IntsTo (B : Int) (l : List (α × Value × Nat)) : Prop := ∀ q ∈ l, ∃ z : Int, q.2.1 = .int .i64 z ∧ 0 ≤ z ∧ z ≤ B
theorem getA_in {a : α} {u : Value} : ∀ {l : List (α × Value × Nat)}, getA a l = some u → ∃ q ∈ l, q.1 = a ∧ q.2.1 = u
  | [], h => by simp [getA] at h
  | q :: l, h => by
    by_cases e : q.1 = a
    · simp only [getA, if_pos e] at h
      exact ⟨q, .head _, e, by simpa using h⟩
    · simp only [getA, if_neg e] at h
      obtain ⟨x, hx, h1, h2⟩ := getA_in h
      exact ⟨x, .tail _ hx, h1, h2⟩
theorem valA_in {B : Int} {l : List (α × Value × Nat)} (h : IntsTo B l) (hB : 0 ≤ B) (a : α) : 0 ≤ valA a l ∧ valA a l ≤ B := by
  unfold valA
  cases hg : getA a l with
  | none => exact ⟨Int.le_refl _, hB⟩
  | some u =>
    obtain ⟨q, hq, _, h2⟩ := getA_in hg
    obtain ⟨z, h3, h4⟩ := h q hq
    rw [← h2, h3]; exact h4
theorem IntsTo.put {B B' : Int} {l : List (α × Value × Nat)} (h : IntsTo B l) (hB : B ≤ B') {a : α} {z : Int} (hz : 0 ≤ z ∧ z ≤ B') (ck : Nat) : IntsTo B' (putA a (.int .i64 z) ck l) := by
  intro q hq
  rcases mem_putA hq with ⟨_, h2⟩ | h2
  · exact ⟨z, h2, hz⟩
  · obtain ⟨y, h3, h4⟩ := h q h2
    exact ⟨y, h3, by omega⟩
theorem IntsTo.le {B B' : Int} {l : List (α × Value × Nat)} (h : IntsTo B l) (hB : B ≤ B') : IntsTo B' l := fun q hq => by
  obtain ⟨y, h3, h4⟩ := h q hq
  exact ⟨y, h3, by omega⟩
end
/-- So many numbers, each once, from 0 to below a number. -/
theorem nodup_bound : ∀ (n : Nat) (l : List Int), l.Nodup → (∀ z ∈ l, 0 ≤ z ∧ z < (n : Int)) → l.length ≤ n
  | 0, l, _, h => by
    cases l with
    | nil => simp
    | cons z l => have := h z (.head _); omega
  | n + 1, l, hn, h => by
    by_cases hm : (n : Int) ∈ l
    · have h1 := nodup_bound n (l.erase n) (hn.erase _) fun z hz => by
        have h2 := List.mem_of_mem_erase hz
        have h3 := h z h2
        have h4 : z ≠ (n : Int) := fun e => by
          subst e
          exact (List.Nodup.not_mem_erase hn) hz
        omega
      have h2 := List.length_erase_of_mem hm
      have h3 : 0 < l.length := List.length_pos_of_mem hm
      omega
    · have := nodup_bound n l hn fun z hz => by
        have h3 := h z hz
        have : z ≠ (n : Int) := fun e => hm (e ▸ hz)
        omega
      omega
section
variable {P : Program} {n : Nat} {ρ : Nat → Value} {ds : List Deferred} {w w0 : World} {L : List (Nat × Obj)} {d : Option Tmp} {ty : TypeId} {p : String} {e : Array Edge} {g : Option (Nat × Bool)} {α : Type} [DecidableEq α] {kv : α → Value} {ok : α → Prop}
/-- A lookup in a map of ints. -/
theorem G_lookI {mt kt el : TypeId} {x y : Operand} {a : α} {l : List (α × Value × Nat)} {m i ck : Nat} {B : Int} (hU : P.underlying mt = some (.map kt el)) (hK : KeyG P kt kv ok) (hok : ok a) (hall : ∀ q ∈ l, ok q.1) (hB : IntsTo B l)
    (hz : ∀ w, (zeroValue el).run P w = .ok (.int .i64 0) w) (hst : St w0 w L) (ho : okO n x = true) (ho1 : okO n y = true) (hx : ev ρ x = .map (some m)) (hy : ev ρ y = kv a) (hi : L[i]? = some (m, .map (ents kv l).toArray ck)) :
    Yd P (A n ρ ds) ⟨d, .lookup mt x y false, ty, p, e, g⟩ w (.int .i64 (valA a l)) := by
  cases hg : getA a l with
  | none =>
    have := G_look1N (d := d) (ty := ty) (p := p) (e := e) (g := g) (ds := ds) hU hK hok hall hz hst ho ho1 hx hy hi hg
    unfold valA; rw [hg]; exact this
  | some u =>
    have := G_look1S (d := d) (ty := ty) (p := p) (e := e) (g := g) (ds := ds) hU hK hok hall hst ho ho1 hx hy hi hg
    obtain ⟨q, hq, _, h2⟩ := getA_in hg
    obtain ⟨z, h3, _⟩ := hB q hq
    unfold valA; rw [hg, ← h2, h3]
    rw [← h2, h3] at this
    exact this
end
end Go.Rt
/- The walking engine, part 20: lookups in maps whose values are told by their keys. No conditions. -/
set_option linter.unusedSimpArgs false
set_option linter.unusedVariables false
set_option linter.unusedSectionVars false
namespace Go.Rt
open Go.RowKit
variable {P : Program} {n : Nat} {ρ : Nat → Value} {ds : List Deferred} {w w0 : World} {L : List (Nat × Obj)} {d : Option Tmp} {ty : TypeId} {p : String} {e : Array Edge} {g : Option (Nat × Bool)} {α : Type} [DecidableEq α] {kv : α → Value} {ok : α → Prop}
theorem getA_key {a : α} {l : List (α × Value × Nat)} : getA a l = none ↔ a ∉ l.map (·.1) := by
  rw [getA_none]
  constructor
  · intro h hm
    obtain ⟨q, hq, e⟩ := List.mem_map.1 hm
    exact h q hq e
  · intro h q hq e
    exact h (e ▸ List.mem_map_of_mem (f := fun x : α × Value × Nat => x.1) hq)
/-- A lookup in a map whose values are told by their keys, and by the zero where there is none. -/
theorem G_look2V {mt kt el : TypeId} {x y : Operand} {a : α} {l : List (α × Value × Nat)} {m i ck : Nat} (V : α → Value) (hU : P.underlying mt = some (.map kt el)) (hK : KeyG P kt kv ok) (hok : ok a) (hall : ∀ q ∈ l, ok q.1) (hV : ∀ q ∈ l, q.2.1 = V q.1)
    (hz : a ∉ l.map (·.1) → ∀ w, (zeroValue el).run P w = .ok (V a) w) (hst : St w0 w L) (ho : okO n x = true) (ho1 : okO n y = true) (hx : ev ρ x = .map (some m)) (hy : ev ρ y = kv a) (hi : L[i]? = some (m, .map (ents kv l).toArray ck)) :
    Yd P (A n ρ ds) ⟨d, .lookup mt x y true, ty, p, e, g⟩ w (.tuple #[V a, .bool (decide (a ∈ l.map (·.1)))]) := by
  cases hg : getA a l with
  | none =>
    have hn := getA_key.1 hg
    have := G_look2N (d := d) (ty := ty) (p := p) (e := e) (g := g) (ds := ds) hU hK hok hall (hz hn) hst ho ho1 hx hy hi hg
    rw [decide_eq_false hn]; exact this
  | some u =>
    have := G_look2S (d := d) (ty := ty) (p := p) (e := e) (g := g) (ds := ds) hU hK hok hall hst ho ho1 hx hy hi hg
    obtain ⟨q, hq, h1, h2⟩ := getA_in hg
    have hm : a ∈ l.map (·.1) := h1 ▸ List.mem_map_of_mem (f := fun x : α × Value × Nat => x.1) hq
    rw [decide_eq_true hm]
    have h3 := hV q hq
    rw [h1] at h3
    rw [← h3, h2]; exact this
/-- Keys that are arrays of ints. -/
theorem keyTy_array {t el : TypeId} {k : Nat} (hu : P.underlying t = some (.array k el)) (hel : P.underlying el = some (.int .i64)) (hs : ∀ w, (sizeOf el).run P w = .ok 1 w) (hf : flatInts P t k = true) : KeyTy P t k where
  chk := fun em l w hl => by
    unfold ia
    exact run_checkKey (dd := 9998) hu (by first | simpa using hl | omega) hel hs
  eq := fun l m w hl hm => by
    show (Op.equalIn (9998 + 2) t (ia l) (ia m)).run P w = _
    exact run_equal_flat 9998 (by rw [hl]; exact hf) (by rw [hl, hm])
  desc := by
    refine ⟨_, hu, fun l e es => ?_, fun l w => ?_⟩
    · simp [Instr.findNow, Instr.sameNow]
    · simp [Instr.findKey, Sem.run_bind, run_underlying hu, Result.andThen, Instr.findNow]
/-- One cell of one row set anew. -/
theorem flat_set {sz k : Nat} {v : Value} (hk : k < sz) : ∀ {rows : List (List Value)} {i : Nat}, (∀ row ∈ rows, row.length = sz) → (hi : i < rows.length) → rows.flatten.set (i * sz + k) v = (rows.set i (rows[i].set k v)).flatten
  | r :: rows, 0, hr, _ => by
    have h1 := hr r (.head _)
    simp only [List.flatten_cons, List.set_cons_zero, List.getElem_cons_zero, Nat.zero_mul, Nat.zero_add]
    rw [List.set_append_left _ _ (by omega)]
  | r :: rows, i + 1, hr, hi => by
    have h1 := hr r (.head _)
    simp only [List.flatten_cons, List.set_cons_succ, List.getElem_cons_succ]
    rw [List.set_append_right _ _ (by rw [h1, Nat.succ_mul]; omega), h1, show (i + 1) * sz + k - sz = i * sz + k by rw [Nat.succ_mul]; omega]
    rw [flat_set hk (fun x hx => hr x (.tail _ hx)) (by simpa using hi)]
theorem take_cell {cs : List Value} {rows : List (List Value)} {n sz i k : Nat} {v : Value} (hk : k < sz) (hr : ∀ row ∈ rows, row.length = sz) (hi : i < rows.length) (h : cs.take (n * sz) = rows.flatten) : (cs.set (i * sz + k) v).take (n * sz) = (rows.set i (rows[i].set k v)).flatten := by
  rw [List.take_set, h, flat_set hk hr hi]
theorem own_some2 {t : TypeId} {sz n c : Nat} {a : Option Addr} {xs : List Value} {B : List (Nat × Obj)} (h : Own (.slice a n c) t sz n xs B) (hn : 0 < n) : ∃ b cs, a = some ⟨b, 0, none⟩ ∧ B = [(b, blk t cs)] ∧ n ≤ c ∧ c ≤ maxLen ∧ cs.length = c * sz ∧ cs.take (n * sz) = xs := by
  rcases h.2 with ⟨_, h0, _⟩ | ⟨b, cap, cs, h1, h2, h3, h4, h5, h6⟩
  · omega
  · injection h1 with e1 _ e3
    subst e3
    exact ⟨b, cs, e1, h2, h3, h4, h5, h6⟩
theorem own_mk {t : TypeId} {sz n c b : Nat} {xs cs : List Value} (hl : xs.length = n * sz) (h3 : n ≤ c) (h4 : c ≤ maxLen) (h5 : cs.length = c * sz) (h6 : cs.take (n * sz) = xs) : Own (.slice (some ⟨b, 0, none⟩) n c) t sz n xs [(b, blk t cs)] := ⟨hl, .inr ⟨b, c, cs, rfl, rfl, h3, h4, h5, h6⟩⟩
end Go.Rt
/- Walks of this seat, printed by gen.py over the engine: what each function returns, in whatever world. No conditions but those of each contract. -/
set_option linter.unusedVariables false
set_option linter.unusedSimpArgs false
set_option maxRecDepth 20000
namespace Go.Proofs
open Go.Rt Go.Rt.Ch
open Go.Rt.Ha (firstE firstE_step firstE_stop firstE_end failE nameE felt spanL upto span_mem listL fewest fewTo bit before fewStep drop_lt drop_get drop_next drop_done drop_notin set_take set_zero take_less)
attribute [local irreducible] WL WC Con Yd At Ats Sl Agree DW
end Go.Proofs
/- Walks of this seat, printed by gen.py over the engine: what each function returns, in whatever world. No conditions but those of each contract. -/
set_option linter.unusedVariables false
set_option linter.unusedSimpArgs false
set_option maxRecDepth 20000
namespace Go.Proofs
open Go.Rt Go.Rt.Ch
open Go.Rt.Ha (firstE firstE_step firstE_stop firstE_end failE nameE felt spanL upto span_mem listL fewest fewTo bit before fewStep drop_lt drop_get drop_next drop_done drop_notin set_take set_zero take_less)
attribute [local irreducible] WL WC Con Yd At Ats Sl Agree DW

end Go.Proofs
/- Plain words of the chain layer: keys of what comes next, one way more. No conditions. -/
set_option linter.unusedSimpArgs false
set_option linter.unusedVariables false
namespace Go.Rt.Ch
open Go.Rt.Ha
abbrev kvI : Int → Value := fun z => Value.int .i64 z
theorem fit_of {l : List Int} {c : Ctr} {k : Nat} {w : Way} (h : [w.counts - l.getD k 0].any (out (-c.skip) c.twice) = false) : kFit c l k w := by
  simp only [List.any_cons, List.any_nil, Bool.or_false] at h
  have := out_f.1 h
  unfold kFit ld; omega
theorem fit_not {l : List Int} {c : Ctr} {k : Nat} {w : Way} (h : [w.counts - l.getD k 0].any (out (-c.skip) c.twice) = true) : ¬ kFit c l k w := by
  simp only [List.any_cons, List.any_nil, Bool.or_false] at h
  intro hk
  rw [out_f.2 (by unfold kFit ld at hk; omega)] at h; cases h
theorem keys_yes {c : Ctr} {l : List Int} {q : Quest} {k : Nat} {t : Int} {ws : List Way} {j : Nat} {ks ks' : List Int} {A : Int → Prop} {y : Int} (h : ∀ z, z ∈ ks ↔ A z ∨ GoodL c l q k t (ws.take j) z) (hj : j < ws.length) (hf : kFit c l k ws[j]) (hy : y = kOne l q k t ws[j]) (hk : ∀ z, z ∈ ks' ↔ z = y ∨ z ∈ ks) : ∀ z, z ∈ ks' ↔ A z ∨ GoodL c l q k t (ws.take (j + 1)) z := by
  intro z
  rw [hk, h, good_yes hj hf, hy]
  constructor
  · rintro (h | h | h)
    · exact .inr (.inr h)
    · exact .inl h
    · exact .inr (.inl h)
  · rintro (h | h | h)
    · exact .inr (.inl h)
    · exact .inr (.inr h)
    · exact .inl h
theorem keys_no {c : Ctr} {l : List Int} {q : Quest} {k : Nat} {t : Int} {ws : List Way} {j : Nat} {ks : List Int} {A : Int → Prop} (h : ∀ z, z ∈ ks ↔ A z ∨ GoodL c l q k t (ws.take j) z) (hj : j < ws.length) (hf : ¬ kFit c l k ws[j]) : ∀ z, z ∈ ks ↔ A z ∨ GoodL c l q k t (ws.take (j + 1)) z := by
  intro z; rw [h, good_no hj hf]
theorem kone_a {l : List Int} {q : Quest} {k : Nat} {t : Int} {w : Way} (h : 100 ≤ t) : w.shows + 100 = kOne l q k t w := by unfold kOne; rw [decide_eq_true h]; rfl
theorem kone_b {l : List Int} {q : Quest} {k : Nat} {t : Int} {w : Way} (h : q k (ld l k) w = true) : w.shows + 100 = kOne l q k t w := by unfold kOne; rw [h, Bool.or_true]; rfl
theorem kone_c {l : List Int} {q : Quest} {k : Nat} {t : Int} {w : Way} (h1 : t < 100) (h : q k (ld l k) w = false) : w.shows = kOne l q k t w := by unfold kOne; rw [h, decide_eq_false (by omega)]; simp
theorem keys_start {c : Ctr} {l : List Int} {q : Quest} {k : Nat} {t : Int} {ws : List Way} {ks : List Int} {A : Int → Prop} (h : ∀ z, z ∈ ks ↔ A z) : ∀ z, z ∈ ks ↔ A z ∨ GoodL c l q k t (ws.take 0) z := by
  intro z; rw [h]
  exact ⟨.inl, fun h => h.resolve_right (good_zero c l q k t ws z)⟩
/-- One entry of what is now has been gone through. -/
theorem keys_round {c : Ctr} {h : Hour} {l : List Int} {q : Quest} {k : Nat} {es : List (Int × Value × Nat)} {seen : Array Nat} {r : Int × Value × Nat} {ks : List Int} {j : Nat} (hn : (es.map (·.2.2)).Nodup) (hr : r ∈ es) (hj : (waysC c h k (r.1 % 100)).length ≤ j)
    (hk : ∀ z, z ∈ ks ↔ (∃ x ∈ es, x.2.2 ∈ seen.toList ∧ Good c h l q k z x.1) ∨ GoodL c l q k r.1 ((waysC c h k (r.1 % 100)).take j) z) : ∀ z, z ∈ ks ↔ ∃ x ∈ es, x.2.2 ∈ (seen.push r.2.2).toList ∧ Good c h l q k z x.1 := by
  intro z
  rw [hk, seen_push hn hr (fun t => Good c h l q k z t), good_all _ _ _ _ _ _ _ hj]; rfl
theorem keys_end {c : Ctr} {n : Nat} (hc : c.Ok n) {h : Hour} {l : List Int} {q : Quest} {k : Nat} (hl : h.lo ≤ ld l k ∧ ld l k ≤ h.hi) (h0 : 0 ≤ h.lo) {es : List (Int × Value × Nat)} {seen : Array Nat} {nx : List Int} (hk : KeysOf (es.map (·.1)) (fareTo c l q k)) (hall : ∀ x ∈ es, x.2.2 ∈ seen.toList)
    (hn : ∀ z, z ∈ nx ↔ ∃ x ∈ es, x.2.2 ∈ seen.toList ∧ Good c h l q k z x.1) : KeysOf nx (fareTo c l q (k + 1)) := by
  refine keys_next hc hl h0 hk fun z => ?_
  rw [hn]
  constructor
  · rintro ⟨x, hx, _, hg⟩; exact ⟨x.1, List.mem_map_of_mem (f := fun x : Int × Value × Nat => x.1) hx, hg⟩
  · rintro ⟨t, ht, hg⟩
    obtain ⟨x, hx, rfl⟩ := List.mem_map.1 ht
    exact ⟨x, hx, hall x hx, hg⟩
theorem keys_many {c : Ctr} {n : Nat} (hc : c.Ok n) {l : List Int} {q : Quest} {k : Nat} {es : List (Int × Value × Nat)} (hn : (es.map (·.1)).Nodup) (hk : KeysOf (es.map (·.1)) (fareTo c l q k)) : es.length ≤ 200 := by
  have := nodup_bound 200 (es.map (·.1)) hn fun z hz => keys_in hc hk hz
  rwa [List.length_map] at this
theorem key_in {c : Ctr} {n : Nat} (hc : c.Ok n) {l : List Int} {q : Quest} {k : Nat} {es : List (Int × Value × Nat)} (hk : KeysOf (es.map (·.1)) (fareTo c l q k)) {r : Int × Value × Nat} (hr : r ∈ es) : 0 ≤ r.1 ∧ r.1 < 200 := keys_in hc hk (List.mem_map_of_mem (f := fun x : Int × Value × Nat => x.1) hr)
theorem not_end {c : Ctr} {n : Nat} (hc : c.Ok n) {l : List Int} {q : Quest} {k : Nat} {es : List (Int × Value × Nat)} {seen : Array Nat} (hk : KeysOf (es.map (·.1)) (fareTo c l q k)) (hall : ∀ x ∈ es, x.2.2 ∈ seen.toList) {x : Bool} (hx : x = true ↔ ∃ r ∈ es, r.2.2 ∈ seen.toList ∧ r.1 < 100) : x = notF c l q k := by
  rw [← keys_not hc hk, Bool.eq_iff_iff, hx, List.any_eq_true]
  constructor
  · rintro ⟨r, hr, _, h⟩; exact ⟨r.1, List.mem_map_of_mem (f := fun x : Int × Value × Nat => x.1) hr, by simpa using h⟩
  · rintro ⟨t, ht, h⟩
    obtain ⟨r, hr, rfl⟩ := List.mem_map.1 ht
    exact ⟨r, hr, hall r hr, by simpa using h⟩
theorem met_end {c : Ctr} {n : Nat} (hc : c.Ok n) {l : List Int} {q : Quest} {k : Nat} {es : List (Int × Value × Nat)} {seen : Array Nat} (hk : KeysOf (es.map (·.1)) (fareTo c l q k)) (hall : ∀ x ∈ es, x.2.2 ∈ seen.toList) {x : Bool} (hx : x = true ↔ ∃ r ∈ es, r.2.2 ∈ seen.toList ∧ 100 ≤ r.1) : x = metF c l q k := by
  rw [← keys_met hc hk, Bool.eq_iff_iff, hx, List.any_eq_true]
  constructor
  · rintro ⟨r, hr, _, h⟩; exact ⟨r.1, List.mem_map_of_mem (f := fun x : Int × Value × Nat => x.1) hr, by simpa using h⟩
  · rintro ⟨t, ht, h⟩
    obtain ⟨r, hr, rfl⟩ := List.mem_map.1 ht
    exact ⟨r, hr, hall r hr, by simpa using h⟩
theorem seen_or {es : List (Int × Value × Nat)} {seen : Array Nat} {r : Int × Value × Nat} (hn : (es.map (·.2.2)).Nodup) (hr : r ∈ es) (G : Int → Prop) {x y : Bool} (hx : x = true ↔ ∃ r ∈ es, r.2.2 ∈ seen.toList ∧ G r.1) (hy : y = true ↔ x = true ∨ G r.1) : y = true ↔ ∃ x ∈ es, x.2.2 ∈ (seen.push r.2.2).toList ∧ G x.1 := by
  rw [seen_push hn hr G, hy, hx]
theorem seen_none {es : List (Int × Value × Nat)} (G : Int → Prop) : (false = true) ↔ ∃ r ∈ es, r.2.2 ∈ (#[] : Array Nat).toList ∧ G r.1 := by simp
theorem keys_none {es : List (Int × Value × Nat)} (G : Int → Int → Prop) : ∀ z, z ∈ ([] : List (Int × Value × Nat)).map (·.1) ↔ ∃ x ∈ es, x.2.2 ∈ (#[] : Array Nat).toList ∧ G z x.1 := by intro z; simp
theorem mok_one {v : Value} {a : Int} : MOk (putA a v 0 []) (if idxA a ([] : List (Int × Value × Nat)) 0 = none then 0 + 1 else 0) := mok_nil.put a v
theorem ints_nil {B : Int} : IntsTo B ([] : List (Int × Value × Nat)) := by intro q h; cases h
end Go.Rt.Ch
/- Plain words of the chain layer: truths, one after the other, as lists of four numbers. No conditions. -/
set_option linter.unusedSimpArgs false
set_option linter.unusedVariables false
namespace Go.Rt.Ch
open Go.Rt.Ha
def pad4 (h : List Int) : List Int := h ++ List.replicate (4 - h.length) 0
theorem pad4_len {h : List Int} (hl : h.length ≤ 4) : (pad4 h).length = 4 := by simp [pad4]; omega
theorem pad4_inj {a b : List Int} (h : a.length = b.length) (e : pad4 a = pad4 b) : a = b := by
  unfold pad4 at e
  exact (List.append_inj e h).1
theorem pad4_at (h : List Int) (b : Nat) : (pad4 h).getD b 0 = h.getD b 0 := by
  unfold pad4
  by_cases hb : b < h.length
  · simp [List.getD, List.getElem?_append_left hb]
  · rw [List.getD, List.getD, List.getElem?_append_right (by omega), List.getElem?_eq_none (by omega : h.length ≤ b)]
    by_cases h2 : b - h.length < 4 - h.length
    · simp [List.getElem?_replicate, h2]
    · simp [List.getElem?_replicate, h2]
theorem ld_pad (h : List Int) (b : Nat) : ld (pad4 h) b = ld h b := pad4_at h b
theorem fare_pad (c : Ctr) (l : List Int) (q : Quest) : ∀ k, fareTo c (pad4 l) q k = fareTo c l q k
  | 0 => rfl
  | k + 1 => by simp only [fareTo, fare_pad c l q k, ld_pad]
theorem not_pad (c : Ctr) (l : List Int) (q : Quest) (n : Nat) : notF c (pad4 l) q n = notF c l q n := by unfold notF; rw [fare_pad]
theorem met_pad (c : Ctr) (l : List Int) (q : Quest) (n : Nat) : metF c (pad4 l) q n = metF c l q n := by unfold metF; rw [fare_pad]
theorem can_pad (b : Board) (l : List Int) : canL b (pad4 l) = canL b l := by unfold canL; simp only [not_pad, met_pad]
def segF (b : Board) (d : Nat) (pre : List Int) : List (List Int) := ((felt ((bun b).drop d)).map (pre ++ ·)).map pad4
def segK (b : Board) (d : Nat) (pre : List Int) : List (List Int) := (((felt ((bun b).drop d)).map (pre ++ ·)).filter (canL b)).map pad4
theorem segK_all (b : Board) : segK b 0 [] = (truths b).map pad4 := by simp [segK, truths]
theorem segF_all (b : Board) : segF b 0 [] = (felt (bun b)).map pad4 := by simp [segF]
theorem segF_leaf {b : Board} {d : Nat} {pre : List Int} (hd : b.hours.length ≤ d) : segF b d pre = [pad4 pre] := by
  unfold segF; rw [List.drop_of_length_le (by rw [show (bun b).length = b.hours.length from by simp [bun]]; exact hd)]; simp [felt]
theorem segK_leaf {b : Board} {d : Nat} {pre : List Int} (hd : b.hours.length ≤ d) : segK b d pre = if canL b pre then [pad4 pre] else [] := by
  unfold segK; rw [List.drop_of_length_le (by rw [show (bun b).length = b.hours.length from by simp [bun]]; exact hd)]
  simp only [felt, List.map_cons, List.map_nil, List.append_nil, List.filter_cons, List.filter_nil]
  split <;> rfl
def restF (b : Board) (d : Nat) (pre : List Int) (xs : List Int) : List (List Int) := xs.flatMap fun x => segF b (d + 1) (pre ++ [x])
def restK (b : Board) (d : Nat) (pre : List Int) (xs : List Int) : List (List Int) := xs.flatMap fun x => segK b (d + 1) (pre ++ [x])
theorem felt_node {b : Board} {d : Nat} (hd : d < b.hours.length) (pre : List Int) : (felt ((bun b).drop d)).map (pre ++ ·) = (spanL b.hours[d].lo b.hours[d].hi).flatMap fun x => (felt ((bun b).drop (d + 1))).map ((pre ++ [x]) ++ ·) := by
  have hl : d < (bun b).length := by simpa [bun] using hd
  rw [List.drop_eq_getElem_cons hl]
  have e : (bun b)[d] = ⟨b.hours[d].lo, b.hours[d].hi, 0, 0⟩ := by simp [bun]
  rw [e]
  simp only [felt, List.map_flatMap, List.map_map]
  refine congrArg (List.flatMap · _) ?_
  funext x
  refine List.map_congr_left fun y _ => ?_
  simp
theorem segF_node {b : Board} {d : Nat} {pre : List Int} (hd : d < b.hours.length) : segF b d pre = restF b d pre (spanL b.hours[d].lo b.hours[d].hi) := by
  unfold segF restF; rw [felt_node hd, List.map_flatMap]; rfl
theorem filter_flat {α β : Type} (p : β → Bool) (f : α → List β) : ∀ l : List α, (l.flatMap f).filter p = l.flatMap fun x => (f x).filter p
  | [] => rfl
  | a :: l => by simp only [List.flatMap_cons, List.filter_append, filter_flat p f l]
theorem segK_node {b : Board} {d : Nat} {pre : List Int} (hd : d < b.hours.length) : segK b d pre = restK b d pre (spanL b.hours[d].lo b.hours[d].hi) := by
  unfold segK restK; rw [felt_node hd, filter_flat, List.map_flatMap]; rfl
theorem restF_next {b : Board} {d : Nat} {pre : List Int} {lo : Int} {q n : Nat} (h : q < n) : restF b d pre (upto (lo + q) (n - q)) = segF b (d + 1) (pre ++ [lo + q]) ++ restF b d pre (upto (lo + (q + 1 : Nat)) (n - (q + 1))) := by rw [upto_step h]; rfl
theorem restF_done {b : Board} {d : Nat} {pre : List Int} {lo : Int} {q n : Nat} (h : n ≤ q) : restF b d pre (upto (lo + q) (n - q)) = [] := by rw [show n - q = 0 by omega]; rfl
theorem restK_next {b : Board} {d : Nat} {pre : List Int} {lo : Int} {q n : Nat} (h : q < n) : restK b d pre (upto (lo + q) (n - q)) = segK b (d + 1) (pre ++ [lo + q]) ++ restK b d pre (upto (lo + (q + 1 : Nat)) (n - (q + 1))) := by rw [upto_step h]; rfl
theorem restK_done {b : Board} {d : Nat} {pre : List Int} {lo : Int} {q n : Nat} (h : n ≤ q) : restK b d pre (upto (lo + q) (n - q)) = [] := by rw [show n - q = 0 by omega]; rfl
theorem pads_nodup (b : Board) : ((felt (bun b)).map pad4).Nodup := by
  have h1 := felt_nodup (bun b)
  have h2 : ∀ h ∈ felt (bun b), h.length = (bun b).length := fun h hh => ((felt_in _ _).1 hh).1
  revert h1 h2
  generalize felt (bun b) = L
  induction L with
  | nil => intro _ _; simp
  | cons x L ih =>
    intro hn hl
    rw [List.nodup_cons] at hn
    rw [List.map_cons, List.nodup_cons]
    refine ⟨fun hm => ?_, ih hn.2 fun h hh => hl h (.tail _ hh)⟩
    obtain ⟨y, hy, e⟩ := List.mem_map.1 hm
    have := pad4_inj (by rw [hl y (.tail _ hy), hl x (.head _)]) e
    subst this; exact hn.1 hy
theorem truth_felt {b : Board} {l : List Int} (h : l ∈ truths b) : l ∈ felt (bun b) := (List.mem_filter.1 h).1
theorem truth_in {b : Board} {l : List Int} (h : l ∈ truths b) : l.length = b.hours.length ∧ ∀ i (hi : i < b.hours.length), b.hours[i].lo ≤ ld l i ∧ ld l i ≤ b.hours[i].hi := by
  obtain ⟨h1, h2⟩ := (felt_in _ _).1 (truth_felt h)
  have hl : (bun b).length = b.hours.length := by simp [bun]
  refine ⟨by rw [h1, hl], fun i hi => ?_⟩
  have := h2 i (by rw [hl]; exact hi)
  have e : (bun b)[i]'(by rw [hl]; exact hi) = ⟨b.hours[i].lo, b.hours[i].hi, 0, 0⟩ := by simp [bun]
  rw [e] at this; exact this
theorem start_last4 {b : Board} (hok : b.Ok) : [-1, 0, 0, 0] ∉ (felt (bun b)).map pad4 := by
  intro hm
  obtain ⟨l, hl, e⟩ := List.mem_map.1 hm
  have h0 : ld (pad4 l) 0 = -1 := by rw [e]; rfl
  rw [ld_pad] at h0
  obtain ⟨h1, h2⟩ := (felt_in _ _).1 hl
  have hll : (bun b).length = b.hours.length := by simp [bun]
  by_cases hn : 0 < b.hours.length
  · have := h2 0 (by omega)
    have e2 : (bun b)[0]'(by omega) = ⟨b.hours[0].lo, b.hours[0].hi, 0, 0⟩ := by simp [bun]
    rw [e2] at this
    have hlo := (hok.hour _ (List.getElem_mem hn)).lo
    have h3 : at_ l 0 = ld l 0 := rfl
    rw [h3, h0] at this
    simp only at this; omega
  · have : l = [] := List.eq_nil_of_length_eq_zero (by omega)
    subst this; simp [ld] at h0
theorem cur_pad4 {cur pre : List Int} {d : Nat} (hl : cur.length = 4) (hp : pre.length = d) (hd : d ≤ 4) (hk : cur.take d = pre) (hz : ∀ j, d ≤ j → cur.getD j 0 = 0) : cur = pad4 pre := by
  apply List.ext_getElem?
  intro i
  by_cases hi : i < 4
  · have e1 : cur[i]? = some (cur.getD i 0) := by rw [List.getD, List.getElem?_eq_getElem (by omega)]; rfl
    have e2 : (pad4 pre)[i]? = some ((pad4 pre).getD i 0) := by rw [List.getD, List.getElem?_eq_getElem (by rw [pad4_len (by omega)]; exact hi)]; rfl
    rw [e1, e2, pad4_at]
    by_cases h : i < d
    · subst hk
      rw [List.getD, List.getD, List.getElem?_take, if_pos h]
    · rw [hz i (by omega), List.getD, List.getElem?_eq_none (by omega)]; rfl
  · rw [List.getElem?_eq_none (by omega), List.getElem?_eq_none (by rw [pad4_len (by omega)]; omega)]
/-- Whether the first so many counters can fare by these loads. -/
def canTo (b : Board) (l : List Int) (n : Nat) : Bool := (b.ctrs.take n).all fun c => notF c l slips b.hours.length || metF c l slips b.hours.length
theorem canTo_y {b : Board} {l : List Int} {i : Nat} (hi : i < b.ctrs.length) (h : canTo b l i = true) (h2 : notF (ctrOf b i) l slips b.hours.length = true ∨ metF (ctrOf b i) l slips b.hours.length = true) : canTo b l (i + 1) = true := by
  unfold canTo at *
  rw [List.take_succ_eq_append_getElem hi, List.all_append, h]
  rw [ctr_at hi] at h2
  simpa using h2
theorem canTo_all {b : Board} {l : List Int} {i : Nat} (hi : b.ctrs.length ≤ i) (h : canTo b l i = true) : canL b l = true := by
  unfold canTo at h; rw [List.take_of_length_le hi] at h; exact h
theorem can_n {b : Board} {l : List Int} {i : Nat} (hi : i < b.ctrs.length) (h1 : notF (ctrOf b i) l slips b.hours.length = false) (h2 : metF (ctrOf b i) l slips b.hours.length = false) : canL b l = false := by
  cases hc : canL b l with
  | false => rfl
  | true =>
    unfold canL at hc
    have := List.all_eq_true.1 hc _ (List.getElem_mem hi)
    rw [ctr_at hi] at h1 h2
    rw [h1, h2] at this; cases this
theorem pre_next {b : Board} {d : Nat} {pre : List Int} {x : Int} (hd : d < b.hours.length) (hp : pre.length = d) (h : ∀ j (hj : j < b.hours.length), j < d → b.hours[j].lo ≤ ld pre j ∧ ld pre j ≤ b.hours[j].hi) (hx : b.hours[d].lo ≤ x ∧ x ≤ b.hours[d].hi) : ∀ j (hj : j < b.hours.length), j < d + 1 → b.hours[j].lo ≤ ld (pre ++ [x]) j ∧ ld (pre ++ [x]) j ≤ b.hours[j].hi := by
  intro j hj h1
  by_cases e : j < d
  · have := h j hj e
    have e2 : ld (pre ++ [x]) j = ld pre j := by simp [ld, List.getD, List.getElem?_append_left (by omega : j < pre.length)]
    rw [e2]; exact this
  · have : j = d := by omega
    subst this
    have e2 : ld (pre ++ [x]) j = x := by simp [ld, List.getD, ← hp]
    rw [e2]; exact hx
end Go.Rt.Ch
/- Plain words of the chain layer: errors by numbers, spans of truths, one truth more. No conditions. -/
set_option linter.unusedSimpArgs false
set_option linter.unusedVariables false
namespace Go.Rt.Ch
open Go.Rt.Ha
/-- ErrNone, if a number is not from 0 to below the one behind it, by turns. -/
def pairsE : List Int → Int
  | n :: m :: r => if out 0 (m - 1) n then 4 else pairsE r
  | _ => 0
def orE (a e : Int) : Int := if a ≠ 0 then a else e
theorem pairs_end {ns : List Int} {j : Nat} (h : ns.length ≤ 2 * j + 1) : pairsE (ns.drop (2 * j)) = 0 := by
  match hd : ns.drop (2 * j) with
  | [] => rfl
  | [x] => rfl
  | x :: y :: r => have := congrArg List.length hd; simp at this; omega
theorem pairs_cons {ns : List Int} {j : Nat} (h : 2 * j + 1 < ns.length) : ns.drop (2 * j) = ns[2 * j] :: ns[2 * j + 1] :: ns.drop (2 * (j + 1)) := by
  rw [List.drop_eq_getElem_cons (by omega), List.drop_eq_getElem_cons (by omega)]; rfl
theorem pairs_next {ns : List Int} {j : Nat} (h : 2 * j + 1 < ns.length) (ho : [ns[2 * j]].any (out 0 (ns[2 * j + 1] - 1)) = false) : pairsE (ns.drop (2 * j)) = pairsE (ns.drop (2 * (j + 1))) := by
  rw [pairs_cons h]
  simp only [List.any_cons, List.any_nil, Bool.or_false] at ho
  simp only [pairsE, ho]; rfl
theorem pairs_stop {ns : List Int} {j : Nat} (h : 2 * j + 1 < ns.length) (ho : [ns[2 * j]].any (out 0 (ns[2 * j + 1] - 1)) = true) : pairsE (ns.drop (2 * j)) = 4 := by
  rw [pairs_cons h]
  simp only [List.any_cons, List.any_nil, Bool.or_false] at ho
  simp only [pairsE, ho]; rfl
theorem enterE_1 {b : Board} {e : Int} (h : ¬ (check b).2.2 = 0) : enterE b e = (check b).2.2 := by unfold enterE; rw [if_pos h]
theorem enterE_2 {b : Board} {e : Int} (h : (check b).2.2 = 0) (he : ¬ e = 0) : enterE b e = e := by unfold enterE; rw [if_neg (by simp [h]), if_pos he]
theorem enterE_3 {b : Board} {e : Int} (h : (check b).2.2 = 0) (he : e = 0) (hw : truths b = []) : enterE b e = 8 := by unfold enterE; rw [if_neg (by simp [h]), if_neg (by simp [he]), if_pos hw]
theorem enterE_4 {b : Board} {e : Int} (h : (check b).2.2 = 0) (he : e = 0) (hw : truths b ≠ []) : enterE b e = 0 := by unfold enterE; rw [if_neg (by simp [h]), if_neg (by simp [he]), if_neg hw]
theorem enterE_ok {b : Board} {e : Int} (h : enterE b e = 0) : (check b).2.2 = 0 ∧ e = 0 ∧ truths b ≠ [] := by
  by_cases h1 : (check b).2.2 = 0
  · by_cases h2 : e = 0
    · by_cases h3 : truths b = []
      · rw [enterE_3 h1 h2 h3] at h; cases h
      · exact ⟨h1, h2, h3⟩
    · rw [enterE_2 h1 h2] at h; exact absurd h h2
  · rw [enterE_1 h1] at h; exact absurd h h1
theorem orE_4 {a e : Int} (h : a = 4) : orE a e = 4 := by unfold orE; rw [h]; rfl
theorem orE_e {a e : Int} (h : a = 0) : orE a e = e := by unfold orE; rw [if_neg (by simp [h])]
theorem pairs_two (a m : Int) : orE (pairsE [a, m]) 0 = idxE a m := by
  unfold orE idxE pairsE
  cases out 0 (m - 1) a <;> rfl
theorem pairs_four (c n a m : Int) : orE (pairsE [c, n, a, m]) 0 = idx2 c n a m := by
  unfold orE idx2 idxE
  simp only [pairsE]
  by_cases h1 : out 0 (n - 1) c = true <;> by_cases h2 : out 0 (m - 1) a = true <;> simp [h1, h2]
theorem pairs_looks (b : Board) (hold within : Int) : orE (pairsE [hold, b.holds]) (if within < 0 then 7 else 0) = looksE b hold within := by
  unfold orE looksE idxE
  simp only [pairsE]
  by_cases h1 : out 0 (b.holds - 1) hold = true <;> simp [h1]
/-! ### Spans -/
theorem hull_snoc (f : List Int → Int) : ∀ (l : List (List Int)) (x : List Int), l ≠ [] → hullL f (l ++ [x]) = (min (hullL f l).1 (f x), max (hullL f l).2 (f x))
  | [], _, h => absurd rfl h
  | a :: l, x, _ => by simp only [hullL, List.cons_append, List.foldl_append, List.foldl_cons, List.foldl_nil]
theorem hull_first {f : List Int → Int} {ws : List (List Int)} {i : Nat} (hi : i < ws.length) (h0 : i = 0) : hullL f (ws.take (i + 1)) = (min (f ws[i]) (f ws[i]), max (f ws[i]) (f ws[i])) := by
  subst h0
  match ws, hi with
  | a :: ws, _ =>
    simp [hullL]
theorem hull_next {f : List Int → Int} {ws : List (List Int)} {i : Nat} (hi : i < ws.length) (h0 : ¬ i = 0) : hullL f (ws.take (i + 1)) = (min (hullL f (ws.take i)).1 (f ws[i]), max (hullL f (ws.take i)).2 (f ws[i])) := by
  rw [List.take_succ_eq_append_getElem hi, hull_snoc f _ _ (by intro e; have := congrArg List.length e; simp at this; rcases this with h | h; exact h0 h; subst h; simp at hi)]
/-! ### What lies in a hold -/
theorem in_yes {b : Board} {l : List Int} {h : Int} {k : Nat} (hk : k < b.hours.length) (e : b.hours[k].hold = h) : inTo b l h (k + 1) = inTo b l h k + ld l k := by
  simp only [inTo]; rw [if_pos (by rw [← e]; simp [List.getD, hk])]
theorem in_no {b : Board} {l : List Int} {h : Int} {k : Nat} (hk : k < b.hours.length) (e : ¬ b.hours[k].hold = h) : inTo b l h (k + 1) = inTo b l h k := by
  simp only [inTo]; rw [if_neg (by rw [show b.hours.getD k ⟨0, 0, 0⟩ = b.hours[k] by simp [List.getD, hk]]; exact e)]; omega
theorem in_bound {b : Board} {l : List Int} {h : Int} (hl : ∀ k, 0 ≤ ld l k ∧ ld l k ≤ 40) : ∀ k, 0 ≤ inTo b l h k ∧ inTo b l h k ≤ 40 * (k : Int)
  | 0 => by simp [inTo]
  | k + 1 => by
    have ih := in_bound (h := h) (b := b) hl k
    have := hl k
    simp only [inTo]
    split <;> constructor <;> omega
theorem in_pad (b : Board) (l : List Int) (h : Int) : ∀ k, inTo b (pad4 l) h k = inTo b l h k
  | 0 => rfl
  | k + 1 => by simp only [inTo, in_pad b l h k, ld_pad]
theorem inH_pad (b : Board) (h : Int) (l : List Int) : inH b h (pad4 l) = inH b h l := in_pad b l h _
theorem ld_40 {b : Board} (hok : b.Ok) {l : List Int} (h : l ∈ truths b) (k : Nat) : 0 ≤ ld l k ∧ ld l k ≤ 40 := by
  obtain ⟨h1, h2⟩ := truth_in h
  by_cases hk : k < b.hours.length
  · have := h2 k hk
    have ho := hok.hour _ (List.getElem_mem hk)
    have h3 := ho.lo
    have h4 := ho.hi
    omega
  · have : ld l k = 0 := by simp [ld, List.getD, List.getElem?_eq_none (by omega : l.length ≤ k)]
    omega
theorem pad_len {b : Board} (hok : b.Ok) {l : List Int} (h : l ∈ truths b) : (pad4 l).length = 4 := pad4_len (by rw [(truth_in h).1]; exact hok.lh)
end Go.Rt.Ch
/- Plain words of the chain layer: sets as lists, loads at the hours of a set, what lies in a hold by them. No conditions. -/
set_option linter.unusedSimpArgs false
set_option linter.unusedVariables false
namespace Go.Rt.Ch
open Go.Rt.Ha
theorem listL_le (b : Nat) : ∀ n, (listL b n).length ≤ n
  | 0 => by simp [listL]
  | n + 1 => by have := listL_le b n; simp only [listL, List.length_append]; split <;> simp <;> omega
def listTo (b n k : Nat) : List Int := listL b k ++ List.replicate (n - (listL b k).length) 0
theorem listTo_len (b n k : Nat) (h : k ≤ n) : (listTo b n k).length = n := by have := listL_le b k; simp [listTo]; omega
theorem listTo_zero (b n : Nat) : listTo b n 0 = List.replicate n 0 := by simp [listTo, listL]
theorem listL_yes {b k : Nat} (h : bit b k = 1) : listL b (k + 1) = listL b k ++ [(k : Int)] := by simp [listL, h]
theorem listL_no {b k : Nat} (h : ¬ bit b k = 1) : listL b (k + 1) = listL b k := by simp [listL, h]
theorem listTo_yes {b n k : Nat} (hk : k < n) (h : bit b k = 1) : (listTo b n k).set (listL b k).length k = listTo b n (k + 1) := by
  have := listL_le b k
  unfold listTo
  rw [listL_yes h, List.set_append_right _ _ (Nat.le_refl _), Nat.sub_self, List.length_append, List.length_singleton]
  obtain ⟨q, hq⟩ : ∃ q, n - (listL b k).length = q + 1 := ⟨n - (listL b k).length - 1, by omega⟩
  rw [hq, List.replicate_succ, List.set_cons_zero, show n - ((listL b k).length + 1) = q by omega]
  simp
theorem listTo_no {b n k : Nat} (h : ¬ bit b k = 1) : listTo b n k = listTo b n (k + 1) := by unfold listTo; rw [listL_no h]
theorem listTo_take (b n : Nat) : (listTo b n n).take (listL b n).length = listL b n := by simp [listTo]
theorem bit_lt2 (b j : Nat) : bit b j = 0 ∨ bit b j = 1 := by unfold bit; have := Nat.and_lt_two_pow (x := b >>> j) (y := 1) (n := 1) (by omega); omega
/-! ### Fewest, step by step -/
theorem few_skip {d : Nat → Bool} {n s : Nat} (h1 : (fewTo d n s).2 = true) (h2 : before (fewTo d n s).1 (listL s n) = true) : fewTo d n (s + 1) = fewTo d n s := by simp only [fewTo, fewStep]; rw [h1, h2]; rfl
theorem few_yes {d : Nat → Bool} {n s : Nat} (h1 : (fewTo d n s).2 = false ∨ before (fewTo d n s).1 (listL s n) = false) (h2 : d s = true) : fewTo d n (s + 1) = (listL s n, true) := by
  simp only [fewTo, fewStep]; rw [if_neg (by rcases h1 with h | h <;> simp [h]), if_pos h2]
theorem few_no {d : Nat → Bool} {n s : Nat} (h1 : (fewTo d n s).2 = false ∨ before (fewTo d n s).1 (listL s n) = false) (h2 : d s = false) : fewTo d n (s + 1) = fewTo d n s := by
  simp only [fewTo, fewStep]; rw [if_neg (by rcases h1 with h | h <;> simp [h]), if_neg (by simp [h2])]
theorem few_len (d : Nat → Bool) (n : Nat) : ∀ s, (fewTo d n s).1.length ≤ n
  | 0 => by simp [fewTo]
  | s + 1 => by have := few_len d n s; have := listL_le s n; simp only [fewTo, fewStep]; split <;> (try split) <;> assumption
theorem few_vals {v1 v2 : Value} {b1 b2 : Bool} {z1 z2 : Int} (h1 : v1 = v2) (h2 : b1 = b2) (h3 : z1 = z2) : [v1, Value.bool b1, Value.int .i64 z1] = [v2, Value.bool b2, Value.int .i64 z2] := by rw [h1, h2, h3]
theorem before_no {a b : List Int} (h1 : a.length ≤ b.length → ¬ (b.length : Int) > a.length) (h2 : a.length = b.length → less a b = false) : before a b = false := by
  unfold before
  rw [Bool.or_eq_false_iff, Bool.and_eq_false_iff]
  refine ⟨by simp; omega, ?_⟩
  by_cases e : a.length = b.length
  · exact .inr (h2 e)
  · left; simpa using e
theorem shl_256 {n : Nat} (h : n ≤ 8) : 1 ≤ 1 <<< n ∧ 1 <<< n ≤ 256 := by
  rw [Nat.shiftLeft_eq, Nat.one_mul]
  have h2 : 2 ^ n ≤ 2 ^ 8 := Nat.pow_le_pow_right (by omega) h
  have := Nat.one_le_two_pow (n := n)
  omega
def cmpI (a b : Int) : Int := if a < b then -1 else if b < a then 1 else 0
theorem cmp_zero {a b : Int} (h : cmpI a b = 0) : a = b := by
  unfold cmpI at h
  split at h
  · omega
  · split at h <;> omega
/-! ### Loads at the hours of a set -/
/-- Loads, of whose first k only those of a set are kept. -/
def maskTo (s : Nat) (l : List Int) (k : Nat) : List Int := (List.range 4).map fun j => if j < k then l.getD j 0 * ((bit s j : Nat) : Int) else l.getD j 0
def mask (s : Nat) (l : List Int) : List Int := maskTo s l 4
theorem maskTo_len (s : Nat) (l : List Int) (k : Nat) : (maskTo s l k).length = 4 := by simp [maskTo]
theorem maskTo_zero {s : Nat} {l : List Int} (h : l.length = 4) : maskTo s l 0 = l := by
  apply List.ext_getElem
  · rw [maskTo_len, h]
  · intro i h1 h2
    simp [maskTo, List.getD, h2]
theorem maskTo_get {s : Nat} {l : List Int} {k : Nat} (hk : k < 4) : (maskTo s l k).getD k 0 = l.getD k 0 := by
  simp [maskTo, List.getD, hk]
theorem maskTo_set {s : Nat} {l : List Int} {k : Nat} (hk : k < 4) : (maskTo s l k).set k ((maskTo s l k).getD k 0 * ((bit s k : Nat) : Int)) = maskTo s l (k + 1) := by
  rw [maskTo_get hk]
  apply List.ext_getElem
  · simp [maskTo]
  · intro i h1 h2
    have hi : i < 4 := by rwa [maskTo_len] at h2
    rw [List.getElem_set]
    by_cases e : k = i
    · subst e; simp [maskTo]
    · rw [if_neg e]
      by_cases h3 : i < k
      · simp [maskTo, h3, show i < k + 1 by omega]
      · simp [maskTo, h3, show ¬ i < k + 1 by omega]
theorem mask_get (s : Nat) (l : List Int) {k : Nat} (hk : k < 4) : (mask s l).getD k 0 = l.getD k 0 * ((bit s k : Nat) : Int) := by simp [mask, maskTo, List.getD, hk]
theorem list_mem {s n k : Nat} : (k : Int) ∈ listL s n ↔ k < n ∧ bit s k = 1 := by
  induction n with
  | zero => simp [listL]
  | succ n ih =>
    simp only [listL, List.mem_append, ih]
    constructor
    · rintro (h | h)
      · exact ⟨by omega, h.2⟩
      · split at h
        · rename_i hb
          have h2 : (k : Int) = (n : Int) := by simpa using h
          have : k = n := by omega
          subst this; exact ⟨by omega, hb⟩
        · cases h
    · rintro ⟨h1, h2⟩
      by_cases e : k = n
      · subst e; right; rw [if_pos h2]; simp
      · exact .inl ⟨by omega, h2⟩
theorem list_nat {s n : Nat} {z : Int} (h : z ∈ listL s n) : ∃ k : Nat, z = k ∧ k < n ∧ bit s k = 1 := by
  induction n with
  | zero => simp [listL] at h
  | succ n ih =>
    simp only [listL, List.mem_append] at h
    rcases h with h | h
    · obtain ⟨k, h1, h2, h3⟩ := ih h; exact ⟨k, h1, by omega, h3⟩
    · split at h
      · rename_i hb; simp at h; exact ⟨n, h, by omega, hb⟩
      · cases h
theorem mask_same {s n : Nat} (hn : n ≤ 4) {l m : List Int} (hl : l.length = n) (hm : m.length = n) : mask s (pad4 l) = mask s (pad4 m) ↔ sameAt s n l m = true := by
  unfold sameAt
  rw [List.all_eq_true]
  constructor
  · intro h z hz
    obtain ⟨k, rfl, hk, hb⟩ := list_nat hz
    have := congrArg (fun x : List Int => x.getD k 0) h
    try simp only at this
    rw [mask_get _ _ (by omega), mask_get _ _ (by omega), pad4_at, pad4_at, hb] at this
    simp only [decide_eq_true_eq, Int.toNat_natCast]
    have e1 : ld l k = l.getD k 0 := rfl
    have e2 : ld m k = m.getD k 0 := rfl
    omega
  · intro h
    apply List.ext_getElem
    · rw [mask, mask, maskTo_len, maskTo_len]
    · intro k h1 h2
      have hk : k < 4 := by rw [mask, maskTo_len] at h1; exact h1
      have e : ∀ x : List Int, ∀ hx : k < (mask s x).length, (mask s x)[k] = x.getD k 0 * ((bit s k : Nat) : Int) := by
        intro x hx
        rw [← mask_get s x hk]; simp [List.getD, hx]
      rw [e, e, pad4_at, pad4_at]
      by_cases hkn : k < n
      · rcases bit_lt2 s k with hb | hb
        · rw [hb]; simp
        · have := h _ (list_mem.2 ⟨hkn, hb⟩)
          simp only [decide_eq_true_eq, Int.toNat_natCast] at this
          have e1 : ld l k = l.getD k 0 := rfl
          have e2 : ld m k = m.getD k 0 := rfl
          rw [← e1, ← e2, this]
      · have e1 : l.getD k 0 = 0 := by simp [List.getD, List.getElem?_eq_none (by omega : l.length ≤ k)]
        have e2 : m.getD k 0 = 0 := by simp [List.getD, List.getElem?_eq_none (by omega : m.length ≤ k)]
        rw [e1, e2]
/-! ### What lies in a hold, by these -/
def sv (p : Int × Int) : Value := .agg #[.int .i64 p.1, .int .i64 p.2]
/-- The span of those that are the same at a set. -/
def gS (s : Nat) (f : List Int → Int) (ws : List (List Int)) (key : List Int) : Int × Int := hullL f (ws.filter fun l => decide (mask s (pad4 l) = key))
/-- What a map of spans says of the loads that were gone through. -/
structure SpM (s : Nat) (f : List Int → Int) (ws : List (List Int)) (es : List (List Int × Value × Nat)) : Prop where
  v : ∀ q ∈ es, q.2.1 = sv (gS s f ws q.1)
  k : ∀ key, key ∈ es.map (·.1) ↔ ∃ l ∈ ws, mask s (pad4 l) = key
theorem spm_nil (s : Nat) (f : List Int → Int) : SpM s f [] [] := ⟨by simp, by simp⟩
theorem SpM.len {s : Nat} {f : List Int → Int} {ws : List (List Int)} {es : List (List Int × Value × Nat)} (h : SpM s f ws es) : ∀ q ∈ es, q.1.length = 4 := by
  intro q hq
  obtain ⟨l, _, e⟩ := (h.k q.1).1 (List.mem_map_of_mem (f := fun x : List Int × Value × Nat => x.1) hq)
  rw [← e, mask, maskTo_len]
theorem SpM.zero {s : Nat} {f : List Int → Int} {ws : List (List Int)} {es : List (List Int × Value × Nat)} (h : SpM s f ws es) {key : List Int} (hk : key ∉ es.map (·.1)) : gS s f ws key = (0, 0) := by
  unfold gS
  rw [List.filter_eq_nil_iff.2]
  · rfl
  · intro l hl; simp only [decide_eq_true_eq]; intro e; exact hk ((h.k key).2 ⟨l, hl, e⟩)
theorem putA_strong {α : Type} [DecidableEq α] {a : α} {v : Value} {ck : Nat} {q : α × Value × Nat} : ∀ {l : List (α × Value × Nat)}, (l.map (·.1)).Nodup → q ∈ putA a v ck l → (q.1 = a ∧ q.2.1 = v) ∨ (q ∈ l ∧ q.1 ≠ a)
  | [], _, h => by simp [putA] at h; subst h; exact .inl ⟨rfl, rfl⟩
  | x :: l, hn, h => by
    rw [List.map_cons, List.nodup_cons] at hn
    by_cases e : x.1 = a
    · simp only [putA, if_pos e] at h
      cases h with
      | head => exact .inl ⟨rfl, rfl⟩
      | tail _ h =>
        right
        refine ⟨.tail _ h, fun e2 => hn.1 ?_⟩
        rw [e, ← e2]; exact List.mem_map_of_mem (f := fun x : α × Value × Nat => x.1) h
    · simp only [putA, if_neg e] at h
      cases h with
      | head => exact .inr ⟨.head _, e⟩
      | tail _ h =>
        rcases putA_strong hn.2 h with h | h
        · exact .inl h
        · exact .inr ⟨.tail _ h.1, h.2⟩
theorem gS_other {s : Nat} {f : List Int → Int} {ws : List (List Int)} {l key : List Int} (h : mask s (pad4 l) ≠ key) : gS s f (ws ++ [l]) key = gS s f ws key := by
  unfold gS; rw [List.filter_append]; simp [h]
theorem gS_own {s : Nat} {f : List Int → Int} {ws : List (List Int)} {l : List Int} : gS s f (ws ++ [l]) (mask s (pad4 l)) = hullL f ((ws.filter fun x => decide (mask s (pad4 x) = mask s (pad4 l))) ++ [l]) := by
  unfold gS; rw [List.filter_append]; simp
theorem gS_new {s : Nat} {f : List Int → Int} {ws : List (List Int)} {es : List (List Int × Value × Nat)} (h : SpM s f ws es) {l : List Int} (hk : mask s (pad4 l) ∉ es.map (·.1)) : gS s f (ws ++ [l]) (mask s (pad4 l)) = (min (f l) (f l), max (f l) (f l)) := by
  rw [gS_own, List.filter_eq_nil_iff.2]
  · simp [hullL]
  · intro x hx; simp only [decide_eq_true_eq]; intro e; exact hk ((h.k _).2 ⟨x, hx, e⟩)
theorem gS_more {s : Nat} {f : List Int → Int} {ws : List (List Int)} {es : List (List Int × Value × Nat)} (h : SpM s f ws es) {l : List Int} (hk : mask s (pad4 l) ∈ es.map (·.1)) : gS s f (ws ++ [l]) (mask s (pad4 l)) = (min (gS s f ws (mask s (pad4 l))).1 (f l), max (gS s f ws (mask s (pad4 l))).2 (f l)) := by
  rw [gS_own, hull_snoc]
  · rfl
  · obtain ⟨x, hx, e⟩ := (h.k _).1 hk
    exact List.ne_nil_of_mem (List.mem_filter.2 ⟨hx, by simpa using e⟩)
theorem SpM.put {s : Nat} {f : List Int → Int} {ws : List (List Int)} {es : List (List Int × Value × Nat)} (h : SpM s f ws es) (hn : (es.map (·.1)).Nodup) {l : List Int} {p : Int × Int} (hp : p = gS s f (ws ++ [l]) (mask s (pad4 l))) (ck : Nat) : SpM s f (ws ++ [l]) (putA (mask s (pad4 l)) (sv p) ck es) := by
  refine ⟨fun q hq => ?_, fun key => ?_⟩
  · rcases putA_strong hn hq with ⟨h1, h2⟩ | ⟨h1, h2⟩
    · rw [h1, h2, hp]
    · rw [h.v q h1, gS_other (fun e => h2 e.symm)]
  · rw [keys_putA, h.k]
    constructor
    · rintro (rfl | ⟨x, hx, e⟩)
      · exact ⟨l, by simp, rfl⟩
      · exact ⟨x, List.mem_append_left _ hx, e⟩
    · rintro ⟨x, hx, e⟩
      rcases List.mem_append.1 hx with hx | hx
      · exact .inr ⟨x, hx, e⟩
      · rw [List.mem_singleton] at hx; subst hx; exact .inl e.symm
theorem hull_in {f : List Int → Int} {lo hi : Int} (h0 : lo ≤ 0 ∧ 0 ≤ hi) : ∀ (ws : List (List Int)), (∀ l ∈ ws, lo ≤ f l ∧ f l ≤ hi) → lo ≤ (hullL f ws).1 ∧ (hullL f ws).1 ≤ hi ∧ lo ≤ (hullL f ws).2 ∧ (hullL f ws).2 ≤ hi
  | [], _ => by simp [hullL]; omega
  | a :: ws, h => by
    simp only [hullL]
    have key : ∀ (r : List (List Int)) (p : Int × Int), (lo ≤ p.1 ∧ p.1 ≤ hi) ∧ (lo ≤ p.2 ∧ p.2 ≤ hi) → (∀ l ∈ r, lo ≤ f l ∧ f l ≤ hi) → lo ≤ (r.foldl (fun s x => (min s.1 (f x), max s.2 (f x))) p).1 ∧ (r.foldl (fun s x => (min s.1 (f x), max s.2 (f x))) p).1 ≤ hi ∧ lo ≤ (r.foldl (fun s x => (min s.1 (f x), max s.2 (f x))) p).2 ∧ (r.foldl (fun s x => (min s.1 (f x), max s.2 (f x))) p).2 ≤ hi := by
      intro r
      induction r with
      | nil => intro p hp _; exact ⟨hp.1.1, hp.1.2, hp.2.1, hp.2.2⟩
      | cons x r ih =>
        intro p hp hr
        simp only [List.foldl_cons]
        have := hr x (.head _)
        exact ih _ ⟨by constructor <;> simp only <;> omega, by constructor <;> simp only <;> omega⟩ fun l hl => hr l (.tail _ hl)
    have ha := h a (.head _)
    exact key ws _ ⟨ha, ha⟩ fun l hl => h l (.tail _ hl)
theorem gS_in {b : Board} (hok : b.Ok) {hold : Int} (s : Nat) {ws : List (List Int)} (hw : ∀ l ∈ ws, l ∈ truths b) (key : List Int) : 0 ≤ (gS s (inH b hold) ws key).1 ∧ (gS s (inH b hold) ws key).1 ≤ 160 ∧ 0 ≤ (gS s (inH b hold) ws key).2 ∧ (gS s (inH b hold) ws key).2 ≤ 160 := by
  refine hull_in (by omega) _ fun l hl => ?_
  have h1 := in_bound (h := hold) (b := b) (fun k => ld_40 hok (hw l (List.mem_filter.1 hl).1) k) b.hours.length
  have := hok.lh
  unfold inH; omega
/-- Whether all spans are within a number is whether the set tells. -/
theorem tells_map {b : Board} (hok : b.Ok) {hold within : Int} {s : Nat} {es : List (List Int × Value × Nat)} (h : SpM s (inH b hold) (truths b) es) : tellsS b hold within s = true ↔ ∀ q ∈ es, (gS s (inH b hold) (truths b) q.1).2 - (gS s (inH b hold) (truths b) q.1).1 ≤ within := by
  have e : ∀ l ∈ truths b, gS s (inH b hold) (truths b) (mask s (pad4 l)) = hullL (inH b hold) ((truths b).filter (sameAt s b.hours.length l)) := by
    intro l hl
    unfold gS
    congr 1
    refine List.filter_congr fun x hx => ?_
    rw [Bool.eq_iff_iff, decide_eq_true_eq, ← mask_same hok.lh (truth_in hl).1 (truth_in hx).1]
    exact eq_comm
  unfold tellsS
  rw [List.all_eq_true]
  constructor
  · intro ht q hq
    obtain ⟨l, hl, e2⟩ := (h.k q.1).1 (List.mem_map_of_mem (f := fun x : List Int × Value × Nat => x.1) hq)
    rw [← e2, e l hl]
    simpa using ht l hl
  · intro ha l hl
    obtain ⟨q, hq, e2⟩ := List.mem_map.1 ((h.k _).2 ⟨l, hl, rfl⟩)
    have := ha q hq
    rw [show q.1 = mask s (pad4 l) from e2, e l hl] at this
    simpa using this
end Go.Rt.Ch
/- Plain words of the hand layer: spans, grades and others over the ways, step by step. No conditions. -/
set_option linter.unusedSimpArgs false
set_option linter.unusedVariables false
namespace Go.Rt.Ha
end Go.Rt.Ha
/- Plain words of the hand layer: totals, picks and others over the ways, step by step. No conditions. -/
set_option linter.unusedSimpArgs false
set_option linter.unusedVariables false
namespace Go.Rt.Ha
/-! ### Picks -/
def pickC (l : Lot) (g m : Int) : Int := if (check l).2.2 = 0 then pickE l g m else (check l).2.2
theorem find_next {s : List Int} {p : List Int → Bool} {k q : Nat} (h2 : (((choices s.length k).take q).map (pickL s)).find? p = none) (hq : q < (choices s.length k).length) (hp : p (pickL s (choices s.length k)[q]) = false) : (((choices s.length k).take (q + 1)).map (pickL s)).find? p = none := by
  rw [List.take_succ_eq_append_getElem hq, List.map_append, List.find?_append, h2, Option.none_or]
  simp [hp]
theorem find_on {s : List Int} {p : List Int → Bool} {k q : Nat} (h1 : (setsTo s k).find? p = none) (h2 : (((choices s.length k).take q).map (pickL s)).find? p = none) (hq : (choices s.length k).length ≤ q) : (setsTo s (k + 1)).find? p = none := by
  rw [List.take_of_length_le hq] at h2
  rw [setsTo, List.find?_append, h1, Option.none_or]; exact h2
theorem cTo_split {n k m : Nat} (h : k ≤ m) : ∃ r, choicesTo n m = choicesTo n k ++ r := by
  obtain ⟨d, rfl⟩ : ∃ d, m = k + d := ⟨m - k, by omega⟩
  clear h
  induction d with
  | zero => exact ⟨[], by simp⟩
  | succ d ih =>
    obtain ⟨r, hr⟩ := ih
    exact ⟨r ++ choices n (k + d), by rw [show k + (d + 1) = (k + d) + 1 by omega, choicesTo, hr, List.append_assoc]⟩
theorem cfind_here {n : Nat} {p : List Int → Bool} {k q : Nat} (hk : k < n) (h1 : (choicesTo n k).find? p = none) (h2 : ((choices n k).take q).find? p = none) (hq : q < (choices n k).length) (hp : p (choices n k)[q] = true) : (choicesTo n n).find? p = some (choices n k)[q] := by
  obtain ⟨r, hr⟩ := cTo_split (n := n) (k := k + 1) (m := n) (by omega)
  rw [hr, choicesTo, List.append_assoc, List.find?_append, h1, Option.none_or, List.find?_append]
  have : (choices n k).find? p = some (choices n k)[q] := by
    have e : ((choices n k).take q ++ (choices n k).drop q).find? p = some (choices n k)[q] := by
      rw [List.drop_eq_getElem_cons hq, List.find?_append, h2, Option.none_or, List.find?_cons, hp]
    rwa [List.take_append_drop] at e
  rw [this]; rfl
theorem cfind_next {n : Nat} {p : List Int → Bool} {k q : Nat} (h2 : ((choices n k).take q).find? p = none) (hq : q < (choices n k).length) (hp : p (choices n k)[q] = false) : ((choices n k).take (q + 1)).find? p = none := by
  rw [List.take_succ_eq_append_getElem hq, List.find?_append, h2, Option.none_or]; simp [hp]
theorem cfind_on {n : Nat} {p : List Int → Bool} {k q : Nat} (h1 : (choicesTo n k).find? p = none) (h2 : ((choices n k).take q).find? p = none) (hq : (choices n k).length ≤ q) : (choicesTo n (k + 1)).find? p = none := by
  rw [List.take_of_length_le hq] at h2
  rw [choicesTo, List.find?_append, h1, Option.none_or]; exact h2
theorem pick_idx {s : List Int} {k q j : Nat} (hq : q < (choices s.length k).length) (hj : j < ((choices s.length k)[q]).length) : 0 ≤ ((choices s.length k)[q])[j] ∧ ((choices s.length k)[q])[j].toNat < s.length := by
  have h1 := (choices_len (below := s.length) k _ (List.getElem_mem hq)).2 _ (List.getElem_mem hj)
  omega
theorem pickL_in {s : List Int} {k q : Nat} (hq : q < (choices s.length k).length) : ∀ z ∈ pickL s (choices s.length k)[q], z ∈ s := by
  intro z hz
  unfold pickL at hz
  obtain ⟨y, hy, rfl⟩ := List.mem_map.1 hz
  have h1 := (choices_len (below := s.length) k _ (List.getElem_mem hq)).2 y hy
  have hl : y.toNat < s.length := by omega
  simp only [List.getD, List.getElem?_eq_getElem hl, Option.getD_some]
  exact List.getElem_mem hl
end Go.Rt.Ha
/- Plain words of the chain layer: what the document's functions do, step by step: truths, spans, what is told. No conditions. -/
set_option linter.unusedSimpArgs false
set_option linter.unusedVariables false
namespace Go.Rt.Ch
open Go.Rt.Ha
def kE (b : Board) (e : Int) : Int := if e ≠ 0 then e else if truths b = [] then 8 else 0
def idxC (b : Board) (n m : Int) : Int := if (check b).2.2 = 0 then idxE n m else (check b).2.2
/-- The error of a counter and an hour. -/
def idx2C (b : Board) (c n a m : Int) : Int := if idxC b c n = 0 then idxC b a m else idxC b c n
def looksC (b : Board) (h n : Int) : Int := if idxC b h b.holds = 0 ∧ n < 0 then 7 else idxC b h b.holds
theorem felt_40 {b : Board} (hok : b.Ok) {l : List Int} (h : l ∈ felt (bun b)) (k : Nat) : 0 ≤ ld l k ∧ ld l k ≤ 40 := by
  obtain ⟨h1, h2⟩ := loads_at h
  by_cases hk : k < b.hours.length
  · have := h2 k hk
    have ho := hok.hour _ (List.getElem_mem hk)
    have h3 := ho.lo
    have h4 := ho.hi
    omega
  · have : ld l k = 0 := by simp [ld, List.getD, List.getElem?_eq_none (by omega : l.length ≤ k)]
    omega
/-! ### Those that are the same at some hours -/
def likeB (hours l m : List Int) : Bool := hours.all fun z => decide (ld m z.toNat = ld l z.toNat)
def like (ws : List (List Int)) (l hours : List Int) : List (List Int) := ws.filter (likeB hours l)
def tellsR (b : Board) (ws : List (List Int)) (hours : List Int) (hold within : Int) : Bool := ws.all fun l => decide ((hullL (inH b hold) (like ws l hours)).2 - (hullL (inH b hold) (like ws l hours)).1 ≤ within)
/-! ### Looks -/
end Go.Rt.Ch
/- Walks of this seat, printed by gen.py over the engine: what each function returns, in whatever world. No conditions but those of each contract. -/
set_option linter.unusedVariables false
set_option linter.unusedSimpArgs false
set_option maxRecDepth 20000
namespace Go.Proofs
open Go.Rt Go.Rt.Ch
open Go.Rt.Ha (firstE firstE_step firstE_stop firstE_end failE nameE felt spanL upto span_mem listL fewest fewTo bit before fewStep drop_lt drop_get drop_next drop_done drop_notin set_take set_zero take_less Lot Bunch feltTo fTo fPart felt_zero felt_step fTo_succ fTo_len fPart_succ fPart_len fPart_all filt_yes filt_no upto_len at_ someOf choicesTo)
attribute [local irreducible] WL WC Con Yd At Ats Sl Agree DW
/-- Slices of integers, as values: what each reads as. -/
def EL (w0 : World) (L : List (Nat × Obj)) (vs : List Value) (ll : List (List Int)) : Prop :=
  vs.length = ll.length ∧ ∀ k (h : k < ll.length), ∃ b c, vs[k]? = some (.slice b ll[k].length c) ∧ Sl w0 L b 1 (ll[k].map fun x => [Value.int .i64 x]) ∧ (b = none → c = 0)
theorem EL.mono {w0 : World} {L L' : List (Nat × Obj)} {vs : List Value} {ll : List (List Int)} (h : EL w0 L vs ll) (hs : ∀ w, St w0 w L' → St w0 w L) : EL w0 L' vs ll :=
  ⟨h.1, fun k hk => by obtain ⟨b, c, h1, h2, h3⟩ := h.2 k hk; exact ⟨b, c, h1, h2.mono hs, h3⟩⟩
theorem EL.cons {w0 : World} {L : List (Nat × Obj)} {x : Nat × Obj} {vs : List Value} {ll : List (List Int)} (h : EL w0 L vs ll) : EL w0 (x :: L) vs ll := h.mono fun _ h => h.tail
theorem EL.app {w0 : World} {L B : List (Nat × Obj)} {vs : List Value} {ll : List (List Int)} (h : EL w0 L vs ll) : EL w0 (B ++ L) vs ll := h.mono fun _ h => h.drop
theorem EL.top {w0 : World} {B F : List (Nat × Obj)} {vs : List Value} {ll : List (List Int)} (h : EL w0 B vs ll) : EL w0 (B ++ F) vs ll := h.mono fun _ h => h.front
theorem EL.nil (w0 : World) (L : List (Nat × Obj)) : EL w0 L [] [] := ⟨rfl, fun k h => by simp at h⟩
theorem ats_ofK {w0 w : World} {L : List (Nat × Obj)} {i b : Nat} {t : TypeId} {cs vs : List Value} (hs : St w0 w L) (hi : L[i]? = some (b, blk t cs)) (h : (cs.drop 0).take vs.length = vs) : Ats w0 L b 0 vs := ats_own hi h
end Go.Proofs
/- Plain laws of the chain layer: spans hold what they span; what lies in a hold. No program in sight. No conditions. -/
set_option linter.unusedSimpArgs false
set_option linter.unusedVariables false
namespace Go.Rt.Ch
open Go.Rt.Ha
def someB (b : Board) : Bool := decide ((check b).2.2 = 0) && !(truths b).isEmpty
theorem someB_y {b : Board} (h : someB b = true) : (check b).2.2 = 0 ∧ b.Ok ∧ truths b ≠ [] := by
  unfold someB at h
  simp only [Bool.and_eq_true, decide_eq_true_eq, Bool.not_eq_true'] at h
  exact ⟨h.1, check_ok h.1, fun e => by rw [e] at h; simp at h⟩
theorem someB_n {b : Board} (h : someB b = false) (e : Int) : enterE b e ≠ 0 := by
  intro he
  obtain ⟨h1, h2, h3⟩ := enterE_ok he
  unfold someB at h
  rw [decide_eq_true h1] at h
  cases ht : truths b with
  | nil => exact h3 ht
  | cons x y => rw [ht] at h; simp at h
theorem fold_spec (f : List Int → Int) : ∀ (r : List (List Int)) (s : Int × Int), (r.foldl (fun s x => (min s.1 (f x), max s.2 (f x))) s).1 ≤ s.1 ∧ s.2 ≤ (r.foldl (fun s x => (min s.1 (f x), max s.2 (f x))) s).2 ∧
    (∀ l ∈ r, (r.foldl (fun s x => (min s.1 (f x), max s.2 (f x))) s).1 ≤ f l ∧ f l ≤ (r.foldl (fun s x => (min s.1 (f x), max s.2 (f x))) s).2) ∧
    ((r.foldl (fun s x => (min s.1 (f x), max s.2 (f x))) s).1 = s.1 ∨ ∃ l ∈ r, (r.foldl (fun s x => (min s.1 (f x), max s.2 (f x))) s).1 = f l) ∧
    ((r.foldl (fun s x => (min s.1 (f x), max s.2 (f x))) s).2 = s.2 ∨ ∃ l ∈ r, (r.foldl (fun s x => (min s.1 (f x), max s.2 (f x))) s).2 = f l)
  | [], s => ⟨Int.le_refl _, Int.le_refl _, fun l h => (nomatch h), .inl rfl, .inl rfl⟩
  | x :: r, s => by
    obtain ⟨h1, h2, h3, h4, h5⟩ := fold_spec f r (min s.1 (f x), max s.2 (f x))
    simp only [List.foldl_cons]
    dsimp only at h1 h2 h4 h5
    generalize r.foldl (fun s x => (min s.1 (f x), max s.2 (f x))) (min s.1 (f x), max s.2 (f x)) = t at h1 h2 h3 h4 h5 ⊢
    refine ⟨by clear h4 h5; omega, by clear h4 h5; omega, fun l hl => ?_, ?_, ?_⟩
    · clear h4 h5
      rcases List.mem_cons.1 hl with rfl | hl
      · omega
      · exact h3 l hl
    · clear h5
      rcases h4 with h | ⟨l, hl, h⟩
      · by_cases hm : s.1 ≤ f x
        · exact .inl (by omega)
        · exact .inr ⟨x, .head _, by omega⟩
      · exact .inr ⟨l, .tail _ hl, h⟩
    · clear h4
      rcases h5 with h | ⟨l, hl, h⟩
      · by_cases hm : f x ≤ s.2
        · exact .inl (by omega)
        · exact .inr ⟨x, .head _, by omega⟩
      · exact .inr ⟨l, .tail _ hl, h⟩
theorem hull_spec {f : List Int → Int} {ws : List (List Int)} (h : ws ≠ []) : (∃ l ∈ ws, (hullL f ws).1 = f l) ∧ (∃ l ∈ ws, (hullL f ws).2 = f l) ∧ ∀ l ∈ ws, (hullL f ws).1 ≤ f l ∧ f l ≤ (hullL f ws).2 := by
  match ws, h with
  | a :: r, _ =>
    obtain ⟨h1, h2, h3, h4, h5⟩ := fold_spec f r (f a, f a)
    show (∃ l ∈ a :: r, (r.foldl (fun s x => (min s.1 (f x), max s.2 (f x))) (f a, f a)).1 = f l) ∧ (∃ l ∈ a :: r, (r.foldl (fun s x => (min s.1 (f x), max s.2 (f x))) (f a, f a)).2 = f l) ∧ ∀ l ∈ a :: r, (r.foldl (fun s x => (min s.1 (f x), max s.2 (f x))) (f a, f a)).1 ≤ f l ∧ f l ≤ (r.foldl (fun s x => (min s.1 (f x), max s.2 (f x))) (f a, f a)).2
    refine ⟨?_, ?_, fun l hl => ?_⟩
    · rcases h4 with h | ⟨l, hl, h⟩
      · exact ⟨a, .head _, h⟩
      · exact ⟨l, .tail _ hl, h⟩
    · rcases h5 with h | ⟨l, hl, h⟩
      · exact ⟨a, .head _, h⟩
      · exact ⟨l, .tail _ hl, h⟩
    · rcases List.mem_cons.1 hl with rfl | hl
      · exact ⟨h1, h2⟩
      · exact h3 l hl
theorem hull_btw {f : List Int → Int} {ws : List (List Int)} (h : ws ≠ []) {lo hi : Int} (hb : ∀ l ∈ ws, lo ≤ f l ∧ f l ≤ hi) : lo ≤ (hullL f ws).1 ∧ (hullL f ws).2 ≤ hi := by
  obtain ⟨⟨l, hl, e⟩, ⟨m, hm, e2⟩, _⟩ := hull_spec (f := f) h
  have := hb l hl; have := hb m hm; omega
/-! ### What is told of a board that has a truth -/
def wentH (b : Board) (k : Nat) : Int × Int := hullL (fun l => ld l k) (truths b)
theorem out_no {n m : Int} (h : 0 ≤ n ∧ n < m) : idxE n m = 0 := by unfold idxE; rw [if_neg (by rw [out_f.2 ⟨h.1, by omega⟩]; simp)]
theorem went_at {b : Board} (hs : someB b = true) {k : Nat} (hk : k < b.hours.length) : wentP b (k : Int) = (wentH b k, 0) := by
  obtain ⟨h1, h2, h3⟩ := someB_y hs
  unfold wentP wentH
  rw [enterE_4 h1 (out_no (by omega)) h3, if_neg (by simp)]; rfl
def hsum (b : Board) (hold : Int) : Nat → Int × Int
  | 0 => (0, 0)
  | k + 1 => if (hourOf b k).hold = hold then ((hsum b hold k).1 + (wentH b k).1, (hsum b hold k).2 + (wentH b k).2) else hsum b hold k
def hmany (b : Board) (hold : Int) : Nat → Int
  | 0 => 0
  | k + 1 => if (hourOf b k).hold = hold then hmany b hold k + 1 else hmany b hold k
end Go.Rt.Ch
/- Walks of this seat, printed by gen.py over the engine: what each function returns, in whatever world. No conditions but those of each contract. -/
set_option linter.unusedVariables false
set_option linter.unusedSimpArgs false
set_option maxRecDepth 20000
namespace Go.Proofs
open Go.Rt Go.Rt.Ch
open Go.Rt.Ha (firstE firstE_step firstE_stop firstE_end failE nameE felt spanL upto span_mem listL fewest fewTo bit before fewStep drop_lt drop_get drop_next drop_done drop_notin set_take set_zero take_less Lot Bunch feltTo fTo fPart felt_zero felt_step fTo_succ fTo_len fPart_succ fPart_len fPart_all filt_yes filt_no upto_len at_ someOf choicesTo cfind_here cfind_next cfind_on choices_fin pick_idx pickL_in find_on find_next)
attribute [local irreducible] WL WC Con Yd At Ats Sl Agree DW

theorem c34 {w0 w : World} {F : List (Nat × Obj)} (b : Board) (p : AtB) (hm : BIn w0 F b p)  (hs : St w0 w F) :
  Con Try.prog 34 [.agg (b.cells p).toArray] w fun v w' => v = .bool (decide ((check b).2.2 = 0)) ∧ St w0 w' F := by
  refine con_of_wc (n := 14) Try.func34 rfl rfl (Nat.le_of_ble_eq_true rfl) ?_
  refine w_seq (fun K2 hK1 => ?_)
  refine w_region ?_
  refine w_box (v := .agg #[.int _ _, .slice _ _ _, .slice _ _ _]) (cs := [_, _, _]) want_none rfl rfl rfl hs (fun b3 w4 hs5 => ?_)
  refine w_p (y_assign (v := _) rfl rfl) rfl ?_
  refine w_nil ?_
  refine q_then (hK1 _ _ ?_)
  refine w_seq (fun K7 hK6 => ?_)
  refine w_region ?_
  refine w_p (y_loadN (vs := [_, _, _]) Try.isAgg25 Try.sizeOf25 hs5 rfl rfl (ats_own (i := 0) (vs := [_, _, _]) rfl rfl)) rfl ?_
  refine w_call want_none Try.call17 rfl rfl rfl rfl (c17 b p hm.cons hs5) ?_
  rintro _ w9 ⟨rfl, hs10⟩
  refine w_p (y_move (v := .tuple _) rfl rfl) rfl ?_
  refine w_p (y_extract (v := .int _ _) rfl rfl rfl) rfl ?_
  refine w_p (y_extract (v := .int _ _) rfl rfl rfl) rfl ?_
  refine w_p (y_extract (v := .int _ _) rfl rfl rfl) rfl ?_
  refine w_p (y_assign (v := .int _ _) rfl rfl) rfl ?_
  refine w_p (y_assign (v := .int _ _) rfl rfl) rfl ?_
  refine w_p (y_assign (v := .int _ _) rfl rfl) rfl ?_
  refine w_nil ?_
  refine q_then (hK6 _ _ ?_)
  refine w_seq (fun K12 hK11 => ?_)
  refine w_region ?_
  refine w_p (y_move (v := .int _ _) rfl rfl) rfl ?_
  refine w_p (y_eql rfl rfl rfl rfl) rfl ?_
  refine w_p (y_assign (v := .bool _) rfl rfl) rfl ?_
  refine w_nil ?_
  refine q_then (hK11 _ _ ?_)
  refine w_ret ?_
  refine q_ret (l := [.tmp 2]) (vs := [_]) rfl ⟨⟨rfl, show _ = (.bool _ : Value) from rfl⟩, trivial⟩ ?_
  exact ⟨rfl, hs10.tail⟩

theorem c48 {w0 w : World} {F : List (Nat × Obj)} (x y z u : Int) (hs : St w0 w F) :
  Con Try.prog 48 [.agg #[.int .i64 x, .int .i64 y], .agg #[.int .i64 z, .int .i64 u]] w fun v w' => v = .bool (decide (z ≤ x) && decide (y ≤ u)) ∧ St w0 w' F := by
  refine con_of_wc (n := 17) Try.func48 rfl rfl (Nat.le_of_ble_eq_true rfl) ?_
  refine w_seq (fun K2 hK1 => ?_)
  refine w_region ?_
  refine w_box (v := .agg #[.int _ _, .int _ _]) (cs := [_, _]) want_none rfl rfl rfl hs (fun b3 w4 hs5 => ?_)
  refine w_box (v := .agg #[.int _ _, .int _ _]) (cs := [_, _]) want_none rfl rfl rfl hs5 (fun b6 w7 hs8 => ?_)
  refine w_p (y_assign (v := _) rfl rfl) rfl ?_
  refine w_nil ?_
  refine q_then (hK1 _ _ ?_)
  refine w_seq (fun K10 hK9 => ?_)
  refine w_region ?_
  refine w_p (y_fieldAddr (o := 0) (i := 0) Try.underlying31 rfl Try.sizeOf3 rfl rfl rfl) rfl ?_
  refine w_p (y_load1 Try.isAgg3 hs8 rfl rfl (ats_own (i := 1) (vs := [_]) rfl rfl)) rfl ?_
  refine w_p (y_fieldAddr (o := 0) (i := 0) Try.underlying31 rfl Try.sizeOf3 rfl rfl rfl) rfl ?_
  refine w_p (y_load1 Try.isAgg3 hs8 rfl rfl (ats_own (i := 0) (vs := [_]) rfl rfl)) rfl ?_
  refine w_p (y_geq rfl rfl rfl rfl) rfl ?_
  refine w_p (y_move (v := .bool _) rfl rfl) rfl ?_
  refine w_split (fun h11 => ?_) (fun h11 => ?_)
  ·
   try simp only [zA, zB, zC, zD, zE, zF] at h11
   refine w_y rfl rfl rfl (y_fieldAddr (o := 1) (i := 1) Try.underlying31 rfl Try.sizeOf3 rfl rfl rfl) rfl ?_
   refine w_y rfl rfl rfl (y_load1 Try.isAgg3 hs8 rfl rfl (ats_own (i := 1) (vs := [_]) rfl rfl)) rfl ?_
   refine w_y rfl rfl rfl (y_fieldAddr (o := 1) (i := 1) Try.underlying31 rfl Try.sizeOf3 rfl rfl rfl) rfl ?_
   refine w_y rfl rfl rfl (y_load1 Try.isAgg3 hs8 rfl rfl (ats_own (i := 0) (vs := [_]) rfl rfl)) rfl ?_
   refine w_y rfl rfl rfl (y_leq rfl rfl rfl rfl) rfl ?_
   refine w_p (y_pickT (v := .bool _) rfl rfl rfl rfl) rfl ?_
   refine w_p (y_assign (v := .bool _) rfl rfl) rfl ?_
   refine w_nil ?_
   refine q_then (hK9 _ _ ?_)
   refine w_ret ?_
   refine q_ret (l := [.tmp 4]) (vs := [_]) rfl ⟨⟨rfl, show _ = (.bool _ : Value) from rfl⟩, trivial⟩ ?_
   exact ⟨congrArg Value.bool (by rw [Bool.eq_iff_iff]; simp [*] <;> omega), hs8.tail.tail⟩
  ·
   try simp only [zA, zB, zC, zD, zE, zF] at h11
   refine w_skipop rfl rfl rfl ?_
   refine w_skipop rfl rfl rfl ?_
   refine w_skipop rfl rfl rfl ?_
   refine w_skipop rfl rfl rfl ?_
   refine w_skipop rfl rfl rfl ?_
   refine w_p (y_pickF (v := _) rfl rfl rfl rfl) rfl ?_
   refine w_p (y_assign (v := .bool _) rfl rfl) rfl ?_
   refine w_nil ?_
   refine q_then (hK9 _ _ ?_)
   refine w_ret ?_
   refine q_ret (l := [.tmp 4]) (vs := [_]) rfl ⟨⟨rfl, show _ = (.bool _ : Value) from rfl⟩, trivial⟩ ?_
   exact ⟨congrArg Value.bool (by rw [Bool.eq_iff_iff]; simp [*] <;> omega), hs8.tail.tail⟩

end Go.Proofs
/- Plain facts: sets of up to eight numbers, and the first of the fewest. No conditions. -/
set_option maxRecDepth 100000
set_option linter.unusedSimpArgs false
set_option linter.unusedVariables false
namespace Go.Rt.Ch
open Go.Rt.Ha
def numL (l : List Int) : Nat := l.foldl (fun s z => s + 2 ^ z.toNat) 0
theorem numL_snoc (l : List Int) (z : Int) : numL (l ++ [z]) = numL l + 2 ^ z.toNat := by simp [numL]
theorem bit_div (s k : Nat) : bit s k = s / 2 ^ k % 2 := by unfold bit; rw [Nat.shiftRight_eq_div_pow, Nat.and_one_is_mod]
theorem numL_listL (s : Nat) : ∀ k, numL (listL s k) = s % 2 ^ k
  | 0 => by simp [listL, numL, Nat.mod_one]
  | k + 1 => by
    have ih := numL_listL s k
    rw [Nat.mod_pow_succ, ← bit_div]
    rcases bit_lt2 s k with h | h
    · rw [listL_no (by omega), ih, h]; simp
    · rw [listL_yes h, numL_snoc, ih, h]; simp
theorem bitDiff_zero {a b : Nat} : Ha.bitDiff a b = 0 ↔ ∀ i, bit a i = 1 → bit b i = 1 := by
  unfold Ha.bitDiff
  constructor
  · intro h i hi
    rw [bit_iff] at *
    have := congrArg (fun x => x.testBit i) h
    simp only [Nat.testBit_and, Nat.testBit_xor, Nat.zero_testBit, hi] at this
    simpa using this
  · intro h
    apply Nat.eq_of_testBit_eq
    intro i
    simp only [Nat.testBit_and, Nat.testBit_xor, Nat.zero_testBit]
    cases ha : a.testBit i with
    | false => rfl
    | true => rw [(bit_iff b i).1 (h i ((bit_iff a i).2 ha))]; rfl
theorem bit_out {s n i : Nat} (h : s < 2 ^ n) (hi : n ≤ i) : bit s i = 0 := by
  rw [bit_div, Nat.div_eq_of_lt (Nat.lt_of_lt_of_le h (Nat.pow_le_pow_right (by omega) hi))]
end Go.Rt.Ch
/- Plain words of the chain layer: boards without some numbers shown, step by step. No conditions. -/
set_option linter.unusedSimpArgs false
set_option linter.unusedVariables false
namespace Go.Rt.Ch
open Go.Rt.Ha
theorem butFrom_len (n s : Nat) : ∀ (l : List Ctr) (i : Nat), (butFrom n s i l).length = l.length
  | [], _ => rfl
  | c :: l, i => by simp only [butFrom, List.length_cons, butFrom_len n s l (i + 1)]
theorem butFrom_get {n s : Nat} : ∀ {l : List Ctr} {i k : Nat} (h : k < l.length), (butFrom n s i l)[k]'(by rw [butFrom_len]; exact h) = butC n s (i + k) l[k]
  | c :: l, i, 0, h => rfl
  | c :: l, i, k + 1, h => by
    simp only [butFrom, List.getElem_cons_succ]
    rw [butFrom_get (l := l) (i := i + 1) (k := k) (by simpa using h), show i + 1 + k = i + (k + 1) by omega]
theorem butB_len (b : Board) (s : Nat) : (butB b s).ctrs.length = b.ctrs.length := butFrom_len _ _ _ _
theorem butB_get {b : Board} {s k : Nat} (h : k < b.ctrs.length) : (butB b s).ctrs[k]'(by rw [butB_len]; exact h) = butC b.hours.length s k b.ctrs[k] := by
  have := butFrom_get (n := b.hours.length) (s := s) (i := 0) h
  rw [Nat.zero_add] at this; exact this
theorem butC_slen (n s i : Nat) (c : Ctr) : (butC n s i c).shown.length = c.shown.length := by simp [butC]
theorem butB_ok {b : Board} (h : b.Ok) (s : Nat) : (butB b s).Ok := by
  refine ⟨h.holds, h.lh, by rw [butB_len]; exact h.lc, h.hour, fun c hc => ?_⟩
  obtain ⟨k, hk, rfl⟩ := List.getElem_of_mem hc
  have hk2 : k < b.ctrs.length := by rw [butB_len] at hk; exact hk
  rw [butB_get hk2]
  have ho := h.ctr _ (List.getElem_mem hk2)
  refine ⟨ho.skip, ho.twice, ho.start, ho.lz, by rw [butC_slen]; exact ho.ls, ho.zero, fun z hz => ?_, ho.nm⟩
  simp only [butC, List.mem_map, List.mem_range] at hz
  obtain ⟨j, hj, rfl⟩ := hz
  split
  · omega
  · have : b.ctrs[k].shown.getD j 0 = b.ctrs[k].shown[j] := by simp [List.getD, hj]
    rw [this]; exact ho.shown _ (List.getElem_mem hj)
/-- The counters, of which the first so many have been gone through. -/
def BL (b : Board) (s i : Nat) : List Ctr := (butB b s).ctrs.take i ++ b.ctrs.drop i
theorem BL_len {b : Board} {s i : Nat} (h : i ≤ b.ctrs.length) : (BL b s i).length = b.ctrs.length := by
  unfold BL; rw [List.length_append, List.length_take, List.length_drop, butB_len]; omega
theorem BL_zero (b : Board) (s : Nat) : BL b s 0 = b.ctrs := by simp [BL]
theorem BL_all {b : Board} {s i : Nat} (h : b.ctrs.length ≤ i) : BL b s i = (butB b s).ctrs := by
  unfold BL; rw [List.take_of_length_le (by rw [butB_len]; exact h), List.drop_of_length_le h, List.append_nil]
theorem BL_get {b : Board} {s i : Nat} (h : i < b.ctrs.length) : (BL b s i)[i]'(by rw [BL_len (by omega)]; exact h) = b.ctrs[i] := by
  have hl : ((butB b s).ctrs.take i).length = i := by rw [List.length_take, butB_len]; omega
  unfold BL
  rw [List.getElem_append_right (by omega)]
  simp [hl]
theorem BL_set {b : Board} {s i : Nat} (h : i < b.ctrs.length) : BL b s (i + 1) = (BL b s i).set i (butC b.hours.length s i b.ctrs[i]) := by
  have hl : ((butB b s).ctrs.take i).length = i := by rw [List.length_take, butB_len]; omega
  unfold BL
  rw [List.set_append_right _ _ (by omega), hl, Nat.sub_self, List.drop_eq_getElem_cons h, List.set_cons_zero, List.take_succ_eq_append_getElem (by rw [butB_len]; exact h), butB_get h, List.append_assoc]; rfl
def setPc (q : Nat → AtC) (i : Nat) (a : Option Addr) (c : Nat) : Nat → AtC := fun j => if j = i then { q i with «as» := a, cs := c } else q j
theorem krows_set {l : List Ctr} {q : Nat → AtC} {i : Nat} {c : Ctr} {a : Option Addr} {cp : Nat} (hi : i < l.length) (hc : c.cells { q i with «as» := a, cs := cp } = (l[i].cells (q i)).set 5 (.slice a l[i].shown.length cp)) : (krows l q).set i ((l[i].cells (q i)).set 5 (.slice a l[i].shown.length cp)) = krows (l.set i c) (setPc q i a cp) := by
  unfold krows
  apply List.ext_getElem
  · simp
  · intro k h1 h2
    have hk : k < l.length := by simpa using h1
    rw [List.getElem_set, List.getElem_mapIdx, List.getElem_mapIdx, List.getElem_set]
    by_cases e : i = k
    · subst e
      rw [if_pos rfl, if_pos rfl]
      unfold setPc; rw [if_pos rfl]; exact hc.symm
    · rw [if_neg e, if_neg e]
      unfold setPc; rw [if_neg (fun h => e h.symm)]
theorem but_cells {n s i : Nat} {c : Ctr} {q : AtC} {a : Option Addr} {cp : Nat} : (butC n s i c).cells { q with «as» := a, cs := cp } = (c.cells q).set 5 (.slice a c.shown.length cp) := by
  unfold Ctr.cells
  rw [butC_slen]; rfl
/-! ### The numbers of one counter -/
def shPart (n s i k : Nat) (l : List Int) : List Int := (List.range l.length).map fun j => if j < k ∧ bit s (i * n + j) = 1 then -1 else l.getD j 0
theorem shPart_len (n s i k : Nat) (l : List Int) : (shPart n s i k l).length = l.length := by simp [shPart]
theorem shPart_zero (n s i : Nat) (l : List Int) : shPart n s i 0 l = l := by
  apply List.ext_getElem
  · rw [shPart_len]
  · intro j h1 h2; simp [shPart, List.getD, h2]
theorem shPart_get {n s i k : Nat} {l : List Int} (hk : k < l.length) : (shPart n s i k l).getD k 0 = l.getD k 0 := by
  simp [shPart, List.getD, hk]
theorem shPart_yes {n s i k : Nat} {l : List Int} (hk : k < l.length) (h : bit s (i * n + k) = 1) : (shPart n s i k l).set k (-1) = shPart n s i (k + 1) l := by
  apply List.ext_getElem
  · simp [shPart]
  · intro j h1 h2
    have hj : j < l.length := by rwa [shPart_len] at h2
    rw [List.getElem_set]
    by_cases e : k = j
    · subst e; simp [shPart, h]
    · rw [if_neg e]
      have e2 : (j < k + 1) ↔ (j < k) := by omega
      simp [shPart, e2]
theorem shPart_no {n s i k : Nat} {l : List Int} (h : bit s (i * n + k) = 0) : shPart n s i k l = shPart n s i (k + 1) l := by
  apply List.ext_getElem
  · simp [shPart]
  · intro j h1 h2
    by_cases e : j = k
    · subst e; simp [shPart, h]
    · have e2 : (j < k + 1) ↔ (j < k) := by omega
      simp [shPart, e2]
theorem shPart_all {n s i k : Nat} {c : Ctr} (hk : c.shown.length ≤ k) : shPart n s i k c.shown = (butC n s i c).shown := by
  unfold shPart butC
  refine List.map_congr_left fun j hj => ?_
  rw [List.mem_range] at hj
  have : j < k := by omega
  simp [this]
/-! ### Whether all of a set are shown -/
def WOK (b : Board) (s m : Nat) : Prop := ∀ j, j < m → ¬ (bit s j = 1 ∧ shownAt b j = -1)
theorem shown_at {b : Board} {i k : Nat} (hi : i < b.ctrs.length) (hk : k < b.hours.length) : shownAt b (i * b.hours.length + k) = b.ctrs[i].shown.getD k 0 := by
  unfold shownAt
  have e1 : (i * b.hours.length + k) / b.hours.length = i := by
    rw [Nat.mul_comm, Nat.mul_add_div (by omega), Nat.div_eq_of_lt hk]; omega
  have e2 : (i * b.hours.length + k) % b.hours.length = k := by
    rw [Nat.mul_comm, Nat.mul_add_mod, Nat.mod_eq_of_lt hk]
  rw [e1, e2, ctr_at hi]
theorem wok_no {b : Board} {s i k : Nat} (h : WOK b s (i * b.hours.length + k)) (hb : bit s (i * b.hours.length + k) = 0) : WOK b s (i * b.hours.length + (k + 1)) := by
  intro j hj
  by_cases e : j = i * b.hours.length + k
  · subst e; rintro ⟨h1, _⟩; omega
  · exact h j (by omega)
theorem wok_yes {b : Board} {s i k : Nat} (hi : i < b.ctrs.length) (hk : k < b.hours.length) (h : WOK b s (i * b.hours.length + k)) (hs : ¬ b.ctrs[i].shown.getD k 0 = -1) : WOK b s (i * b.hours.length + (k + 1)) := by
  intro j hj
  by_cases e : j = i * b.hours.length + k
  · subst e; rintro ⟨_, h2⟩; rw [shown_at hi hk] at h2; exact hs h2
  · exact h j (by omega)
theorem wok_row {b : Board} {s i k : Nat} (hk : b.hours.length ≤ k) (hk2 : k ≤ b.hours.length) (h : WOK b s (i * b.hours.length + k)) : WOK b s ((i + 1) * b.hours.length + 0) := by
  have : k = b.hours.length := by omega
  subst this
  rw [Nat.succ_mul]; exact h
theorem wrongS_no {b : Board} {s i k : Nat} (hi : i < b.ctrs.length) (hk : k < b.hours.length) (hb : bit s (i * b.hours.length + k) = 1) (hs : b.ctrs[i].shown.getD k 0 = -1) : wrongS b s = false := by
  unfold wrongS
  rw [Bool.and_eq_false_iff]
  left
  rw [List.all_eq_false]
  have hlt : i * b.hours.length + k < b.hours.length * b.ctrs.length := by
    have h1 : (i + 1) * b.hours.length ≤ b.ctrs.length * b.hours.length := Nat.mul_le_mul_right _ (by omega)
    rw [Nat.succ_mul, Nat.mul_comm b.ctrs.length] at h1
    omega
  refine ⟨_, List.mem_range.2 hlt, ?_⟩
  rw [shown_at hi hk, hb, hs]; simp
theorem wrongS_yes {b : Board} {s i : Nat} (hi : b.ctrs.length ≤ i) (h : WOK b s (i * b.hours.length + 0)) : wrongS b s = !(truths (butB b s)).isEmpty := by
  unfold wrongS
  rw [List.all_eq_true.2, Bool.true_and]
  intro j hj
  rw [List.mem_range] at hj
  have h1 : b.ctrs.length * b.hours.length ≤ i * b.hours.length := Nat.mul_le_mul_right _ hi
  rw [Nat.mul_comm] at h1
  have := h j (by omega)
  simp only [Bool.not_eq_true', Bool.and_eq_false_iff, decide_eq_false_iff_not]
  by_cases e : bit s j = 1
  · exact .inr fun h2 => this ⟨e, h2⟩
  · exact .inl e
theorem mul_in8 {n c i k : Nat} (hn : n ≤ 4) (hc : c ≤ 2) (hi : i < c) (hk : k < n) : i * n + k < 8 ∧ i * n ≤ 4 := by
  have h1 : i * n ≤ 1 * 4 := Nat.mul_le_mul (by omega) hn
  omega
end Go.Rt.Ch
/- Plain laws of the chain layer: numbers that must be wrong. No program in sight. No conditions. -/
set_option linter.unusedSimpArgs false
set_option linter.unusedVariables false
namespace Go.Rt.Ch
open Go.Rt.Ha
/-! ### The numbers that counters show -/
def subTo (b : Board) : Nat → Nat
  | 0 => 0
  | k + 1 => if shownAt b k = -1 then subTo b k else 2 ^ k + subTo b k
theorem subTo_lt (b : Board) : ∀ k, subTo b k < 2 ^ k
  | 0 => by simp [subTo]
  | k + 1 => by
    have := subTo_lt b k
    unfold subTo; rw [Nat.pow_succ]; split <;> omega
theorem subTo_bit (b : Board) : ∀ {k j : Nat}, j < k → (bit (subTo b k) j = 1 ↔ ¬ shownAt b j = -1)
  | k + 1, j, h => by
    have hl := subTo_lt b k
    unfold subTo
    by_cases e : j = k
    · subst e
      split
      · rename_i hs
        rw [bit_out hl (Nat.le_refl _)]; simp [hs]
      · rename_i hs
        rw [bit_iff, Nat.testBit_two_pow_add_eq, Nat.testBit_lt_two_pow hl]; simp [hs]
    · have ih := subTo_bit b (k := k) (j := j) (by omega)
      split
      · exact ih
      · rw [bit_iff, Nat.testBit_two_pow_add_gt (by omega), ← bit_iff]; exact ih
def mN (b : Board) : Nat := b.hours.length * b.ctrs.length
/-- All numbers shown. -/
def nums (b : Board) : List Int := listL (subTo b (mN b)) (mN b)
def numsTo (b : Board) (k : Nat) : List Int := listL (subTo b k) k
/-! ### With no number there is a truth -/
theorem step_some {c : Ctr} {n k : Nat} {s load : Int} (hok : c.Ok n) (hk : k < n) (hl : 0 ≤ load) (hs : c.shown.getD k 0 = -1) : stepsC c k s load ≠ [] := by
  have key : ∀ z, canZ c k z = true → stepsZ c k s load z ≠ [] := by
    intro z hz
    have h1 := hok.skip
    have h2 := hok.twice
    have : (⟨load + 0, shOf s z (load + 0), z⟩ : Way) ∈ stepsZ c k s load z := by
      unfold stepsZ
      rw [if_pos hz, List.mem_flatMap]
      refine ⟨0, span_mem.2 ⟨by omega, by omega⟩, ?_⟩
      rw [if_pos (by omega)]
      unfold wayR
      rw [if_pos (.inl hs)]
      exact List.mem_singleton.2 rfl
    exact List.ne_nil_of_mem this
  unfold stepsC
  intro h
  rw [List.append_eq_nil_iff] at h
  by_cases hz : c.zero.getD k 0 = 1
  · exact key true (show decide (c.zero.getD k 0 ≠ 0) = true from decide_eq_true (by omega)) h.2
  · exact key false (show decide (c.zero.getD k 0 ≠ 1) = true from decide_eq_true hz) h.1
theorem fare_some {c : Ctr} {n : Nat} {l : List Int} {q : Quest} (hok : c.Ok n) (hl : ∀ k, 0 ≤ ld l k) (hs : ∀ k, k < n → c.shown.getD k 0 = -1) : ∀ k, k ≤ n → fareTo c l q k ≠ []
  | 0, _ => by simp [fareTo]
  | k + 1, h => by
    have ih := fare_some (q := q) hok hl hs k (by omega)
    obtain ⟨x, hx⟩ := List.exists_mem_of_ne_nil _ ih
    obtain ⟨w, hw⟩ := List.exists_mem_of_ne_nil _ (step_some (s := x.1) hok (show k < n by omega) (hl k) (hs k (by omega)))
    refine List.ne_nil_of_mem (a := (w.shows, x.2 || q k (ld l k) w)) ?_
    simp only [fareTo, List.mem_flatMap, List.mem_map]
    exact ⟨x, hx, w, hw, rfl⟩
theorem can_none {b : Board} (hok : b.Ok) {l : List Int} (hl : ∀ k, 0 ≤ ld l k) (hs : ∀ c ∈ b.ctrs, ∀ k, k < b.hours.length → c.shown.getD k 0 = -1) : canL b l = true := by
  unfold canL
  rw [List.all_eq_true]
  intro c hc
  obtain ⟨x, hx⟩ := List.exists_mem_of_ne_nil _ (fare_some (q := slips) (hok.ctr c hc) hl (hs c hc) _ (Nat.le_refl _))
  rw [Bool.or_eq_true]
  cases e : x.2 with
  | false => left; exact List.any_eq_true.2 ⟨x, hx, by rw [e]; rfl⟩
  | true => right; exact List.any_eq_true.2 ⟨x, hx, e⟩
theorem truths_none {b : Board} (hok : b.Ok) (hs : ∀ c ∈ b.ctrs, ∀ k, k < b.hours.length → c.shown.getD k 0 = -1) : truths b ≠ [] := by
  have hf : (b.hours.map fun h => h.lo) ∈ felt (bun b) := by
    refine (felt_in _ _).2 ⟨by simp [bun], fun i hi => ?_⟩
    have hi2 : i < b.hours.length := by simpa [bun] using hi
    have e : at_ (b.hours.map fun h => h.lo) i = b.hours[i].lo := by simp [at_, List.getD, hi2]
    have e2 : (bun b)[i] = ⟨b.hours[i].lo, b.hours[i].hi, 0, 0⟩ := bun_at hi2
    rw [e, e2]
    have := (hok.hour _ (List.getElem_mem hi2)).le
    exact ⟨Int.le_refl _, this⟩
  refine List.ne_nil_of_mem (List.mem_filter.2 ⟨hf, can_none hok (fun k => ?_) hs⟩)
  exact (felt_40 hok hf k).1
theorem but_none {b : Board} (hok : b.Ok) : truths (butB b (subTo b (mN b))) ≠ [] := by
  refine truths_none (butB_ok hok _) fun c hc k hk => ?_
  obtain ⟨i, hi, rfl⟩ := List.getElem_of_mem hc
  have hi2 : i < b.ctrs.length := by rw [butB_len] at hi; exact hi
  rw [butB_get hi2]
  have hk2 : k < b.hours.length := hk
  have hls := (hok.ctr _ (List.getElem_mem hi2)).ls
  have hm : i * b.hours.length + k < mN b := by
    unfold mN
    have : (i + 1) * b.hours.length ≤ b.ctrs.length * b.hours.length := Nat.mul_le_mul_right _ hi2
    rw [Nat.succ_mul] at this
    rw [Nat.mul_comm b.hours.length]; omega
  have hb := subTo_bit b hm
  rw [shown_at hi2 hk2] at hb
  unfold butC
  simp only [List.getD, List.getElem?_map, List.getElem?_range (show k < b.ctrs[i].shown.length by omega), Option.map_some, Option.getD_some]
  split
  · rfl
  · rename_i hne
    by_cases h : b.ctrs[i].shown.getD k 0 = -1
    · simpa [List.getD] using h
    · exact absurd (hb.2 h) hne
/-! ### The first of the fewest -/
def wP (b : Board) (x : List Int) : Bool := !(truths (butB b (numL x))).isEmpty
theorem wrong_do {b : Board} {s : Nat} (hs : s < 2 ^ mN b) : wrongS b s = (decide (Ha.bitDiff s (subTo b (mN b)) = 0) && wP b (listL s (mN b))) := by
  unfold wrongS wP
  rw [numL_listL, Nat.mod_eq_of_lt hs]
  congr 1
  rw [Bool.eq_iff_iff, List.all_eq_true, decide_eq_true_eq, bitDiff_zero]
  constructor
  · intro h i hi
    by_cases hm : i < mN b
    · refine (subTo_bit b hm).2 fun e => ?_
      have := h i (List.mem_range.2 hm)
      simp [hi, e] at this
    · rw [bit_out hs (by omega)] at hi; cases hi
  · intro h k hk
    have hm : k < mN b := List.mem_range.1 hk
    by_cases hb : bit s k = 1
    · have := (subTo_bit b hm).1 (h k hb)
      simp [this]
    · simp [hb]
end Go.Rt.Ch
/- Plain law of the hand layer: a lot that is told by a way denies nothing. No conditions. -/
set_option linter.unusedSimpArgs false
set_option linter.unusedVariables false
namespace Go.Rt.Ha
structure TrueB (l : Lot) (h : List Int) (b : Nat) (s : Int) : Prop where
  hands : (handsP (told l h) b).2 = 0 ∧ (handsP (told l h) b).1.1 ≤ at_ h b ∧ at_ h b ≤ (handsP (told l h) b).1.2
  grade : (gradeP (told l h) b).2 = 0 ∧ hasI (gradeP (told l h) b).1 (ofG l.grades 0 (at_ h b) s) = true
  may : ofG l.grades 0 (at_ h b) s = -1 → hasI (refusedP (told l h)).2.1 b = true
  sure : ofG l.grades 0 (at_ h b) s ≠ -1 → hasI (refusedP (told l h)).1 b = false
/-- How many hands are of a grade. -/
def ofSum (l : Lot) (h : List Int) (sc : Nat → Int) (g : Int) : Nat → Int
  | 0 => 0
  | k + 1 => ofSum l h sc g k + if ofG l.grades 0 (at_ h k) (sc k) = g then at_ h k else 0
def allSum (h : List Int) : Nat → Int
  | 0 => 0
  | k + 1 => allSum h k + at_ h k
def gradeSums (l : Lot) (h : List Int) (sc : Nat → Int) (k : Nat) : Nat → Int
  | 0 => 0
  | n + 1 => gradeSums l h sc k n + ofSum l h sc n k
end Go.Rt.Ha
/- Plain law of the hand layer: one more count. No conditions. -/
set_option linter.unusedSimpArgs false
set_option linter.unusedVariables false
namespace Go.Rt.Ha
def moreL (l : Lot) (c : Count) : Lot := { l with counts := l.counts ++ [c] }
end Go.Rt.Ha
/- Plain law of the hand layer: with one more count nothing is wider. No conditions. -/
set_option linter.unusedSimpArgs false
set_option linter.unusedVariables false
namespace Go.Rt.Ha
/-- What a lot with fewer ways tells. -/
structure LessB (l l' : Lot) (b : Nat) : Prop where
  e1 : (handsP l b).2 = 0
  e2 : (handsP l' b).2 = 0
  e3 : (gradeP l b).2 = 0
  e4 : (gradeP l' b).2 = 0
  hands : (handsP l b).1.1 ≤ (handsP l' b).1.1 ∧ (handsP l' b).1.2 ≤ (handsP l b).1.2
  grade : ∀ z ∈ (gradeP l' b).1, z ∈ (gradeP l b).1
end Go.Rt.Ha
/- Plain law of the hand layer: the fewest counts that must be wrong. No conditions. -/
set_option linter.unusedSimpArgs false
set_option linter.unusedVariables false
namespace Go.Rt.Ha
def butC (but : List Int) : Nat → List Count → List Count
  | _, [] => []
  | i, c :: l => if hasI but i then butC but (i + 1) l else c :: butC but (i + 1) l
def butL (l : Lot) (but : List Int) : Lot := { l with counts := butC but 0 l.counts }
structure FewF (l : Lot) (x : Nat) : Prop where
  e : (wrongP l).2 = 0
  is : ∃ b, b < 2 ^ l.counts.length ∧ (wrongP l).1 = listL b l.counts.length
  f : (refusedP (butL l (wrongP l).1)).2.2 = 0
  g : (refusedP (butL l (listL x l.counts.length))).2.2 = 8 ∨ ((refusedP (butL l (listL x l.counts.length))).2.2 = 0 ∧ before (listL x l.counts.length) (wrongP l).1 = false)
end Go.Rt.Ha
/- Plain help of the hand layer's laws: rising lists, fewer, counts left out. No conditions. -/
set_option linter.unusedSimpArgs false
set_option linter.unusedVariables false
namespace Go.Rt.Ha
def rising (n : Int) : Int → List Int → Bool
  | _, [] => true
  | p, x :: l => !(decide (x ≤ p) || decide (n ≤ x)) && rising n x l
theorem rising_stop {n p : Int} {l : List Int} {i : Nat} (hi : i < l.length) (h : l[i] ≤ p ∨ n ≤ l[i]) : rising n p (l.drop i) = false := by
  rw [List.drop_eq_getElem_cons hi]
  simp only [rising, Bool.and_eq_false_iff, Bool.not_eq_false', Bool.or_eq_true, decide_eq_true_eq]
  exact .inl h
theorem rising_step {n p : Int} {l : List Int} {i : Nat} (hi : i < l.length) (h : p < l[i]) (h2 : l[i] < n) : rising n p (l.drop i) = rising n l[i] (l.drop (i + 1)) := by
  rw [List.drop_eq_getElem_cons hi]
  simp only [rising]
  rw [decide_eq_false (by omega), decide_eq_false (by omega)]; rfl
theorem rising_end {n p : Int} {l : List Int} {i : Nat} (hi : l.length ≤ i) : rising n p (l.drop i) = true := by rw [List.drop_of_length_le hi]; rfl
theorem rising_snoc {n x : Int} : ∀ (l : List Int) (p : Int), (∀ y ∈ l, y < x) → p < x → x < n → rising n p l = true → rising n p (l ++ [x]) = true
  | [], p, _, h1, h2, _ => by
    simp only [List.nil_append, rising, Bool.and_true, Bool.not_eq_true', Bool.or_eq_false_iff, decide_eq_false_iff_not]; omega
  | y :: l, p, h, h1, h2, h3 => by
    simp only [List.cons_append, rising, Bool.and_eq_true] at h3 ⊢
    exact ⟨h3.1, rising_snoc l y (fun z hz => h z (.tail _ hz)) (h y (.head _)) h2 h3.2⟩
theorem listL_lt (b : Nat) : ∀ n, ∀ y ∈ listL b n, 0 ≤ y ∧ y < (n : Int)
  | 0, y, h => by simp [listL] at h
  | n + 1, y, h => by
    rw [listL, List.mem_append] at h
    rcases h with h | h
    · have := listL_lt b n y h; omega
    · split at h
      · simp at h; omega
      · simp at h
theorem list_rising {m : Int} (b : Nat) : ∀ n : Nat, (n : Int) ≤ m → rising m (-1) (listL b n) = true
  | 0, _ => rfl
  | n + 1, h => by
    rw [listL]
    split
    · exact rising_snoc _ _ (fun y hy => (listL_lt b n y hy).2) (by omega) (by omega) (list_rising b n (by omega))
    · rw [List.append_nil]; exact list_rising b n (by omega)
theorem before_fewer (a b : List Int) : (if a.length = b.length then less a b else decide (a.length < b.length)) = before a b := by
  unfold before
  by_cases h : a.length = b.length
  · rw [if_pos h]; simp [h]
  · rw [if_neg h]; simp [h]
end Go.Rt.Ha
/- Plain laws of the chain layer: the fewest numbers that must be wrong. No program in sight. No conditions. -/
set_option maxRecDepth 100000
set_option linter.unusedSimpArgs false
set_option linter.unusedVariables false
namespace Go.Rt.Ch
open Go.Rt.Ha
/-! ### Boards without an error -/
theorem out_ff {lo hi n : Int} (h : lo ≤ n ∧ n ≤ hi) : out lo hi n = false := out_f.2 h
theorem check_iff {b : Board} : (check b).2.2 = 0 ↔ (1 ≤ b.holds ∧ b.holds ≤ 3) ∧ (failE (hourE b.holds) 0 4 b.hours).2 = 0 ∧ (failE (ctrE b.hours.length) 0 2 b.ctrs).2 = 0 := by
  unfold check
  cases h1 : out 1 3 b.holds with
  | true =>
    rw [if_pos rfl]
    constructor
    · intro h; cases h
    · rintro ⟨h, _⟩; rw [out_ff h] at h1; cases h1
  | false =>
    rw [if_neg (by simp)]
    have h1' := out_f.1 h1
    by_cases h2 : (failE (hourE b.holds) 0 4 b.hours).2 = 0
    · rw [if_neg (by simp [h2])]
      by_cases h3 : (failE (ctrE b.hours.length) 0 2 b.ctrs).2 = 0
      · rw [if_neg (by simp [h3])]; exact ⟨fun _ => ⟨h1', h2, h3⟩, fun _ => rfl⟩
      · rw [if_pos h3]; exact ⟨fun h => absurd h h3, fun h => absurd h.2.2 h3⟩
    · rw [if_pos h2]; exact ⟨fun h => absurd h h2, fun h => absurd h.2.1 h2⟩
theorem any_out_f {lo hi : Int} {l : List Int} (h : ∀ z ∈ l, lo ≤ z ∧ z ≤ hi) : l.any (out lo hi) = false := by
  rw [List.any_eq_false]; intro z hz; rw [out_ff (h z hz)]; simp
theorem ctrE_ok {n : Nat} {bf : List Ctr} {c : Ctr} (hn : nameE (bf.map (·.name)) c.name = 0) (ho : c.Ok n) : ctrE n bf c = 0 := by
  unfold ctrE
  rw [if_neg (by simp [hn]), out_ff ho.skip, out_ff ho.twice, out_ff ho.start]
  simp only [Bool.or_self, Bool.false_eq_true, if_false]
  rw [if_neg (by simp [ho.lz, ho.ls]), any_out_f ho.zero, any_out_f ho.shown]; rfl
theorem ctrE_name {n : Nat} {bf : List Ctr} {c : Ctr} (h : ctrE n bf c = 0) : nameE (bf.map (·.name)) c.name = 0 := by
  unfold ctrE at h
  by_cases h0 : nameE (bf.map (·.name)) c.name = 0
  · exact h0
  · rw [if_pos h0] at h; exact absurd h h0
/-! ### What Wrong tells -/
theorem sub_full {b : Board} (hok : b.Ok) : wrongS b (subTo b (mN b)) = true := by
  rw [wrong_do (subTo_lt b _), decide_eq_true (bitDiff_zero.2 fun _ h => h), Bool.true_and]
  unfold wP
  rw [numL_listL, Nat.mod_eq_of_lt (subTo_lt b _)]
  cases ht : truths (butB b (subTo b (mN b))) with
  | nil => exact absurd ht (but_none hok)
  | cons x y => rfl
structure WrongF (b : Board) (s : Nat) : Prop where
  lt : s < 2 ^ mN b
  is : wrongP b = (listL s (mN b), 0)
  yes : wrongS b s = true
  least : ∀ t, t < 2 ^ mN b → wrongS b t = true → listL t (mN b) = listL s (mN b) ∨ before (listL s (mN b)) (listL t (mN b)) = true
theorem wrong_few {b : Board} (hc : (check b).2.2 = 0) : ∃ s, WrongF b s := by
  have hok := check_ok hc
  have hf := few_min (wrongS b) (mN b) (1 <<< mN b)
  have e2 : 1 <<< mN b = 2 ^ mN b := by rw [Nat.shiftLeft_eq, Nat.one_mul]
  have hw : wrongP b = ((fewTo (wrongS b) (mN b) (1 <<< mN b)).1, 0) := by unfold wrongP; rw [if_neg (by simp [hc])]; rfl
  rw [e2] at hf hw
  cases hy : (fewTo (wrongS b) (mN b) (2 ^ mN b)).2 with
  | false =>
    have := (hf.no hy).2 _ (subTo_lt b (mN b))
    rw [sub_full hok] at this; cases this
  | true =>
    obtain ⟨s, hs, hd, e, hm⟩ := hf.yes hy
    exact ⟨s, hs, by rw [hw, e], hd, fun t ht hdt => by have := hm t ht hdt; rw [e] at this; exact this⟩
/-! ### Any other numbers -/
def otherTo (b : Board) (x i : Nat) : List Int := pickL (nums b) (listL x i)
end Go.Rt.Ch
/- Plain laws of the chain layer: hours that are told. No program in sight. No conditions. -/
set_option linter.unusedSimpArgs false
set_option linter.unusedVariables false
namespace Go.Rt.Ch
open Go.Rt.Ha
structure LookF (b : Board) (hold within : Int) (s : Nat) : Prop where
  lt : s < 2 ^ b.hours.length
  is : looksP b hold within = (listL s b.hours.length, 0)
  yes : tellsS b hold within s = true
  least : ∀ t, t < 2 ^ b.hours.length → tellsS b hold within t = true → listL t b.hours.length = listL s b.hours.length ∨ before (listL s b.hours.length) (listL t b.hours.length) = true
/-! ### A board of which some hours are told -/
def setH (t : List Int) (hs : List Hour) (z : Int) : List Hour := hs.set z.toNat ⟨(hs.getD z.toNat ⟨0, 0, 0⟩).hold, ld t z.toNat, ld t z.toNat⟩
def toldTo (b : Board) (t l : List Int) (i : Nat) : List Hour := (l.take i).foldl (setH t) b.hours
def toldB (b : Board) (t l : List Int) : Board := { b with hours := toldTo b t l l.length }
structure ToldF (b : Board) (t l : List Int) : Prop where
  len : (toldB b t l).hours.length = b.hours.length
  ck : (check (toldB b t l)).2.2 = 0
  is : t ∈ truths (toldB b t l)
  sub : ∀ m ∈ truths (toldB b t l), m ∈ like (truths b) t l
  inn : ∀ hold m, inH (toldB b t l) hold m = inH b hold m
end Go.Rt.Ch
/- Plain laws of the chain layer: a better counter. No program in sight. No conditions. -/
set_option linter.unusedSimpArgs false
set_option linter.unusedVariables false
namespace Go.Rt.Ch
open Go.Rt.Ha
/-- d can go on in no way in which c cannot. -/
structure Finer (n : Nat) (c d : Ctr) : Prop where
  skip : d.skip ≤ c.skip
  twice : d.twice ≤ c.twice
  start : d.start = c.start
  zero : d.zero = c.zero
  shown : ∀ k, k < n → c.shown.getD k 0 = -1 ∨ d.shown.getD k 0 = c.shown.getD k 0
/-- A board of which one counter is another one. -/
def setC (b : Board) (k : Nat) (d : Ctr) : Board := { b with ctrs := b.ctrs.set k d }
/-! ### Less loads that can be: narrower -/
theorem went_sub {b z : Board} (hb : someB b = true) (hz : someB z = true) (hs : ∀ l ∈ truths z, l ∈ truths b) (k : Nat) : (wentH b k).1 ≤ (wentH z k).1 ∧ (wentH z k).2 ≤ (wentH b k).2 :=
  hull_btw (someB_y hz).2.2 fun l hl => (hull_spec (someB_y hb).2.2).2.2 l (hs l hl)
/-! ### The counter that is better -/
def betC (c : Ctr) (e1 e2 : Int) (sh : List Int) : Ctr := ⟨c.name, max 0 (c.skip - e1 % 3), max 0 (c.twice - e2 % 3), c.start, c.zero, sh⟩
structure ShOk (n : Nat) (c : Ctr) (sh : List Int) : Prop where
  len : sh.length = c.shown.length
  inn : ∀ z ∈ sh, -1 ≤ z ∧ z ≤ 99
  old : ∀ k, k < n → c.shown.getD k 0 = -1 ∨ sh.getD k 0 = c.shown.getD k 0
end Go.Rt.Ch
/- Plain laws of the chain layer: a counter whose numbers are all as much greater. No program in sight. No conditions. -/
set_option linter.unusedSimpArgs false
set_option linter.unusedVariables false
namespace Go.Rt.Ch
open Go.Rt.Ha
/-- d never was set to 0, and neither was c; all that d shows is so much greater. -/
structure Turned (n : Nat) (m : Int) (c d : Ctr) : Prop where
  skip : d.skip = c.skip
  twice : d.twice = c.twice
  zc : ∀ k, c.zero.getD k 0 = 0
  zd : ∀ k, d.zero.getD k 0 = 0
  st0 : 0 ≤ c.start ∧ c.start ≤ 99
  start : d.start = (c.start + m) % 100
  lc : c.shown.length = n
  ld : d.shown.length = n
  shown : ∀ k, k < n → (c.shown.getD k 0 = -1 ∧ d.shown.getD k 0 = -1) ∨ ((0 ≤ c.shown.getD k 0 ∧ c.shown.getD k 0 ≤ 99) ∧ d.shown.getD k 0 = (c.shown.getD k 0 + m) % 100)
def TwinC (n : Nat) (c d : Ctr) : Prop := d = c ∨ ∃ m, Turned n m c d
structure TwinB (b z : Board) : Prop where
  holds : z.holds = b.holds
  hours : z.hours = b.hours
  len : z.ctrs.length = b.ctrs.length
  ctr : ∀ i (h1 : i < b.ctrs.length) (h2 : i < z.ctrs.length), TwinC b.hours.length b.ctrs[i] z.ctrs[i]
/-- What is asked does not ask what is shown. -/
def Blind (q : Quest) : Prop := ∀ k l m s t z, q k l ⟨m, s, z⟩ = q k l ⟨m, t, z⟩
def turnW (m : Int) (w : Way) : Way := ⟨w.counts, (w.shows + m) % 100, w.zero⟩
/-! ### Without some numbers -/
/-! ### The two boards of the law -/
def still (n : Nat) (c : Ctr) : Ctr := { c with zero := List.replicate n 0 }
def moreOf (m x : Int) : Int := if x = -1 then -1 else (x + m) % 100
def shifted (n : Nat) (m : Int) (c : Ctr) : Ctr := { c with zero := List.replicate n 0, start := (c.start + m) % 100, shown := c.shown.map (moreOf m) }
end Go.Rt.Ch
/- Plain laws of the chain layer: a counter left out; the counters the other way round. No program in sight. No conditions. -/
set_option maxRecDepth 100000
set_option linter.unusedSimpArgs false
set_option linter.unusedVariables false
namespace Go.Rt.Ch
open Go.Rt.Ha
/-- The board without a counter. -/
def lessB (b : Board) (u : Nat) : Board := { b with ctrs := b.ctrs.take u ++ b.ctrs.drop (u + 1) }
/-- The board with the counters the other way round. -/
def backB (b : Board) : Board := { b with ctrs := b.ctrs.reverse }
theorem less_mem {b : Board} {u : Nat} {c : Ctr} (h : c ∈ (lessB b u).ctrs) : c ∈ b.ctrs := by
  rcases List.mem_append.1 h with h | h
  · exact List.mem_of_mem_take h
  · exact List.mem_of_mem_drop h
theorem less_truths {b : Board} {u : Nat} : ∀ l ∈ truths b, l ∈ truths (lessB b u) := by
  intro l hl
  obtain ⟨h1, h2⟩ := List.mem_filter.1 hl
  refine List.mem_filter.2 ⟨h1, ?_⟩
  unfold canL at h2 ⊢
  rw [List.all_eq_true] at h2 ⊢
  intro c hc
  exact h2 c (less_mem hc)
theorem back_can (b : Board) (l : List Int) : canL (backB b) l = canL b l := by
  unfold canL
  show b.ctrs.reverse.all _ = b.ctrs.all _
  rw [List.all_reverse]; rfl
theorem back_truths (b : Board) : truths (backB b) = truths b := by
  unfold truths
  show (felt (bun b)).filter (canL (backB b)) = (felt (bun b)).filter (canL b)
  congr 1
  funext l
  exact back_can b l
/-! ### They have no error -/
theorem name_sym {a c : ByteArray} (h : nameE [a] c = 0) (ha : nmOk a = true) : nameE [c] a = 0 := by
  unfold nameE at h ⊢
  cases hc : nmOk c with
  | false => rw [hc] at h; cases h
  | true =>
    rw [hc] at h
    simp only [if_true] at h
    rw [ha, if_pos rfl]
    cases h1 : has [c] a with
    | false => rfl
    | true =>
      have h2 : has [a] c = true := by
        unfold has at h1 ⊢
        simp at h1 ⊢
        exact h1.symm
      rw [h2] at h; cases h
theorem name_one {a : ByteArray} (ha : nmOk a = true) : nameE [] a = 0 := by
  unfold nameE; rw [ha]; rfl
theorem ctrs_rev {n : Nat} {l : List Ctr} (h : (failE (ctrE n) 0 2 l).2 = 0) (hok : ∀ c ∈ l, c.Ok n) : (failE (ctrE n) 0 2 l.reverse).2 = 0 := by
  obtain ⟨h1, h2⟩ := failE_iff.1 h
  match l, h, h1, h2, hok with
  | [], h, _, _, _ => exact h
  | [a], h, _, _, _ => exact h
  | [a, c], h, h1, h2, hok =>
    have hn := ctrE_name (h2 1 (by simp))
    refine failE_iff.2 ⟨by simp, fun k hk => ctrE_ok ?_ (hok _ (List.mem_reverse.1 (List.getElem_mem hk)))⟩
    have hk2 : k < 2 := by simpa using hk
    match k, hk2 with
    | 0, _ => exact name_one (hok c (by simp)).nm
    | 1, _ => exact name_sym hn (hok a (by simp)).nm
  | a :: c :: d :: r, _, h1, _, _ => simp only [List.length_cons] at h1; omega
theorem back_check {b : Board} (hc : (check b).2.2 = 0) : (check (backB b)).2.2 = 0 := by
  obtain ⟨h1, h2, h3⟩ := check_iff.1 hc
  exact check_iff.2 ⟨h1, h2, ctrs_rev h3 (check_ok hc).ctr⟩
theorem ctrs_few {n : Nat} {l : List Ctr} (hok : ∀ c ∈ l, c.Ok n) (h : l.length ≤ 1) : (failE (ctrE n) 0 2 l).2 = 0 := by
  match l, h, hok with
  | [], _, _ => exact failE_iff.2 ⟨by simp, fun k hk => by simp at hk⟩
  | [a], _, hok =>
    refine failE_iff.2 ⟨by simp, fun k hk => ctrE_ok ?_ (hok _ (List.getElem_mem hk))⟩
    have hk2 : k = 0 := by simpa using hk
    subst hk2
    exact name_one (hok a (by simp)).nm
theorem less_check {b : Board} {u : Nat} (hu : u < b.ctrs.length) (hc : (check b).2.2 = 0) : (check (lessB b u)).2.2 = 0 := by
  obtain ⟨h1, h2, h3⟩ := check_iff.1 hc
  have hok := check_ok hc
  have hl := hok.lc
  refine check_iff.2 ⟨h1, h2, ctrs_few (fun c h => hok.ctr c (less_mem h)) ?_⟩
  show (b.ctrs.take u ++ b.ctrs.drop (u + 1)).length ≤ 1
  simp; omega
/-! ### What is told of them -/
theorem back_enter {b : Board} (hc : (check b).2.2 = 0) (e : Int) : enterE (backB b) e = enterE b e := by
  unfold enterE; rw [hc, back_check hc, back_truths]
theorem back_went {b : Board} (hc : (check b).2.2 = 0) (a : Int) : wentP (backB b) a = wentP b a := by
  unfold wentP; rw [back_enter hc, back_truths]; rfl
theorem back_ctr {b : Board} {c : Nat} (h : c < b.ctrs.length) : ctrOf (backB b) (b.ctrs.length - 1 - c) = ctrOf b c := by
  unfold ctrOf
  show b.ctrs.reverse.getD _ _ = _
  have h2 : b.ctrs.length - 1 - c < b.ctrs.reverse.length := by simp; omega
  simp only [List.getD, List.getElem?_eq_getElem h2, List.getElem?_eq_getElem h, Option.getD_some, List.getElem_reverse]
  congr 1; omega
theorem back_zero {b : Board} (hc : (check b).2.2 = 0) {c : Nat} (h : c < b.ctrs.length) (a : Int) : zeroP (backB b) ((b.ctrs.length : Int) - 1 - (c : Int)) a = zeroP b (c : Int) a := by
  have e1 : idxE ((b.ctrs.length : Int) - 1 - (c : Int)) (backB b).ctrs.length = 0 := out_no ⟨by omega, by show _ < ((b.ctrs.reverse.length : Nat) : Int); rw [List.length_reverse]; omega⟩
  have e2 : idxE (c : Int) b.ctrs.length = 0 := out_no (by omega)
  have e3 : idx2 ((b.ctrs.length : Int) - 1 - (c : Int)) (backB b).ctrs.length a (backB b).hours.length = idx2 (c : Int) b.ctrs.length a b.hours.length := by
    unfold idx2; rw [e1, e2]; rfl
  have e4 : ((b.ctrs.length : Int) - 1 - (c : Int)).toNat = b.ctrs.length - 1 - c := by omega
  have e5 : ∀ q, askN (backB b) (b.ctrs.length - 1 - c) q = askN b c q ∧ askM (backB b) (b.ctrs.length - 1 - c) q = askM b c q := by
    intro q; unfold askN askM; rw [back_truths, back_ctr h]; exact ⟨rfl, rfl⟩
  unfold zeroP
  rw [e3, back_enter hc, e4, Int.toNat_natCast, (e5 _).1, (e5 _).2]
theorem less_went {b : Board} {u : Nat} (hc : (check b).2.2 = 0) (hu : u < b.ctrs.length) {k : Nat} (hk : k < b.hours.length) (h0 : (wentP b (k : Int)).2 = 0) :
    (wentP (lessB b u) (k : Int)).2 = 0 ∧ (wentP (lessB b u) (k : Int)).1.1 ≤ (wentP b (k : Int)).1.1 ∧ (wentP b (k : Int)).1.2 ≤ (wentP (lessB b u) (k : Int)).1.2 := by
  have hs : someB b = true := by
    cases h : someB b with
    | true => rfl
    | false => unfold wentP at h0; rw [if_pos (someB_n h _)] at h0; exact absurd h0 (someB_n h _)
  obtain ⟨_, _, hne⟩ := someB_y hs
  have hz : someB (lessB b u) = true := by
    unfold someB
    rw [decide_eq_true (less_check hu hc), Bool.true_and]
    obtain ⟨l, hl⟩ := List.exists_mem_of_ne_nil _ hne
    have := less_truths (u := u) l hl
    cases ht : truths (lessB b u) with
    | nil => rw [ht] at this; cases this
    | cons x y => rfl
  rw [went_at hs hk, went_at hz (show k < (lessB b u).hours.length from hk)]
  exact ⟨rfl, went_sub hz hs less_truths k⟩
/-! ### As many wrong -/
def swapS (n s : Nat) : Nat := s / 2 ^ n % 2 ^ n + s % 2 ^ n * 2 ^ n
theorem swap_all : ∀ n < 5, ∀ s < 256, s < 2 ^ (n * 2) → swapS n s < 2 ^ (n * 2) ∧ swapS n (swapS n s) = s ∧ (listL (swapS n s) (n * 2)).length = (listL s (n * 2)).length ∧ ∀ k < n, bit (swapS n s) k = bit s (n + k) ∧ bit (swapS n s) (n + k) = bit s k := by decide +kernel
theorem swap_pow {n s : Nat} (hn : n ≤ 4) (h : s < 2 ^ (n * 2)) : s < 256 := by
  have : 2 ^ (n * 2) ≤ 2 ^ 8 := Nat.pow_le_pow_right (by omega) (by omega)
  omega
theorem swap_but {n s : Nat} {i j : Nat} {c : Ctr} (hl : c.shown.length ≤ n) (h : ∀ k < n, bit (swapS n s) (j * n + k) = bit s (i * n + k)) : butC n (swapS n s) j c = butC n s i c := by
  unfold butC
  congr 1
  apply List.map_congr_left
  intro k hk
  rw [h k (by have := List.mem_range.1 hk; omega)]
theorem back_but {b : Board} (hok : b.Ok) {s : Nat} {x y : Ctr} (h2 : b.ctrs = [x, y]) (hs : s < 2 ^ (b.hours.length * 2)) : butB (backB b) (swapS b.hours.length s) = backB (butB b s) := by
  have hn := hok.lh
  have hw := (swap_all _ (by omega) s (swap_pow hn hs) hs).2.2.2
  have hx := (hok.ctr x (by rw [h2]; simp)).ls
  have hy := (hok.ctr y (by rw [h2]; simp)).ls
  unfold butB backB
  dsimp only
  rw [h2]
  show Board.mk _ _ [butC _ _ 0 y, butC _ _ 1 x] = Board.mk _ _ [butC _ _ 1 y, butC _ _ 0 x]
  rw [swap_but (i := 1) (j := 0) (by omega) (fun k hk => by rw [Nat.zero_mul, Nat.zero_add, Nat.one_mul]; exact (hw k hk).1), swap_but (i := 0) (j := 1) (by omega) (fun k hk => by rw [Nat.zero_mul, Nat.zero_add, Nat.one_mul]; exact (hw k hk).2)]
theorem shown_two {b : Board} {x y : Ctr} (h2 : b.ctrs = [x, y]) {k : Nat} (hk : k < b.hours.length) : shownAt b k = x.shown.getD k 0 ∧ shownAt b (b.hours.length + k) = y.shown.getD k 0 := by
  unfold shownAt ctrOf
  rw [h2, Nat.div_eq_of_lt hk, Nat.mod_eq_of_lt hk, Nat.add_div_left _ (by omega), Nat.div_eq_of_lt hk, Nat.add_mod_left, Nat.mod_eq_of_lt hk]
  exact ⟨rfl, rfl⟩
theorem back_wrongS {b : Board} (hok : b.Ok) {s : Nat} {x y : Ctr} (h2 : b.ctrs = [x, y]) (hs : s < 2 ^ (b.hours.length * 2)) : wrongS (backB b) (swapS b.hours.length s) = wrongS b s := by
  have hn := hok.lh
  have hw := (swap_all _ (by omega) s (swap_pow hn hs) hs).2.2.2
  have hl : (backB b).ctrs.length = 2 := by show b.ctrs.reverse.length = 2; rw [h2]; rfl
  have hl2 : b.ctrs.length = 2 := by rw [h2]; rfl
  have hr : (backB b).ctrs = [y, x] := by show b.ctrs.reverse = _; rw [h2]; rfl
  unfold wrongS
  rw [back_but hok h2 hs, back_truths, hl, hl2]
  congr 1
  show (List.range (b.hours.length * 2)).all _ = _
  rw [Bool.eq_iff_iff, List.all_eq_true, List.all_eq_true]
  have split : ∀ P : Nat → Prop, (∀ k ∈ List.range (b.hours.length * 2), P k) ↔ ∀ k < b.hours.length, P k ∧ P (b.hours.length + k) := by
    intro P
    constructor
    · intro h k hk
      exact ⟨h k (List.mem_range.2 (by omega)), h _ (List.mem_range.2 (by omega))⟩
    · intro h k hk
      have hk2 := List.mem_range.1 hk
      by_cases e : k < b.hours.length
      · exact (h k e).1
      · have := (h (k - b.hours.length) (by omega)).2
        rw [show b.hours.length + (k - b.hours.length) = k by omega] at this
        exact this
  rw [split, split]
  refine forall_congr' fun k => forall_congr' fun hk => ?_
  have e1 := shown_two h2 hk
  have e2 := shown_two hr (show k < (backB b).hours.length from hk)
  have e3 : shownAt (backB b) (b.hours.length + k) = x.shown.getD k 0 := e2.2
  rw [e1.1, e1.2, e2.1, e3, (hw k hk).1, (hw k hk).2]
  exact and_comm
theorem before_le {l m : List Int} (h : before l m = true) : l.length ≤ m.length := by
  unfold before at h
  simp only [Bool.or_eq_true, Bool.and_eq_true, decide_eq_true_eq] at h
  omega
theorem few_le {b : Board} {s t : Nat} (hF : WrongF b s) (ht : t < 2 ^ mN b) (hy : wrongS b t = true) : (listL s (mN b)).length ≤ (listL t (mN b)).length := by
  rcases hF.least t ht hy with h | h
  · rw [h]; exact Nat.le_refl _
  · exact before_le h
theorem back_wrong {b : Board} (hc : (check b).2.2 = 0) (hu : 0 < b.ctrs.length) : (wrongP b).2 = 0 ∧ (wrongP (backB b)).2 = 0 ∧ (wrongP (backB b)).1.length = (wrongP b).1.length := by
  have hok := check_ok hc
  have hok2 := check_ok (back_check hc)
  have hlc := hok.lc
  have hlh := hok.lh
  obtain ⟨s, hF⟩ := wrong_few hc
  obtain ⟨t, hG⟩ := wrong_few (back_check hc)
  rw [hF.is, hG.is]
  refine ⟨rfl, rfl, ?_⟩
  show (listL t (mN (backB b))).length = (listL s (mN b)).length
  match h2 : b.ctrs, hu, hlc with
  | [x], _, _ =>
    have e : backB b = b := by
      unfold backB; rw [h2]
      show Board.mk b.holds b.hours [x] = b
      rw [← h2]
    rw [e] at hG ⊢
    have := few_le hF hG.lt hG.yes
    have := few_le hG hF.lt hF.yes
    omega
  | [x, y], _, _ =>
    have hm : mN b = b.hours.length * 2 := by unfold mN; rw [h2]; rfl
    have hm2 : mN (backB b) = b.hours.length * 2 := by
      unfold mN; show b.hours.length * b.ctrs.reverse.length = _; rw [h2]; rfl
    have hs := hF.lt
    have ht := hG.lt
    rw [hm] at hs; rw [hm2] at ht
    obtain ⟨s1, s2, s3, _⟩ := swap_all _ (by omega) s (swap_pow hlh hs) hs
    obtain ⟨t1, t2, t3, _⟩ := swap_all _ (by omega) t (swap_pow hlh ht) ht
    have a1 := few_le hG (t := swapS b.hours.length s) (by rw [hm2]; exact s1) (by rw [back_wrongS hok h2 hs]; exact hF.yes)
    have a2 := few_le hF (t := swapS b.hours.length t) (by rw [hm]; exact t1) (by rw [← back_wrongS hok h2 t1, t2]; exact hG.yes)
    rw [hm2] at a1 ⊢; rw [hm] at a2 ⊢
    rw [s3] at a1
    rw [t3] at a2
    omega
  | x :: y :: z :: r, _, h => simp only [List.length_cons] at h; omega
end Go.Rt.Ch
/- Walks of this seat, printed by gen.py over the engine: what each function returns, in whatever world. No conditions but those of each contract. -/
set_option linter.unusedVariables false
set_option linter.unusedSimpArgs false
set_option maxRecDepth 20000
namespace Go.Proofs
open Go.Rt Go.Rt.Ch
open Go.Rt.Ha (firstE firstE_step firstE_stop firstE_end failE nameE felt spanL upto span_mem listL fewest fewTo bit)
attribute [local irreducible] WL WC Con Yd At Ats Sl Agree DW
theorem Try_D_fb1 (x0 : Int) (w : World) : (Instr.buildSlice 39 1 [(0, .int .i64 x0)].toArray).run Try.prog w = .ok (.slice (some ⟨w.heap.size, 0, none⟩) 1 1) (w.alloc (Go.Rt.blk 3 [.int .i64 x0])) := by kernel_rfl
theorem ats_of {w0 w : World} {L : List (Nat × Obj)} {i b : Nat} {t : TypeId} {cs vs : List Value} (hs : St w0 w L) (hi : L[i]? = some (b, blk t cs)) (h : (cs.drop 0).take vs.length = vs) : Ats w0 L b 0 vs := ats_own hi h
theorem c16 {w0 w : World} {F : List (Nat × Obj)} (b : Board) (p : AtB) (hm : BIn w0 F b p)  (hs : St w0 w F) :
  Con Try.prog 16 [.agg (b.cells p).toArray] w fun v w' => v = .tuple #[.int .i64 (check b).1, .int .i64 (check b).2.1, .int .i64 (check b).2.2] ∧ St w0 w' F := by
  refine con_of_wc (n := 45) Try.func16 rfl rfl (Nat.le_of_ble_eq_true rfl) ?_
  have hlh := hm.lh
  have hlc := hm.lc
  refine w_seq (fun K2 hK1 => ?_)
  refine w_region ?_
  refine w_box (v := .agg #[.int _ _, .slice _ _ _, .slice _ _ _]) (cs := [_, _, _]) want_none rfl rfl rfl hs (fun b3 w4 hs5 => ?_)
  refine w_p (y_assign (v := _) rfl rfl) rfl ?_
  refine w_p (y_assign (v := _) rfl rfl) rfl ?_
  refine w_p (y_assign (v := _) rfl rfl) rfl ?_
  refine w_nil ?_
  refine q_then (hK1 _ _ ?_)
  refine w_seq (fun K7 hK6 => ?_)
  refine w_region ?_
  refine w_p (y_fieldAddr (o := 1) (i := 1) Try.underlying25 rfl Try.sizeOf22 rfl rfl rfl) rfl ?_
  refine w_p (y_load1 Try.isAgg22 hs5 rfl rfl (ats_own (i := 0) (vs := [_]) rfl rfl)) rfl ?_
  refine w_p (y_lenS Try.underlying22 rfl rfl) rfl ?_
  refine w_alloc (cs := [_]) want_none Try.zeroValue3 rfl hs5 (fun b8 w9 hs10 => ?_)
  refine w_store (i := 0) (v := .int _ _) (vs := [_]) want_none Try.sizeOf3 rfl rfl rfl rfl rfl (by simp [Value.oneCell']) hs10 rfl (Nat.le_of_ble_eq_true rfl) (fun w11 hs12 => ?_)
  refine w_nil ?_
  refine q_then (hK6 _ _ ?_)
  refine w_seq (fun K14 hK13 => ?_)
  refine w_block ?_
  refine w_seq (fun K16 hK15 => ?_)
  have hbx := ats_of (i := 1) (vs := b.cells p) hs12 rfl rfl
  have hbn := ats_of (i := 0) (vs := [.int .i64 (b.hours.length : Int)]) hs12 rfl rfl
  refine w_region ?_
  refine w_p (y_fieldAddr (o := 0) (i := 0) Try.underlying25 rfl Try.sizeOf3 rfl rfl rfl) rfl ?_
  refine w_p (y_load1 Try.isAgg3 hs12 rfl rfl (show Ats _ _ _ _ [_] from Ats.part hbx 0 1)) rfl ?_
  refine w_bslice (ps := [(0, _)]) (pv := [(0, .int _ _)]) (cs := [_]) want_none rfl rfl (fun w => Try_D_fb1 _ w) hs12 (fun b17 w18 hs19 => ?_)
  refine w_call want_none Try.call51 rfl rfl rfl rfl (c51 _ _ _ [_] _ (by simp) (sl_own (i := 0) (rows := [[_]]) rfl (by simp) rfl) hs19) ?_
  rintro _ w21 ⟨rfl, hs22⟩
  refine w_p (y_assign (v := .bool _) rfl rfl) rfl ?_
  refine w_nil ?_
  refine q_then (hK15 _ _ ?_)
  refine w_cond rfl rfl (fun h23 => ?_) (fun h23 => ?_)
  ·
   try simp only [zA, zB, zC, zD, zE, zF] at h23
   refine w_seq (fun K25 hK24 => ?_)
   refine w_region ?_
   refine w_p (y_assign (v := _) rfl rfl) rfl ?_
   refine w_p (y_assign (v := _) rfl rfl) rfl ?_
   refine w_p (y_assign (v := _) rfl rfl) rfl ?_
   refine w_nil ?_
   refine q_then (hK24 _ _ ?_)
   refine w_ret ?_
   refine q_blk_ret ?_
   refine q_then_ret ?_
   refine q_ret (l := [.tmp 2, .tmp 3, .tmp 4]) (vs := [_, _, _]) rfl ⟨⟨rfl, show _ = (.int _ _ : Value) from rfl⟩, ⟨rfl, show _ = (.int _ _ : Value) from rfl⟩, ⟨rfl, show _ = (.int _ _ : Value) from rfl⟩, trivial⟩ ?_
   try simp only [List.any_cons, List.any_nil, Bool.or_false, Bool.or_eq_false_iff] at h23
   refine ⟨tup3 ?_, hs22.tail.tail.tail⟩; unfold check failE
   try have e1 : ¬ ((4:Int) < (b.hours.length : Int)) := by omega
   try have e2 : ¬ ((2:Int) < (b.ctrs.length : Int)) := by omega
   first
     | (simp [out_nat, h23, e1, e2]; done)
     | (simp [out_nat, h23, e1]; done)
     | (simp [out_nat, h23]; done)
  ·
   try simp only [zA, zB, zC, zD, zE, zF] at h23
   refine w_seq (fun K27 hK26 => ?_)
   refine w_region ?_
   refine w_p (y_load1 Try.isAgg3 hs22.tail rfl rfl hbn) rfl ?_
   refine w_p (y_gtr rfl rfl rfl rfl) rfl ?_
   refine w_p (y_assign (v := .bool _) rfl rfl) rfl ?_
   refine w_nil ?_
   refine q_then (hK26 _ _ ?_)
   refine w_cond rfl rfl (fun h28 => ?_) (fun h28 => ?_)
   ·
    try simp only [zA, zB, zC, zD, zE, zF] at h28
    refine w_seq (fun K30 hK29 => ?_)
    refine w_region ?_
    refine w_p (y_assign (v := _) rfl rfl) rfl ?_
    refine w_p (y_assign (v := _) rfl rfl) rfl ?_
    refine w_p (y_assign (v := _) rfl rfl) rfl ?_
    refine w_nil ?_
    refine q_then (hK29 _ _ ?_)
    refine w_ret ?_
    refine q_blk_ret ?_
    refine q_then_ret ?_
    refine q_ret (l := [.tmp 2, .tmp 3, .tmp 4]) (vs := [_, _, _]) rfl ⟨⟨rfl, show _ = (.int _ _ : Value) from rfl⟩, ⟨rfl, show _ = (.int _ _ : Value) from rfl⟩, ⟨rfl, show _ = (.int _ _ : Value) from rfl⟩, trivial⟩ ?_
    try simp only [List.any_cons, List.any_nil, Bool.or_false, Bool.or_eq_false_iff] at h23 h28
    refine ⟨tup3 ?_, hs22.tail.tail.tail⟩; unfold check failE
    try have e1 : ¬ ((4:Int) < (b.hours.length : Int)) := by omega
    try have e2 : ¬ ((2:Int) < (b.ctrs.length : Int)) := by omega
    first
      | (simp [out_nat, h23, h28, e1, e2]; done)
      | (simp [out_nat, h23, h28, e1]; done)
      | (simp [out_nat, h23, h28]; done)
   ·
    try simp only [zA, zB, zC, zD, zE, zF] at h28
    refine w_skip ?_
    refine q_blk_normal ?_
    refine q_then (hK13 _ _ ?_)
    refine w_seq (fun K32 hK31 => ?_)
    have hho : 1 ≤ b.holds ∧ b.holds ≤ 3 := by
      have hq : [b.holds].any (out 1 3) = false := by assumption
      simp [out] at hq; omega
    refine w_region ?_
    refine w_p (y_fieldAddr (o := 1) (i := 1) Try.underlying25 rfl Try.sizeOf22 rfl rfl rfl) rfl ?_
    refine w_p (y_load1 Try.isAgg22 hs22.tail rfl rfl (show Ats _ _ _ _ [_] from Ats.part hbx 1 1)) rfl ?_
    refine w_p (y_makeFunc (fv := []) (cv := [_]) rfl rfl rfl rfl) rfl ?_
    refine w_call want_none Try.call52 rfl rfl rfl rfl (c52 _ _ b.hours hlh hm.h.cons.cons.cons (.func (.func 53) #[] #[.pointer (some ⟨b3, 0, none⟩)]) (hourE b.holds) (fun i hi X w hs => fcon_fn Try.call53 (c53 b p hho i b.hours[i] _ b3 (Ats.app hbx.cons) hs)) hs22) ?_
    rintro _ w34 ⟨rfl, hs35⟩
    refine w_p (y_move (v := .tuple _) rfl rfl) rfl ?_
    refine w_p (y_extract (v := .int _ _) rfl rfl rfl) rfl ?_
    refine w_p (y_extract (v := .int _ _) rfl rfl rfl) rfl ?_
    refine w_p (y_assign (v := .int _ _) rfl rfl) rfl ?_
    refine w_p (y_assign (v := .int _ _) rfl rfl) rfl ?_
    refine w_nil ?_
    refine q_then (hK31 _ _ ?_)
    refine w_seq (fun K37 hK36 => ?_)
    refine w_block ?_
    refine w_seq (fun K39 hK38 => ?_)
    refine w_region ?_
    refine w_p (y_move (v := .int _ _) rfl rfl) rfl ?_
    refine w_p (y_neq rfl rfl rfl rfl) rfl ?_
    refine w_p (y_assign (v := .bool _) rfl rfl) rfl ?_
    refine w_nil ?_
    refine q_then (hK38 _ _ ?_)
    refine w_cond rfl rfl (fun h40 => ?_) (fun h40 => ?_)
    ·
     try simp only [zA, zB, zC, zD, zE, zF] at h40
     refine w_seq (fun K42 hK41 => ?_)
     refine w_region ?_
     refine w_p (y_move (v := .int _ _) rfl rfl) rfl ?_
     refine w_p (y_move (v := .int _ _) rfl rfl) rfl ?_
     refine w_p (y_assign (v := _) rfl rfl) rfl ?_
     refine w_p (y_assign (v := .int _ _) rfl rfl) rfl ?_
     refine w_p (y_assign (v := .int _ _) rfl rfl) rfl ?_
     refine w_nil ?_
     refine q_then (hK41 _ _ ?_)
     refine w_ret ?_
     refine q_blk_ret ?_
     refine q_then_ret ?_
     refine q_ret (l := [.tmp 2, .tmp 3, .tmp 4]) (vs := [_, _, _]) rfl ⟨⟨rfl, show _ = (.int _ _ : Value) from rfl⟩, ⟨rfl, show _ = (.int _ _ : Value) from rfl⟩, ⟨rfl, show _ = (.int _ _ : Value) from rfl⟩, trivial⟩ ?_
     try simp only [List.any_cons, List.any_nil, Bool.or_false, Bool.or_eq_false_iff] at h23 h28 h40
     refine ⟨tup3 ?_, hs35.tail.tail.tail⟩; unfold check failE
     try have e1 : ¬ ((4:Int) < (b.hours.length : Int)) := by omega
     try have e2 : ¬ ((2:Int) < (b.ctrs.length : Int)) := by omega
     first
       | (simp [out_nat, h23, h28, h40, e1, e2]; done)
       | (simp [out_nat, h23, h28, h40, e1]; done)
       | (simp [out_nat, h23, h28, h40]; done)
    ·
     try simp only [zA, zB, zC, zD, zE, zF] at h40
     refine w_seq (fun K44 hK43 => ?_)
     refine w_region ?_
     refine w_p (y_fieldAddr (o := 2) (i := 2) Try.underlying25 rfl Try.sizeOf23 rfl rfl rfl) rfl ?_
     refine w_p (y_load1 Try.isAgg23 hs35.tail rfl rfl (show Ats _ _ _ _ [_] from Ats.part hbx 2 1)) rfl ?_
     refine w_p (y_lenS Try.underlying23 rfl rfl) rfl ?_
     refine w_p (y_gtr rfl rfl rfl rfl) rfl ?_
     refine w_p (y_assign (v := .bool _) rfl rfl) rfl ?_
     refine w_nil ?_
     refine q_then (hK43 _ _ ?_)
     refine w_cond rfl rfl (fun h45 => ?_) (fun h45 => ?_)
     ·
      try simp only [zA, zB, zC, zD, zE, zF] at h45
      refine w_seq (fun K47 hK46 => ?_)
      refine w_region ?_
      refine w_p (y_assign (v := _) rfl rfl) rfl ?_
      refine w_p (y_assign (v := _) rfl rfl) rfl ?_
      refine w_p (y_assign (v := _) rfl rfl) rfl ?_
      refine w_nil ?_
      refine q_then (hK46 _ _ ?_)
      refine w_ret ?_
      refine q_blk_ret ?_
      refine q_then_ret ?_
      refine q_ret (l := [.tmp 2, .tmp 3, .tmp 4]) (vs := [_, _, _]) rfl ⟨⟨rfl, show _ = (.int _ _ : Value) from rfl⟩, ⟨rfl, show _ = (.int _ _ : Value) from rfl⟩, ⟨rfl, show _ = (.int _ _ : Value) from rfl⟩, trivial⟩ ?_
      try simp only [List.any_cons, List.any_nil, Bool.or_false, Bool.or_eq_false_iff] at h23 h28 h40 h45
      refine ⟨tup3 ?_, hs35.tail.tail.tail⟩; unfold check failE
      try have e1 : ¬ ((4:Int) < (b.hours.length : Int)) := by omega
      try have e2 : ¬ ((2:Int) < (b.ctrs.length : Int)) := by omega
      first
        | (simp [out_nat, h23, h28, h40, h45, e1, e2]; done)
        | (simp [out_nat, h23, h28, h40, h45, e1]; done)
        | (simp [out_nat, h23, h28, h40, h45]; done)
     ·
      try simp only [zA, zB, zC, zD, zE, zF] at h45
      refine w_skip ?_
      refine q_blk_normal ?_
      refine q_then (hK36 _ _ ?_)
      refine w_seq (fun K49 hK48 => ?_)
      refine w_region ?_
      refine w_p (y_fieldAddr (o := 2) (i := 2) Try.underlying25 rfl Try.sizeOf23 rfl rfl rfl) rfl ?_
      refine w_p (y_load1 Try.isAgg23 hs35.tail rfl rfl (show Ats _ _ _ _ [_] from Ats.part hbx 2 1)) rfl ?_
      refine w_p (y_makeFunc (fv := []) (cv := [_, _]) rfl rfl rfl rfl) rfl ?_
      refine w_call want_none Try.call54 rfl rfl rfl rfl (c54 _ _ b.ctrs p.pc hlc hm.c.cons.cons.cons (.func (.func 55) #[] #[.pointer (some ⟨b3, 0, none⟩), .pointer (some ⟨b8, 0, none⟩)]) (ctrE b.hours.length) (fun i hi X w hs => fcon_fn Try.call55 (c55 b p (BIn.app hm.cons.cons.cons) i hi b3 b8 (Ats.app hbx.cons) (Ats.app hbn.cons) hs)) hs35) ?_
      rintro _ w51 ⟨rfl, hs52⟩
      refine w_p (y_move (v := .tuple _) rfl rfl) rfl ?_
      refine w_p (y_extract (v := .int _ _) rfl rfl rfl) rfl ?_
      refine w_p (y_extract (v := .int _ _) rfl rfl rfl) rfl ?_
      refine w_p (y_assign (v := .int _ _) rfl rfl) rfl ?_
      refine w_p (y_assign (v := .int _ _) rfl rfl) rfl ?_
      refine w_nil ?_
      refine q_then (hK48 _ _ ?_)
      refine w_seq (fun K54 hK53 => ?_)
      refine w_seq (fun K56 hK55 => ?_)
      refine w_region ?_
      refine w_p (y_move (v := .int _ _) rfl rfl) rfl ?_
      refine w_p (y_neq rfl rfl rfl rfl) rfl ?_
      refine w_nil ?_
      refine q_then (hK55 _ _ ?_)
      refine w_cond rfl rfl (fun h57 => ?_) (fun h57 => ?_)
      ·
       try simp only [zA, zB, zC, zD, zE, zF] at h57
       refine w_seq (fun K59 hK58 => ?_)
       refine w_region ?_
       refine w_p (y_move (v := .int _ _) rfl rfl) rfl ?_
       refine w_p (y_move (v := .int _ _) rfl rfl) rfl ?_
       refine w_p (y_assign (v := _) rfl rfl) rfl ?_
       refine w_p (y_assign (v := .int _ _) rfl rfl) rfl ?_
       refine w_p (y_assign (v := .int _ _) rfl rfl) rfl ?_
       refine w_nil ?_
       refine q_then (hK58 _ _ ?_)
       refine w_ret ?_
       refine q_then_ret ?_
       refine q_ret (l := [.tmp 2, .tmp 3, .tmp 4]) (vs := [_, _, _]) rfl ⟨⟨rfl, show _ = (.int _ _ : Value) from rfl⟩, ⟨rfl, show _ = (.int _ _ : Value) from rfl⟩, ⟨rfl, show _ = (.int _ _ : Value) from rfl⟩, trivial⟩ ?_
       try simp only [List.any_cons, List.any_nil, Bool.or_false, Bool.or_eq_false_iff] at h23 h28 h40 h45 h57
       refine ⟨tup3 ?_, hs52.tail.tail.tail⟩; unfold check failE
       try have e1 : ¬ ((4:Int) < (b.hours.length : Int)) := by omega
       try have e2 : ¬ ((2:Int) < (b.ctrs.length : Int)) := by omega
       first
         | (simp [out_nat, h23, h28, h40, h45, h57, e1, e2]; done)
         | (simp [out_nat, h23, h28, h40, h45, h57, e1]; done)
         | (simp [out_nat, h23, h28, h40, h45, h57]; done)
      ·
       try simp only [zA, zB, zC, zD, zE, zF] at h57
       refine w_skip ?_
       refine q_then (hK53 _ _ ?_)
       refine w_seq (fun K61 hK60 => ?_)
       refine w_region ?_
       refine w_p (y_assign (v := _) rfl rfl) rfl ?_
       refine w_p (y_assign (v := _) rfl rfl) rfl ?_
       refine w_p (y_assign (v := _) rfl rfl) rfl ?_
       refine w_nil ?_
       refine q_then (hK60 _ _ ?_)
       refine w_ret ?_
       refine q_ret (l := [.tmp 2, .tmp 3, .tmp 4]) (vs := [_, _, _]) rfl ⟨⟨rfl, show _ = (.int _ _ : Value) from rfl⟩, ⟨rfl, show _ = (.int _ _ : Value) from rfl⟩, ⟨rfl, show _ = (.int _ _ : Value) from rfl⟩, trivial⟩ ?_
       try simp only [List.any_cons, List.any_nil, Bool.or_false, Bool.or_eq_false_iff] at h23 h28 h40 h45 h57
       refine ⟨tup3 ?_, hs52.tail.tail.tail⟩; unfold check failE
       try have e1 : ¬ ((4:Int) < (b.hours.length : Int)) := by omega
       try have e2 : ¬ ((2:Int) < (b.ctrs.length : Int)) := by omega
       first
         | (simp [out_nat, h23, h28, h40, h45, h57, e1, e2]; done)
         | (simp [out_nat, h23, h28, h40, h45, h57, e1]; done)
         | (simp [out_nat, h23, h28, h40, h45, h57]; done)

end Go.Proofs
