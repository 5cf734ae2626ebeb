/- Own texts of this claim, joined. No conditions. -/
import Derived.Test.YtgndnnpadkoagaaHChainLookeda
import Derived.Test.YtgndnnpadkoagaaHChainLookedb
import Derived.Test.YtgndnnpadkoagaaHChainLookedc
import Derived.Test.YtgndnnpadkoagaaHChainLookedd
import Derived.Test.YtgndnnpadkoagaaHChainLookede
import Derived.Test.YtgndnnpadkoagaaHChainLookedf
import Derived.Test.YtgndnnpadkoagaaHChainLookedg
import Derived.Test.YtgndnnpadkoagaaHChainLookedh
/- Plain laws of the chain layer: hours that are told. No program in sight. No conditions. -/
set_option linter.unusedSimpArgs false
set_option linter.unusedVariables false
namespace Go.Rt.Ch
open Go.Rt.Ha
structure LookF (b : Board) (hold within : Int) (s : Nat) : Prop where
  lt : s < 2 ^ b.hours.length
  is : looksP b hold within = (listL s b.hours.length, 0)
  yes : tellsS b hold within s = true
  least : ∀ t, t < 2 ^ b.hours.length → tellsS b hold within t = true → listL t b.hours.length = listL s b.hours.length ∨ before (listL s b.hours.length) (listL t b.hours.length) = true
theorem look_few {b : Board} (hs : someB b = true) {hold within : Int} (hh : 0 ≤ hold ∧ hold < b.holds) (hw : 0 ≤ within) : ∃ s, LookF b hold within s := by
  obtain ⟨hc, hok, ht⟩ := someB_y hs
  have hf := few_min (tellsS b hold within) b.hours.length (1 <<< b.hours.length)
  have e2 : 1 <<< b.hours.length = 2 ^ b.hours.length := by rw [Nat.shiftLeft_eq, Nat.one_mul]
  have hl : looksP b hold within = ((fewTo (tellsS b hold within) b.hours.length (1 <<< b.hours.length)).1, 0) := by
    unfold looksP looksE
    rw [out_no hh, if_neg (show ¬ (0 : Int) ≠ 0 by simp), if_neg (show ¬ within < 0 by omega), enterE_4 hc rfl ht, if_neg (by simp)]; rfl
  rw [e2] at hf hl
  have hfull : tellsS b hold within (2 ^ b.hours.length - 1) = true := by rw [tells_same]; exact tells_full hok hw
  cases hy : (fewTo (tellsS b hold within) b.hours.length (2 ^ b.hours.length)).2 with
  | false =>
    have := (hf.no hy).2 (2 ^ b.hours.length - 1) (by have := Nat.two_pow_pos b.hours.length; omega)
    rw [hfull] at this; cases this
  | true =>
    obtain ⟨s, hs, hd, e, hm⟩ := hf.yes hy
    exact ⟨s, hs, by rw [hl, e], hd, fun t ht hdt => by have := hm t ht hdt; rw [e] at this; exact this⟩
theorem look_other {b : Board} {hold within : Int} {s : Nat} (hF : LookF b hold within s) {x : Nat} (hb : before (listL x b.hours.length) (listL s b.hours.length) = true) : tellsR b (truths b) (listL x b.hours.length) hold within = false := by
  cases hq : tellsR b (truths b) (listL x b.hours.length) hold within with
  | false => rfl
  | true =>
    have e := listL_mod x b.hours.length b.hours.length (Nat.le_refl _)
    rw [← e, ← tells_same] at hq
    rw [← e] at hb
    rcases hF.least _ (Nat.mod_lt _ (Nat.two_pow_pos _)) hq with h | h
    · rw [h, show before (listL s b.hours.length) (listL s b.hours.length) = false from Ls.before_irrefl _] at hb; cases hb
    · rw [show before _ _ = false from Ls.before_asymm h] at hb; cases hb
/-! ### A board of which some hours are told -/
def setH (t : List Int) (hs : List Hour) (z : Int) : List Hour := hs.set z.toNat ⟨(hs.getD z.toNat ⟨0, 0, 0⟩).hold, ld t z.toNat, ld t z.toNat⟩
def toldTo (b : Board) (t l : List Int) (i : Nat) : List Hour := (l.take i).foldl (setH t) b.hours
def toldB (b : Board) (t l : List Int) : Board := { b with hours := toldTo b t l l.length }
theorem told_zero (b : Board) (t l : List Int) : toldTo b t l 0 = b.hours := by simp [toldTo]
theorem told_step {b : Board} {t l : List Int} {i : Nat} (hi : i < l.length) : toldTo b t l (i + 1) = setH t (toldTo b t l i) l[i] := by
  unfold toldTo; rw [List.take_succ_eq_append_getElem hi, List.foldl_append]; rfl
theorem told_len (b : Board) (t l : List Int) : ∀ i, i ≤ l.length → (toldTo b t l i).length = b.hours.length
  | 0, _ => by rw [told_zero]
  | i + 1, h => by rw [told_step (by omega)]; unfold setH; rw [List.length_set]; exact told_len b t l i (by omega)
theorem told_get {b : Board} {t l : List Int} (hl : ∀ z ∈ l, 0 ≤ z ∧ z < (b.hours.length : Int)) : ∀ i (hi : i ≤ l.length) k (hk : k < b.hours.length), ∃ h : Hour, (toldTo b t l i)[k]? = some h ∧ h.hold = b.hours[k].hold ∧ ((h.lo = b.hours[k].lo ∧ h.hi = b.hours[k].hi ∧ (k : Int) ∉ l.take i) ∨ (h.lo = ld t k ∧ h.hi = ld t k ∧ (k : Int) ∈ l.take i))
  | 0, _, k, hk => by
    refine ⟨b.hours[k], by rw [told_zero]; exact List.getElem?_eq_getElem hk, rfl, .inl ⟨rfl, rfl, by simp⟩⟩
  | i + 1, hi, k, hk => by
    obtain ⟨h, h1, h2, h3⟩ := told_get hl i (by omega) k hk
    have hz := hl _ (List.getElem_mem (show i < l.length by omega))
    rw [told_step (by omega), List.take_succ_eq_append_getElem (by omega)]
    unfold setH
    by_cases e : l[i].toNat = k
    · have e2 : l[i] = (k : Int) := by omega
      refine ⟨⟨((toldTo b t l i).getD k ⟨0, 0, 0⟩).hold, ld t k, ld t k⟩, ?_, ?_, .inr ⟨rfl, rfl, by rw [e2]; simp⟩⟩
      · rw [e, List.getElem?_set_self (by rw [told_len b t l i (by omega)]; exact hk)]
      · show ((toldTo b t l i).getD k ⟨0, 0, 0⟩).hold = _
        rw [List.getD, h1]; exact h2
    · refine ⟨h, by rw [List.getElem?_set_ne e]; exact h1, h2, ?_⟩
      rcases h3 with ⟨a, c, d⟩ | ⟨a, c, d⟩
      · exact .inl ⟨a, c, fun hm => by
          rcases List.mem_append.1 hm with hm | hm
          · exact d hm
          · have := List.mem_singleton.1 hm; omega⟩
      · exact .inr ⟨a, c, List.mem_append_left _ d⟩
structure ToldF (b : Board) (t l : List Int) : Prop where
  len : (toldB b t l).hours.length = b.hours.length
  ck : (check (toldB b t l)).2.2 = 0
  is : t ∈ truths (toldB b t l)
  sub : ∀ m ∈ truths (toldB b t l), m ∈ like (truths b) t l
  inn : ∀ hold m, inH (toldB b t l) hold m = inH b hold m
theorem told_law {b : Board} (hc : (check b).2.2 = 0) {t l : List Int} (ht : t ∈ truths b) (hl : ∀ z ∈ l, 0 ≤ z ∧ z < (b.hours.length : Int)) : ToldF b t l := by
  have hok := check_ok hc
  have hlen : (toldB b t l).hours.length = b.hours.length := told_len b t l _ (Nat.le_refl _)
  have hget := fun k hk => told_get (t := t) hl l.length (Nat.le_refl _) k hk
  rw [List.take_length] at hget
  have hti := truth_in ht
  have hcan : ∀ m, canL (toldB b t l) m = canL b m := fun m => by unfold canL; rw [hlen]; rfl
  have hour : ∀ k (hk : k < (toldB b t l).hours.length) (hk2 : k < b.hours.length), (toldB b t l).hours[k].hold = b.hours[k].hold ∧ (((toldB b t l).hours[k].lo = b.hours[k].lo ∧ (toldB b t l).hours[k].hi = b.hours[k].hi ∧ (k : Int) ∉ l) ∨ ((toldB b t l).hours[k].lo = ld t k ∧ (toldB b t l).hours[k].hi = ld t k ∧ (k : Int) ∈ l)) := by
    intro k hk hk2
    obtain ⟨h, h1, h2, h3⟩ := hget k hk2
    have e : (toldB b t l).hours[k] = h := by
      have : (toldTo b t l l.length)[k]? = some ((toldB b t l).hours[k]) := List.getElem?_eq_getElem hk
      rw [h1] at this; exact (Option.some.inj this).symm
    rw [e]; exact ⟨h2, h3⟩
  have hhok : ∀ h ∈ (toldB b t l).hours, h.Ok b.holds := by
    intro h hh
    obtain ⟨k, hk, rfl⟩ := List.getElem_of_mem hh
    have hk2 : k < b.hours.length := by rw [hlen] at hk; exact hk
    obtain ⟨e1, e2⟩ := hour k hk hk2
    have ho := hok.hour _ (List.getElem_mem hk2)
    have hb := hti.2 k hk2
    have a1 := ho.hold; have a2 := ho.lo; have a3 := ho.le; have a4 := ho.hi; have a5 := ho.w
    rcases e2 with ⟨x, y, _⟩ | ⟨x, y, _⟩
    · exact ⟨by omega, by omega, by omega, by omega, by omega⟩
    · exact ⟨by omega, by omega, by omega, by omega, by omega⟩
  refine ⟨hlen, ?_, ?_, fun m hm => ?_, fun hold m => ?_⟩
  · obtain ⟨h1, h2, h3⟩ := check_iff.1 hc
    refine check_iff.2 ⟨h1, ?_, by rw [hlen]; exact h3⟩
    have h4 := (failE_iff.1 h2).1
    exact failE_iff.2 ⟨by rw [hlen]; exact h4, fun k hk => hourE_ok (hhok _ (List.getElem_mem hk))⟩
  · refine List.mem_filter.2 ⟨(felt_in _ _).2 ⟨by rw [bun_len, hlen]; exact hti.1, fun i hi => ?_⟩, by rw [hcan]; exact (List.mem_filter.1 ht).2⟩
    rw [bun_len] at hi
    have hi2 : i < b.hours.length := by rw [hlen] at hi; exact hi
    obtain ⟨e1, e2⟩ := hour i hi hi2
    have hb := hti.2 i hi2
    rw [bun_at hi]
    show (toldB b t l).hours[i].lo ≤ ld t i ∧ ld t i ≤ (toldB b t l).hours[i].hi
    rcases e2 with ⟨x, y, _⟩ | ⟨x, y, _⟩ <;> omega
  · obtain ⟨m1, m2⟩ := List.mem_filter.1 hm
    obtain ⟨f1, f2⟩ := loads_at m1
    rw [hcan] at m2
    have hin : m ∈ truths b := by
      refine List.mem_filter.2 ⟨(felt_in _ _).2 ⟨by rw [bun_len, f1, hlen], fun i hi => ?_⟩, m2⟩
      rw [bun_len] at hi
      obtain ⟨e1, e2⟩ := hour i (by rw [hlen]; exact hi) hi
      have hb := f2 i (by rw [hlen]; exact hi)
      have ht2 := hti.2 i hi
      rw [bun_at hi]
      show b.hours[i].lo ≤ ld m i ∧ ld m i ≤ b.hours[i].hi
      rcases e2 with ⟨x, y, _⟩ | ⟨x, y, _⟩ <;> omega
    refine List.mem_filter.2 ⟨hin, ?_⟩
    unfold likeB
    rw [List.all_eq_true]
    intro z hz
    have hzz := hl z hz
    have hzn : z.toNat < b.hours.length := by omega
    obtain ⟨e1, e2⟩ := hour z.toNat (by rw [hlen]; exact hzn) hzn
    have hb := f2 z.toNat (by rw [hlen]; exact hzn)
    rw [decide_eq_true_eq]
    rcases e2 with ⟨x, y, hn⟩ | ⟨x, y, _⟩
    · exact absurd (by rw [Int.toNat_of_nonneg hzz.1]; exact hz) hn
    · omega
  · have key : ∀ k, k ≤ b.hours.length → inTo (toldB b t l) m hold k = inTo b m hold k := by
      intro k
      induction k with
      | zero => intro _; rfl
      | succ k ih =>
        intro hk
        obtain ⟨e1, _⟩ := hour k (by rw [hlen]; omega) (by omega)
        simp only [inTo]
        rw [ih (by omega), show ((toldB b t l).hours.getD k ⟨0, 0, 0⟩) = (toldB b t l).hours[k]'(by rw [hlen]; omega) from by rw [List.getD, List.getElem?_eq_getElem (by rw [hlen]; omega)]; rfl, show (b.hours.getD k ⟨0, 0, 0⟩) = b.hours[k]'(by omega) from by rw [List.getD, List.getElem?_eq_getElem (by omega)]; rfl, e1]
    unfold inH; rw [hlen]; exact key _ (Nat.le_refl _)
theorem told_hold {b : Board} (hs : someB b = true) {hold : Nat} {within : Int} (hh : (hold : Int) < b.holds) {s : Nat} (hF : LookF b (hold : Int) within s) {t : List Int} (ht : t ∈ truths b) :
    ∃ x y : Int, holdP (toldB b t (listL s b.hours.length)) (hold : Int) = ((x, y), 0) ∧ y - x ≤ within ∧ -1000 ≤ x ∧ x ≤ 1000 ∧ -1000 ≤ y ∧ y ≤ 1000 := by
  obtain ⟨hc, hok, _⟩ := someB_y hs
  have hl : ∀ z ∈ listL s b.hours.length, 0 ≤ z ∧ z < (b.hours.length : Int) := fun z hz => listL_lt s _ z hz
  have hT := told_law hc ht hl
  have hst : someB (toldB b t (listL s b.hours.length)) = true := by
    unfold someB
    rw [decide_eq_true hT.ck, Bool.true_and]
    cases e : truths (toldB b t (listL s b.hours.length)) with
    | nil => have := hT.is; rw [e] at this; cases this
    | cons x y => rfl
  have hne : truths (toldB b t (listL s b.hours.length)) ≠ [] := List.ne_nil_of_mem hT.is
  have hb := hull_btw (f := inH (toldB b t (listL s b.hours.length)) (hold : Int)) hne (lo := (hullL (inH b (hold : Int)) (like (truths b) t (listL s b.hours.length))).1) (hi := (hullL (inH b (hold : Int)) (like (truths b) t (listL s b.hours.length))).2) fun m hm => by
    rw [hT.inn]; exact (hull_spec (List.ne_nil_of_mem (hT.sub m hm))).2.2 m (hT.sub m hm)
  have hy := hF.yes
  rw [tells_same] at hy
  have h1 := List.all_eq_true.1 hy t ht
  rw [decide_eq_true_eq] at h1
  have hbd := hull_in (f := inH b (hold : Int)) (lo := -1000) (hi := 1000) (by omega) (like (truths b) t (listL s b.hours.length)) fun m hm => by
    have := in_bound (h := (hold : Int)) (b := b) (l := m) (fun k => ld_40 hok (List.mem_filter.1 hm).1 k) b.hours.length
    have := hok.lh
    unfold inH; omega
  have hle := hull_le (f := inH (toldB b t (listL s b.hours.length)) (hold : Int)) hne
  exact ⟨(hullL (inH (toldB b t (listL s b.hours.length)) (hold : Int)) (truths (toldB b t (listL s b.hours.length)))).1, (hullL (inH (toldB b t (listL s b.hours.length)) (hold : Int)) (truths (toldB b t (listL s b.hours.length)))).2, hold_at hst hh, by omega, by omega, by omega, by omega, by omega⟩
end Go.Rt.Ch
/- Walks of this seat, printed by gen.py over the engine: what each function returns, in whatever world. No conditions but those of each contract. -/
set_option linter.unusedVariables false
set_option linter.unusedSimpArgs false
set_option maxRecDepth 20000
namespace Go.Proofs
open Go.Rt Go.Rt.Ch
open Go.Rt.Ha (firstE firstE_step firstE_stop firstE_end failE nameE felt spanL upto span_mem listL fewest fewTo bit before fewStep drop_lt drop_get drop_next drop_done drop_notin set_take set_zero take_less Lot Bunch feltTo fTo fPart felt_zero felt_step fTo_succ fTo_len fPart_succ fPart_len fPart_all filt_yes filt_no upto_len at_ someOf choicesTo cfind_here cfind_next cfind_on choices_fin pick_idx pickL_in find_on find_next rising rising_step rising_end rising_stop list_rising before_fewer)
attribute [local irreducible] WL WC Con Yd At Ats Sl Agree DW
theorem Try_Zi_fb8 (x0 : Int) (w : World) : (Instr.buildSlice 39 1 [(0, .int .i64 x0)].toArray).run Try.prog w = .ok (.slice (some ⟨w.heap.size, 0, none⟩) 1 1) (w.alloc (Go.Rt.blk 3 [.int .i64 x0])) := by kernel_rfl
theorem Try_Zi_fb9  (w : World) : (Instr.buildSlice 22 0 [].toArray).run Try.prog w = .ok (.slice (some ⟨w.heap.size, 0, none⟩) 0 0) (w.alloc (Go.Rt.blk 70 [])) := by kernel_rfl
theorem Try_info70 : Try.prog.info? 70 = some Try.t70 := by kernel_rfl
theorem ats_castL {w0 : World} {L : List (Nat × Obj)} {b o : Nat} {vs vs2 : List Value} (h : Ats w0 L b o vs) (e : vs2 = vs) : Ats w0 L b o vs2 := by rw [e]; exact h
theorem looks_no {b : Board} (hs : someB b = false) (x y : Int) : (looksP b x y).2 ≠ 0 := by
  unfold looksP
  rw [if_pos (someB_n hs _)]
  exact someB_n hs _
theorem look_short (b : Board) (x y : Int) : (looksP b x y).1.length ≤ 64 := by
  unfold looksP
  split
  · simp
  · rename_i h
    have hok := check_ok (enterE_ok (Decidable.not_not.1 h)).1
    have h1 := hok.lh
    have h2 := Go.Rt.Ch.few_len (tellsS b x y) b.hours.length (1 <<< b.hours.length)
    unfold Go.Rt.Ha.fewest; dsimp only; omega
theorem hrows_one (l : List Hour) : ∀ row ∈ hrows l, ∀ u ∈ row, u.oneCell' = true := by
  intro row hr u hu
  obtain ⟨c, _, rfl⟩ := List.mem_map.1 hr
  simp only [Hour.cells, List.mem_cons, List.not_mem_nil, or_false] at hu
  rcases hu with rfl | rfl | rfl <;> rfl
theorem hrows_row3 (l : List Hour) : ∀ row ∈ hrows l, row.length = 3 := by intro row h; obtain ⟨q, _, rfl⟩ := List.mem_map.1 h; rfl
theorem own_listI {v : Value} {x i : Nat} {B : List (Nat × Obj)} (hb : bit x i = 1) (h : Rt.Own v 3 1 ((listL x i).length + 1) (iv (listL x i) ++ [[Value.int .i64 (i : Int)]].flatten) B) : Rt.Own v 3 1 (listL x (i + 1)).length (iv (listL x (i + 1))) B := by
  rw [listL_yes hb]; simpa [iv] using h
theorem c10 {w0 w : World} {F : List (Nat × Obj)} (b : Board) (p : AtB) (hm : BIn w0 F b p) (hnh : p.ah = none → p.ch = 0) (gg nn tt oo : Int) (hgg : 0 ≤ gg ∧ gg ≤ 255) (hnn : 0 ≤ nn ∧ nn ≤ 255) (htt : 0 ≤ tt ∧ tt ≤ 65535) (hoo : 0 ≤ oo ∧ oo ≤ 255) (hs : St w0 w F) :
  Con Try.prog 10 [.agg (b.cells p).toArray, .agg #[.int .u8 gg, .int .u8 nn, .int .u16 tt, .int .u8 oo]] w fun v w' => v = .bool true ∧ St w0 w' F := by
  refine con_of_wc (n := 163) Try.func10 rfl rfl (Nat.le_of_ble_eq_true rfl) ?_
  have hlh0 := hm.lh
  obtain ⟨ot, ho⟩ : ∃ ot : Nat, oo = (ot : Int) := ⟨oo.toNat, by omega⟩
  subst ho
  refine w_seq (fun K2 hK1 => ?_)
  refine w_region ?_
  refine w_box (v := .agg #[.int _ _, .slice _ _ _, .slice _ _ _]) (cs := [_, _, _]) want_none rfl rfl rfl hs (fun b3 w4 hs5 => ?_)
  refine w_box (v := .agg #[.int _ _, .int _ _, .int _ _, .int _ _]) (cs := [_, _, _, _]) want_none rfl rfl rfl hs5 (fun b6 w7 hs8 => ?_)
  refine w_p (y_assign (v := _) rfl rfl) rfl ?_
  refine w_nil ?_
  refine q_then (hK1 _ _ ?_)
  refine w_seq (fun K10 hK9 => ?_)
  refine w_seq (fun K12 hK11 => ?_)
  have hbx := ats_ofK (i := 1) (vs := b.cells p) hs8 rfl rfl
  have hb3 := ats_ofL (i := 0) (vs := [_, _, _, _]) hs8 rfl rfl
  refine w_region ?_
  refine w_p (y_loadN (vs := [_, _, _]) Try.isAgg25 Try.sizeOf25 hs8 rfl rfl hbx) rfl ?_
  refine w_call want_none Try.call45 rfl rfl rfl rfl (c45 b p hm.cons.cons hs8) ?_
  rintro _ w14 ⟨rfl, hs15⟩
  refine w_p (y_not rfl rfl) rfl ?_
  refine w_nil ?_
  refine q_then (hK11 _ _ ?_)
  refine w_cond rfl rfl (fun h16 => ?_) (fun h16 => ?_)
  ·
   try simp only [zA, zB, zC, zD, zE, zF] at h16
   refine w_seq (fun K18 hK17 => ?_)
   have hsb : someB b = false := by assumption
   refine w_region ?_
   refine w_p (y_loadN (vs := [_, _, _]) Try.isAgg25 Try.sizeOf25 hs15 rfl rfl hbx) rfl ?_
   refine w_call want_none Try.call27 rfl rfl rfl rfl (c27 b _ hm.cons.cons 0 0 hs15) ?_
   rintro _ w20 ⟨B1, a1, c1, rfl, hq1, hs21⟩
   replace hs21 := (show St _ _ (B1 ++ (_ :: _ :: F)) from hs21)
   refine w_p (y_move (v := .tuple _) rfl rfl) rfl ?_
   refine w_p (y_extract (v := .slice _ _ _) rfl rfl rfl) rfl ?_
   refine w_p (y_extract (v := .int _ _) rfl rfl rfl) rfl ?_
   refine w_p (y_assign (v := .slice _ _ _) rfl rfl) rfl ?_
   refine w_p (y_assign (v := .int _ _) rfl rfl) rfl ?_
   refine w_nil ?_
   refine q_then (hK17 _ _ ?_)
   refine w_seq (fun K23 hK22 => ?_)
   refine w_region ?_
   refine w_p (y_move (v := .int _ _) rfl rfl) rfl ?_
   refine w_p (y_neq rfl rfl rfl rfl) rfl ?_
   refine w_p (y_move (v := .bool _) rfl rfl) rfl ?_
   refine w_split (fun h24 => ?_) (fun h24 => ?_)
   ·
    try simp only [zA, zB, zC, zD, zE, zF] at h24
    refine w_call (want_yes rfl rfl rfl) Try.call22 rfl rfl rfl rfl (c22 hs21) ?_
    rintro _ w26 ⟨rfl, hs27⟩
    refine w_p (y_pickT (v := .bool _) rfl rfl rfl rfl) rfl ?_
    refine w_p (y_assign (v := .bool _) rfl rfl) rfl ?_
    refine w_nil ?_
    refine q_then (hK22 _ _ ?_)
    refine w_ret ?_
    refine q_then_ret ?_
    refine q_ret (l := [.tmp 4]) (vs := [_]) rfl ⟨⟨rfl, show _ = (.bool _ : Value) from rfl⟩, trivial⟩ ?_
    exact ⟨rfl, hs27.drop.tail.tail⟩
   ·
    exfalso
    try simp only [zA, zB, zC, zD, zE, zF] at h24
    exact looks_no hsb 0 0 h24
  ·
   try simp only [zA, zB, zC, zD, zE, zF] at h16
   refine w_skip ?_
   refine q_then (hK9 _ _ ?_)
   refine w_seq (fun K29 hK28 => ?_)
   have hso : someB b = true := by assumption
   obtain ⟨hck, hok, hne⟩ := someB_y hso
   have hlh := hok.lh
   have hho := hok.holds
   refine w_draw [] [(0, 0), (1, 1), (2, 0), (3, 0), (4, 1), (5, 0), (6, 0), (7, 1), (8, 0), (9, 0), (10, 0)] Try_mo (drawOK_of (by kernel_rfl)) hs15 (fun w30 hs31 => ?_)
   refine d_any rfl want_none rfl (fun _ => (y_fieldAddr (o := 0) (i := 0) Try.underlying65 rfl Try.sizeOf5 rfl rfl rfl)) ?_
   refine d_take rfl want_none rfl hs31 (fun _ hq => (y_load1 Try.isAgg5 hq rfl rfl (show Ats _ _ _ _ [_] from Ats.part hb3 0 1))) ?_
   refine d_any rfl want_none rfl (fun _ => (y_u8int (by rw [Try.underlying5]; rfl) Try.underlying3 rfl rfl (by omega) (by omega))) ?_
   refine d_any rfl want_none rfl (fun _ => (y_fieldAddr (o := 0) (i := 0) Try.underlying25 rfl Try.sizeOf3 rfl rfl rfl)) ?_
   refine d_take rfl want_none rfl hs31 (fun _ hq => (y_load1 Try.isAgg3 hq rfl rfl (show Ats _ _ _ _ [_] from Ats.part hbx 0 1))) ?_
   refine d_any rfl want_none rfl (fun _ => (y_rem rfl rfl rfl rfl (by omega) (by omega))) ?_
   refine d_any rfl want_none rfl (fun _ => (y_fieldAddr (o := 1) (i := 1) Try.underlying65 rfl Try.sizeOf5 rfl rfl rfl)) ?_
   refine d_take rfl want_none rfl hs31 (fun _ hq => (y_load1 Try.isAgg5 hq rfl rfl (show Ats _ _ _ _ [_] from Ats.part hb3 1 1))) ?_
   refine d_any rfl want_none rfl (fun _ => (y_u8int (by rw [Try.underlying5]; rfl) Try.underlying3 rfl rfl (by omega) (by omega))) ?_
   refine d_any rfl want_none rfl (fun _ => (y_assign (v := .int _ _) rfl rfl)) ?_
   refine d_any rfl want_none rfl (fun _ => (y_assign (v := .int _ _) rfl rfl)) ?_
   refine d_nil ?_
   refine q_then (hK28 _ _ ?_)
   refine w_seq (fun K33 hK32 => ?_)
   have hg0 := Int.emod_nonneg gg (show b.holds ≠ 0 by omega)
   have hg1 := Int.emod_lt_of_pos gg (show 0 < b.holds by omega)
   obtain ⟨h, hh⟩ : ∃ h : Nat, gg % b.holds = (h : Int) := ⟨(gg % b.holds).toNat, by omega⟩
   rw [hh]
   obtain ⟨s, hF⟩ := look_few hso (hold := (h : Int)) (within := nn) ⟨by omega, by omega⟩ (by omega)
   have hw1 : (looksP b (h : Int) nn).1 = listL s b.hours.length := by rw [hF.is]
   have hri : rising (b.hours.length : Int) (-1) (looksP b (h : Int) nn).1 = true := by rw [hw1]; exact list_rising s _ (Int.le_refl _)
   have hLs := look_short b (h : Int) nn
   have hLin : ∀ z ∈ (looksP b (h : Int) nn).1, 0 ≤ z ∧ z < (b.hours.length : Int) := fun z hz => Go.Rt.Ha.listL_lt s _ z (by rw [← hw1]; exact hz)
   have hXin : ∀ z ∈ (listL ot b.hours.length), 0 ≤ z ∧ z < (b.hours.length : Int) := fun z hz => Go.Rt.Ha.listL_lt ot _ z hz
   refine w_region ?_
   refine w_p (y_loadN (vs := [_, _, _]) Try.isAgg25 Try.sizeOf25 hs31 rfl rfl hbx) rfl ?_
   refine w_p (y_move (v := .int _ _) rfl rfl) rfl ?_
   refine w_p (y_move (v := .int _ _) rfl rfl) rfl ?_
   refine w_call want_none Try.call27 rfl rfl rfl rfl (c27 b _ hm.cons.cons (h : Int) nn hs31) ?_
   rintro _ w35 ⟨B1, a1, c1, rfl, hq1, hs36⟩
   replace hs36 := (show St _ _ (B1 ++ (_ :: _ :: F)) from hs36)
   refine w_p (y_move (v := .tuple _) rfl rfl) rfl ?_
   refine w_p (y_extract (v := .slice _ _ _) rfl rfl rfl) rfl ?_
   refine w_p (y_extract (v := .int _ _) rfl rfl rfl) rfl ?_
   refine w_p (y_assign (v := .slice _ _ _) rfl rfl) rfl ?_
   refine w_p (y_assign (v := .int _ _) rfl rfl) rfl ?_
   refine w_nil ?_
   refine q_then (hK32 _ _ ?_)
   refine w_seq (fun K38 hK37 => ?_)
   refine w_region ?_
   refine w_p (y_loadN (vs := [_, _, _]) Try.isAgg25 Try.sizeOf25 hs36.drop rfl rfl hbx) rfl ?_
   refine w_call want_none Try.call46 rfl rfl rfl rfl (c46 b p hm.cons.cons.app hok hs36) ?_
   rintro _ w40 ⟨TB, vs, aT, cT, rfl, hslT, helT, hs41⟩
   replace hs41 := (show St _ _ (TB ++ (B1 ++ (_ :: _ :: F))) from hs41)
   have hwl := truths_256 hok
   have hwp : 0 < (truths b).length := List.length_pos_iff.2 hne
   have hall : ∀ l ∈ truths b, l.length = b.hours.length ∧ ∀ k, 0 ≤ ld l k ∧ ld l k ≤ 40 := fun l hl => ⟨(truth_in hl).1, fun k => ld_40 hok hl k⟩
   refine w_p (y_assign (v := .slice _ _ _) rfl rfl) rfl ?_
   refine w_nil ?_
   refine q_then (hK37 _ _ ?_)
   refine w_seq (fun K43 hK42 => ?_)
   refine w_region ?_
   refine w_p (y_assign (v := _) rfl rfl) rfl ?_
   refine w_nil ?_
   refine q_then (hK42 _ _ ?_)
   refine w_seq (fun K45 hK44 => ?_)
   refine w_seq (fun K47 hK46 => ?_)
   refine w_region ?_
   refine w_p (y_assign (v := _) rfl rfl) rfl ?_
   refine w_nil ?_
   refine q_then (hK46 _ _ ?_)
   refine w_block ?_
   refine w_loop [12, 13, 51, 52, 53, 54, 55, 56, 57, 58, 59, 60, 61, 62, 63, 64, 65, 66] [12, 13] (fun k vs0 w => ∃ (i : Nat) (v : Value) (OB : List (Nat × Obj)), vs0 = [v, .int .i64 i] ∧ i ≤ b.hours.length ∧ k = b.hours.length - i ∧ Rt.Own v 3 1 (listL ot i).length (iv (listL ot i)) OB ∧ St w0 w (OB ++ (TB ++ (B1 ++ ((b6, blk 65 [.int .u8 gg, .int .u8 nn, .int .u16 tt, .int .u8 (ot : Int)]) :: (b3, blk 25 (b.cells p)) :: F))))) (b.hours.length) ?_ ?_
   ·
    exact ⟨0, _, [], rfl, by omega, by omega, own_nil 3 1, hs41⟩
   ·
    intro k vs μ w50 hI K49 hN48
    obtain ⟨i, v, OB, rfl, hia, rfl, hown, hs⟩ := hI
    refine w_seq (fun K52 hK51 => ?_)
    refine w_seq (fun K54 hK53 => ?_)
    refine w_region ?_
    refine w_p (y_move (v := .int _ _) rfl rfl) rfl ?_
    refine w_p (y_fieldAddr (o := 1) (i := 1) Try.underlying25 rfl Try.sizeOf22 rfl rfl rfl) rfl ?_
    refine w_p (y_load1 Try.isAgg22 hs.drop.drop.drop rfl rfl (show Ats _ _ _ _ [_] from Ats.part hbx 1 1)) rfl ?_
    refine w_p (y_lenS Try.underlying22 rfl rfl) rfl ?_
    refine w_p (y_lss rfl rfl rfl rfl) rfl ?_
    refine w_nil ?_
    refine q_then (hK53 _ _ ?_)
    refine w_cond rfl rfl (fun h55 => ?_) (fun h55 => ?_)
    ·
     try simp only [zA, zB, zC, zD, zE, zF] at h55
     refine w_skip ?_
     refine q_then (hK51 _ _ ?_)
     refine w_seq (fun K57 hK56 => ?_)
     refine w_block ?_
     refine w_seq (fun K59 hK58 => ?_)
     have hol := listL_le ot i
     have hi2 : i < b.hours.length := by omega
     refine w_region ?_
     refine w_p (y_fieldAddr (o := 3) (i := 3) Try.underlying65 rfl Try.sizeOf5 rfl rfl rfl) rfl ?_
     refine w_p (y_load1 Try.isAgg5 hs.drop.drop.drop rfl rfl (show Ats _ _ _ _ [_] from Ats.part hb3 3 1)) rfl ?_
     refine w_p (y_u8int (by rw [Try.underlying5]; rfl) Try.underlying3 rfl rfl (by omega) (by omega)) rfl ?_
     refine w_p (y_move (v := .int _ _) rfl rfl) rfl ?_
     refine w_call want_none Try.call40 rfl rfl rfl rfl (bit_con ot i (by omega) (by omega) (by omega) hs) ?_
     rintro _ w61 ⟨rfl, hs62⟩
     refine w_nil ?_
     refine q_then (hK58 _ _ ?_)
     refine w_cond rfl rfl (fun h63 => ?_) (fun h63 => ?_)
     ·
      try simp only [zA, zB, zC, zD, zE, zF] at h63
      refine w_region ?_
      refine w_p (y_move (v := v) rfl rfl) rfl ?_
      refine w_p (y_move (v := .int _ _) rfl rfl) rfl ?_
      refine w_bslice (ps := [(0, _)]) (pv := [(0, .int _ _)]) (cs := [_]) want_none rfl rfl (fun w => Try_Zi_fb8 _ w) hs62 (fun b64 w65 hs66 => ?_)
      refine w_append (X := (_ :: [])) (B := OB) (rows := [[_]]) (sz := 1) (bytes := 8) want_none Try.underlying39 Try_info3 rfl rfl rfl rfl rfl rfl rfl rfl rfl hs66 hown (sl_own (i := 0) rfl (by simp) rfl) rfl (by simp) (by simp [Value.oneCell']) (by simp only [maxLen]; omega) (by omega) (fun v67 w68 B69 ho70 hs71 => ?_)
      replace hs71 := (show St _ _ (_ :: B69 ++ (TB ++ (B1 ++ (_ :: _ :: F)))) from hs71)
      refine w_p (y_assign (v := v67) rfl rfl) rfl ?_
      refine w_nil ?_
      refine q_blk_normal ?_
      refine q_then (hK56 _ _ ?_)
      refine w_region ?_
      refine w_p (y_move (v := .int _ _) rfl rfl) rfl ?_
      refine w_p (y_add rfl rfl rfl rfl (by omega) (by omega)) rfl ?_
      refine w_p (y_assign (v := .int _ _) rfl rfl) rfl ?_
      refine w_nil ?_
      refine q_then (hN48 _ _ (Nx.intro (b.hours.length - (i + 1)) (by omega) (by repeat (first | exact agree_mix | refine agree_upd rfl ?_ | refine agree_updL rfl ?_ _ | refine agree_mixin rfl ?_)) ?_))
      exact ⟨i + 1, _, _, rfl, by omega, rfl, own_listI (by assumption) ho70, hs71.tail⟩
     ·
      try simp only [zA, zB, zC, zD, zE, zF] at h63
      refine w_skip ?_
      refine q_blk_normal ?_
      refine q_then (hK56 _ _ ?_)
      refine w_region ?_
      refine w_p (y_move (v := .int _ _) rfl rfl) rfl ?_
      refine w_p (y_add rfl rfl rfl rfl (by omega) (by omega)) rfl ?_
      refine w_p (y_assign (v := .int _ _) rfl rfl) rfl ?_
      refine w_nil ?_
      refine q_then (hN48 _ _ (Nx.intro (b.hours.length - (i + 1)) (by omega) (by repeat (first | exact agree_mix | refine agree_upd rfl ?_ | refine agree_updL rfl ?_ _ | refine agree_mixin rfl ?_)) ?_))
      exact ⟨i + 1, v, OB, rfl, by omega, rfl, by rw [listL_no (by assumption)]; exact hown, hs62⟩
    ·
     try simp only [zA, zB, zC, zD, zE, zF] at h55
     refine w_exit ?_
     refine q_then_exit ?_
     refine q_then_exit ?_
     refine q_blk_this ?_
     refine q_then (hK44 _ _ ?_)
     refine w_seq (fun K73 hK72 => ?_)
     refine w_seq (fun K75 hK74 => ?_)
     refine w_region ?_
     have hin : i = b.hours.length := by omega
     subst hin
     have hol := listL_le ot b.hours.length
     obtain ⟨aO, cO, rfl, hslO, _, _⟩ := own_ints (w0 := w0) hown
     refine w_p (y_move (v := .int _ _) rfl rfl) rfl ?_
     refine w_p (y_neq rfl rfl rfl rfl) rfl ?_
     refine w_p (y_move (v := .bool _) rfl rfl) rfl ?_
     refine w_split (fun h76 => ?_) (fun h76 => ?_)
     ·
      exfalso
      try simp only [zA, zB, zC, zD, zE, zF] at h76
      rw [hF.is] at h76; simp at h76
     ·
      try simp only [zA, zB, zC, zD, zE, zF] at h76
      refine w_y rfl rfl rfl (y_move (v := .slice _ _ _) rfl rfl) rfl ?_
      refine w_y rfl rfl rfl (y_fieldAddr (o := 1) (i := 1) Try.underlying25 rfl Try.sizeOf22 rfl rfl rfl) rfl ?_
      refine w_y rfl rfl rfl (y_load1 Try.isAgg22 hs.drop.drop.drop rfl rfl (show Ats _ _ _ _ [_] from Ats.part hbx 1 1)) rfl ?_
      refine w_y rfl rfl rfl (y_lenS Try.underlying22 rfl rfl) rfl ?_
      refine w_call (want_yes rfl rfl rfl) Try.call41 rfl rfl rfl rfl (con_true (c41 _ _ (looksP b (h : Int) nn).1 (by omega) hq1.top.app.app (b.hours.length : Int) hs) hri) ?_
      rintro _ w78 ⟨rfl, hs79⟩
      refine w_y rfl rfl rfl (y_not rfl rfl) rfl ?_
      refine w_p (y_pickF (v := .bool _) rfl rfl rfl rfl) rfl ?_
      refine w_p (y_move (v := .bool _) rfl rfl) rfl ?_
      refine w_y rfl rfl rfl (y_move (v := .slice _ _ _) rfl rfl) rfl ?_
      refine w_y rfl rfl rfl (y_move (v := .slice _ _ _) rfl rfl) rfl ?_
      refine w_call (want_yes rfl rfl rfl) Try.call44 rfl rfl rfl rfl (c44 _ _ (listL ot b.hours.length) (looksP b (h : Int) nn).1 _ _ (by omega) hslO.top hq1.top.app.app hs79) ?_
      rintro _ w81 ⟨rfl, hs82⟩
      refine w_y rfl rfl rfl (y_move (v := .bool _) rfl rfl) rfl ?_
      refine w_split (fun h83 => ?_) (fun h83 => ?_)
      ·
       try simp only [zA, zB, zC, zD, zE, zF] at h83
       refine w_y rfl rfl rfl (y_loadN (vs := [_, _, _]) Try.isAgg25 Try.sizeOf25 hs82.drop.drop.drop rfl rfl hbx) rfl ?_
       refine w_y rfl rfl rfl (y_move (v := .slice _ _ _) rfl rfl) rfl ?_
       refine w_y rfl rfl rfl (y_move (v := .slice _ _ _) rfl rfl) rfl ?_
       refine w_y rfl rfl rfl (y_move (v := .int _ _) rfl rfl) rfl ?_
       refine w_y rfl rfl rfl (y_move (v := .int _ _) rfl rfl) rfl ?_
       refine w_call (want_yes rfl rfl rfl) Try.call47 rfl rfl rfl rfl (con_false (c47 b p hm.cons.cons.app.app.app hok _ _ (truths b) vs hslT.top.app helT.top.app hwl hall _ _ (listL ot b.hours.length) (by omega) hXin hslO.top (h : Int) nn hs82) (look_other hF (by rw [← hw1, ← before_fewer]; assumption))) ?_
       rintro _ w85 ⟨rfl, hs86⟩
       refine w_y rfl rfl rfl (y_pickT (v := .bool _) rfl rfl rfl rfl) rfl ?_
       refine w_p (y_pickF (v := .bool _) rfl rfl rfl rfl) rfl ?_
       refine w_nil ?_
       refine q_then (hK74 _ _ ?_)
       refine w_condF rfl rfl ?_
       refine w_skip ?_
       refine q_then (hK72 _ _ ?_)
       refine w_seq (fun K88 hK87 => ?_)
       have hzm := Int.emod_nonneg tt (show ((truths b).length : Int) ≠ 0 by omega)
       have hzl := Int.emod_lt_of_pos tt (show 0 < ((truths b).length : Int) by omega)
       obtain ⟨u, hu⟩ : ∃ u : Nat, tt % ((truths b).length : Int) = (u : Int) := ⟨(tt % ((truths b).length : Int)).toNat, by omega⟩
       have hu2 : u < (truths b).length := by omega
       obtain ⟨bx, ox, e2, q2, ha, hx0, hsx0, _⟩ := el_at hslT helT hu2
       subst ha
       have hx := hx0.top (F := (B1 ++ ((b6, blk 65 [.int .u8 gg, .int .u8 nn, .int .u16 tt, .int .u8 (ot : Int)]) :: (b3, blk 25 (b.cells p)) :: F)))
       have htl := (hall _ (List.getElem_mem hu2)).1
       obtain ⟨fx, fy, hto, hfd, hfb⟩ := told_hold hso (hold := h) (by omega) hF (List.getElem_mem hu2)
       rw [← hw1] at hto
       have hT := told_law hck (List.getElem_mem hu2) hLin
       refine w_region ?_
       refine w_p (y_move (v := .slice _ _ _) rfl rfl) rfl ?_
       refine w_p (y_fieldAddr (o := 2) (i := 2) Try.underlying65 rfl Try.sizeOf63 rfl rfl rfl) rfl ?_
       refine w_p (y_load1 Try.isAgg63 hs86.drop.drop.drop rfl rfl (show Ats _ _ _ _ [_] from Ats.part hb3 2 1)) rfl ?_
       refine w_p (y_u16int (by rw [Try.underlying63]; rfl) Try.underlying3 rfl rfl (by omega) (by omega)) rfl ?_
       refine w_p (y_move (v := .slice _ _ _) rfl rfl) rfl ?_
       refine w_p (y_lenS Try.underlying66 rfl rfl) rfl ?_
       refine w_p (y_rem rfl rfl rfl rfl (by omega) (by omega)) rfl ?_
       refine w_p (y_indexS Try.underlying66 Try.sizeOf39 rfl rfl rfl rfl (i := u) (by omega) hu2) rfl ?_
       refine w_p (y_load1 Try.isAgg39 hs86.drop rfl rfl hx) rfl ?_
       refine w_p (y_assign (v := .slice _ _ _) rfl rfl) rfl ?_
       refine w_nil ?_
       refine q_then (hK87 _ _ ?_)
       refine w_seq (fun K90 hK89 => ?_)
       refine w_region ?_
       refine w_p (y_loadN (vs := [_, _, _]) Try.isAgg25 Try.sizeOf25 hs86.drop.drop.drop rfl rfl hbx) rfl ?_
       refine w_alloc (cs := [_, _, _]) want_none Try.zeroValue25 rfl hs86 (fun b91 w92 hs93 => ?_)
       refine w_store (i := 0) (v := .agg #[.int _ _, .slice _ _ _, .slice _ _ _]) (vs := [_, _, _]) want_none Try.sizeOf25 rfl rfl rfl rfl rfl (by simp [Value.oneCell']) hs93 rfl (Nat.le_of_ble_eq_true rfl) (fun w94 hs95 => ?_)
       refine w_nil ?_
       refine q_then (hK89 _ _ ?_)
       refine w_seq (fun K97 hK96 => ?_)
       refine w_region ?_
       refine w_bslice (ps := []) (pv := []) (cs := []) want_none rfl rfl (fun w => Try_Zi_fb9  w) hs95 (fun b98 w99 hs100 => ?_)
       refine w_p (y_fieldAddr (o := 1) (i := 1) Try.underlying25 rfl Try.sizeOf22 rfl rfl rfl) rfl ?_
       refine w_p (y_load1 Try.isAgg22 hs100.tail.tail.drop.drop.drop rfl rfl (show Ats _ _ _ _ [_] from Ats.part hbx 1 1)) rfl ?_
       refine w_append (X := ([])) (B := [_]) (rows := (hrows b.hours)) (sz := 3) (bytes := 24) want_none Try.underlying22 Try_info70 rfl rfl rfl rfl rfl rfl rfl rfl rfl hs100 own_made hm.h.cons.cons.app.app.app.cons.cons (by simp [hrows]) hnh (hrows_one _) (by simp only [maxLen]; omega) (by omega) (fun v101 w102 B103 ho104 hs105 => ?_)
       replace hs105 := (show St _ _ (B103 ++ (_ :: OB ++ (TB ++ (B1 ++ (_ :: _ :: F))))) from hs105)
       have hs106 := St.perm (L := B103 ++ ([_] ++ _)) hs105 (perm_mid B103 [_] _)
       replace hs106 := (show St _ _ (_ :: (B103 ++ _)) from hs106)
       have hownH : Rt.Own v101 70 3 b.hours.length (hrows b.hours).flatten B103 := by
         have h9 := ho104
         rw [Nat.zero_add, List.nil_append] at h9
         exact h9
       obtain ⟨aN, cN, rfl⟩ := hownH.slice
       refine w_p (y_fieldAddr (o := 1) (i := 1) Try.underlying25 rfl Try.sizeOf22 rfl rfl rfl) rfl ?_
       refine w_store (i := 0) (v := .slice _ _ _) (vs := [_]) want_none Try.sizeOf22 rfl rfl rfl rfl rfl (by simp [Value.oneCell']) hs106 rfl (Nat.le_of_ble_eq_true rfl) (fun w107 hs108 => ?_)
       refine w_nil ?_
       refine q_then (hK96 _ _ ?_)
       refine w_seq (fun K110 hK109 => ?_)
       refine w_seq (fun K112 hK111 => ?_)
       refine w_region ?_
       refine w_p (y_assign (v := _) rfl rfl) rfl ?_
       refine w_nil ?_
       refine q_then (hK111 _ _ ?_)
       refine w_block ?_
       refine w_loop [16, 17, 105, 106, 107, 108, 109, 110, 111, 112, 113, 114, 115, 116, 117, 118, 119, 120, 121, 122, 123, 124, 125, 126, 127, 128, 129, 130, 131, 132, 133, 134, 135, 136, 137, 138, 139, 140, 141, 142] [16] (fun k vs0 w => ∃ (i : Nat) (HB : List (Nat × Obj)), vs0 = [.int .i64 i] ∧ i ≤ (looksP b (h : Int) nn).1.length ∧ k = (looksP b (h : Int) nn).1.length - i ∧ Rt.Own (.slice aN b.hours.length cN) 70 3 b.hours.length (hrows (toldTo b ((truths b)[u]'hu2) (looksP b (h : Int) nn).1 i)).flatten HB ∧ St w0 w ((b91, blk 25 [.int .i64 b.holds, .slice aN b.hours.length cN, .slice p.ac b.ctrs.length p.cc]) :: (HB ++ (OB ++ (TB ++ (B1 ++ ((b6, blk 65 [.int .u8 gg, .int .u8 nn, .int .u16 tt, .int .u8 (ot : Int)]) :: (b3, blk 25 (b.cells p)) :: F))))))) ((looksP b (h : Int) nn).1.length) ?_ ?_
       ·
        exact ⟨0, _, rfl, by omega, by omega, by rw [told_zero]; exact hownH, hs108⟩
       ·
        intro k vs μ w115 hI K114 hN113
        clear hs hownH
        obtain ⟨i, HB, rfl, hia, rfl, hownH, hs⟩ := hI
        refine w_seq (fun K117 hK116 => ?_)
        refine w_seq (fun K119 hK118 => ?_)
        refine w_region ?_
        refine w_p (y_move (v := .int _ _) rfl rfl) rfl ?_
        refine w_p (y_move (v := .slice _ _ _) rfl rfl) rfl ?_
        refine w_p (y_lenS Try.underlying39 rfl rfl) rfl ?_
        refine w_p (y_lss rfl rfl rfl rfl) rfl ?_
        refine w_nil ?_
        refine q_then (hK118 _ _ ?_)
        refine w_cond rfl rfl (fun h120 => ?_) (fun h120 => ?_)
        ·
         try simp only [zA, zB, zC, zD, zE, zF] at h120
         refine w_skip ?_
         refine q_then (hK116 _ _ ?_)
         refine w_seq (fun K122 hK121 => ?_)
         refine w_block ?_
         refine w_seq (fun K124 hK123 => ?_)
         have hi2 : i < (looksP b (h : Int) nn).1.length := by omega
         have hz := hLin _ (List.getElem_mem hi2)
         have hzn : ((looksP b (h : Int) nn).1[i]'hi2).toNat < b.hours.length := by omega
         have htln : (toldTo b ((truths b)[u]'hu2) (looksP b (h : Int) nn).1 i).length = b.hours.length := told_len b _ _ i (by omega)
         obtain ⟨bH, csH, rfl, rfl, hcap, hcapm, hcl, htk⟩ := own_some2 hownH (by omega)
         obtain ⟨bq, oq, hbq, hrow⟩ := sl_hrows (sl_own (w0 := w0) (L := (bH, blk 70 csH) :: (OB ++ (TB ++ (B1 ++ ((b6, blk 65 [.int .u8 gg, .int .u8 nn, .int .u16 tt, .int .u8 (ot : Int)]) :: (b3, blk 25 (b.cells p)) :: F))))) (i := 0) rfl (hrows_row3 (toldTo b ((truths b)[u]'hu2) (looksP b (h : Int) nn).1 i)) (by rw [show (hrows (toldTo b ((truths b)[u]'hu2) (looksP b (h : Int) nn).1 i)).length = b.hours.length by simp [hrows, htln]]; exact htk)) (show ((looksP b (h : Int) nn).1[i]'hi2).toNat < (toldTo b ((truths b)[u]'hu2) (looksP b (h : Int) nn).1 i).length by rw [htln]; exact hzn)
         cases hbq
         obtain ⟨bz, oz, hbz, hz0⟩ := sl_ints hq1 hi2
         subst hbz
         have hzx := hz0.top (F := ((b6, blk 65 [.int .u8 gg, .int .u8 nn, .int .u16 tt, .int .u8 (ot : Int)]) :: (b3, blk 25 (b.cells p)) :: F))
         obtain ⟨by_, oy, hby, hy0⟩ := sl_ints hsx0 (show ((looksP b (h : Int) nn).1[i]'hi2).toNat < ((truths b)[u]'hu2).length by rw [htl]; exact hzn)
         subst hby
         rw [← ld_at (show ((looksP b (h : Int) nn).1[i]'hi2).toNat < ((truths b)[u]'hu2).length by rw [htl]; exact hzn)] at hy0
         have hyx := hy0.top (F := (B1 ++ ((b6, blk 65 [.int .u8 gg, .int .u8 nn, .int .u16 tt, .int .u8 (ot : Int)]) :: (b3, blk 25 (b.cells p)) :: F)))
         replace hs := (show St _ _ (_ :: _ :: OB ++ (TB ++ (B1 ++ (_ :: _ :: F)))) from hs)
         refine w_draw [9] [(0, 0), (1, 1), (2, 0), (3, 0), (4, 0), (5, 1), (6, 0), (7, 1), (8, 2), (9, 3)] Try_mo (drawOK_of (by kernel_rfl)) hs (fun w125 hs126 => ?_)
         refine d_any rfl want_none rfl (fun _ => (y_fieldAddr (o := 1) (i := 1) Try.underlying25 rfl Try.sizeOf22 rfl rfl rfl)) ?_
         refine d_take rfl want_none rfl hs126 (fun _ hq => (y_load1 Try.isAgg22 hq rfl rfl (ats_own (i := 0) (vs := [_]) rfl rfl))) ?_
         refine d_any rfl want_none rfl (fun _ => (y_move (v := .slice _ _ _) rfl rfl)) ?_
         refine d_any rfl want_none rfl (fun _ => (y_move (v := .int _ _) rfl rfl)) ?_
         refine d_any rfl want_none rfl (fun _ => (y_indexS Try.underlying39 Try.sizeOf3 rfl rfl rfl rfl (i := i) rfl hi2)) ?_
         refine d_take rfl want_none rfl hs126 (fun _ hq => (y_load1 Try.isAgg3 hq.tail.tail.drop.drop rfl rfl hzx)) ?_
         refine d_any rfl want_none rfl (fun _ => (y_indexS Try.underlying22 Try.sizeOf70 rfl rfl rfl rfl (i := ((looksP b (h : Int) nn).1[i]'hi2).toNat) (by omega) hzn)) ?_
         refine d_take rfl want_none rfl hs126 (fun _ hq => (y_loadN (vs := [_, _, _]) Try.isAgg70 Try.sizeOf70 hq.tail rfl rfl hrow)) ?_
         refine d_eff rfl ?_
         refine w_alloc (cs := [_, _, _]) want_none Try.zeroValue70 rfl hs126 (fun b127 w128 hs129 => ?_)
         refine w_nil ?_
         refine qn ⟨hs129.tail, ?_⟩
         refine d_late rfl ?_
         refine w_store (i := 0) (v := .agg #[.int _ _, .int _ _, .int _ _]) (vs := [_, _, _]) want_none Try.sizeOf70 rfl rfl rfl rfl rfl (by simp [Value.oneCell']) hs129 rfl (Nat.le_of_ble_eq_true rfl) (fun w130 hs131 => ?_)
         refine w_nil ?_
         refine qn ?_
         refine d_nil ?_
         refine q_then (hK123 _ _ ?_)
         refine w_seq (fun K133 hK132 => ?_)
         refine w_draw [16] [(0, 0), (1, 0), (2, 0), (3, 0), (4, 1), (5, 0), (6, 1), (7, 0), (8, 0), (9, 0), (10, 0), (11, 1), (12, 0), (13, 1), (14, 2), (15, 0), (16, 3)] Try_mo (drawOK_of (by kernel_rfl)) hs131 (fun w134 hs135 => ?_)
         refine d_any rfl want_none rfl (fun _ => (y_move (v := .slice _ _ _) rfl rfl)) ?_
         refine d_any rfl want_none rfl (fun _ => (y_move (v := .slice _ _ _) rfl rfl)) ?_
         refine d_any rfl want_none rfl (fun _ => (y_move (v := .int _ _) rfl rfl)) ?_
         refine d_any rfl want_none rfl (fun _ => (y_indexS Try.underlying39 Try.sizeOf3 rfl rfl rfl rfl (i := i) rfl hi2)) ?_
         refine d_take rfl want_none rfl hs135 (fun _ hq => (y_load1 Try.isAgg3 hq.tail.tail.tail.drop.drop rfl rfl hzx)) ?_
         refine d_any rfl want_none rfl (fun _ => (y_indexS Try.underlying39 Try.sizeOf3 rfl rfl rfl rfl (i := ((looksP b (h : Int) nn).1[i]'hi2).toNat) (by omega) (by omega))) ?_
         refine d_take rfl want_none rfl hs135 (fun _ hq => (y_load1 Try.isAgg3 hq.tail.tail.tail.drop rfl rfl hyx)) ?_
         refine d_any rfl want_none rfl (fun _ => (y_move (v := .slice _ _ _) rfl rfl)) ?_
         refine d_any rfl want_none rfl (fun _ => (y_move (v := .slice _ _ _) rfl rfl)) ?_
         refine d_any rfl want_none rfl (fun _ => (y_move (v := .int _ _) rfl rfl)) ?_
         refine d_any rfl want_none rfl (fun _ => (y_indexS Try.underlying39 Try.sizeOf3 rfl rfl rfl rfl (i := i) rfl hi2)) ?_
         refine d_take rfl want_none rfl hs135 (fun _ hq => (y_load1 Try.isAgg3 hq.tail.tail.tail.drop.drop rfl rfl hzx)) ?_
         refine d_any rfl want_none rfl (fun _ => (y_indexS Try.underlying39 Try.sizeOf3 rfl rfl rfl rfl (i := ((looksP b (h : Int) nn).1[i]'hi2).toNat) (by omega) (by omega))) ?_
         refine d_take rfl want_none rfl hs135 (fun _ hq => (y_load1 Try.isAgg3 hq.tail.tail.tail.drop rfl rfl hyx)) ?_
         refine d_eff rfl ?_
         refine w_call want_none Try.call33 rfl rfl rfl rfl (c33 _ _ hs135) ?_
         rintro _ w137 ⟨rfl, hs138⟩
         refine w_nil ?_
         refine qn ⟨hs138, ?_⟩
         refine d_any rfl want_none rfl (fun _ => (y_fieldAddr (o := 1) (i := 1) Try.underlying70 rfl Try.sizeOf31 rfl rfl rfl)) ?_
         refine d_late rfl ?_
         refine w_store (i := 0) (v := .agg #[.int _ _, .int _ _]) (vs := [_, _]) want_none Try.sizeOf31 rfl rfl rfl rfl rfl (by simp [Value.oneCell']) hs138 rfl (Nat.le_of_ble_eq_true rfl) (fun w139 hs140 => ?_)
         refine w_nil ?_
         refine qn ?_
         refine d_nil ?_
         refine q_then (hK132 _ _ ?_)
         refine w_draw [8] [(0, 0), (1, 1), (2, 0), (3, 0), (4, 0), (5, 1), (6, 1), (7, 0), (8, 3)] Try_mo (drawOK_of (by kernel_rfl)) hs140 (fun w141 hs142 => ?_)
         refine d_any rfl want_none rfl (fun _ => (y_fieldAddr (o := 1) (i := 1) Try.underlying25 rfl Try.sizeOf22 rfl rfl rfl)) ?_
         refine d_take rfl want_none rfl hs142 (fun _ hq => (y_load1 Try.isAgg22 hq rfl rfl (ats_own (i := 1) (vs := [_]) rfl rfl))) ?_
         refine d_any rfl want_none rfl (fun _ => (y_move (v := .slice _ _ _) rfl rfl)) ?_
         refine d_any rfl want_none rfl (fun _ => (y_move (v := .int _ _) rfl rfl)) ?_
         refine d_any rfl want_none rfl (fun _ => (y_indexS Try.underlying39 Try.sizeOf3 rfl rfl rfl rfl (i := i) rfl hi2)) ?_
         refine d_take rfl want_none rfl hs142 (fun _ hq => (y_load1 Try.isAgg3 hq.tail.tail.tail.drop.drop rfl rfl hzx)) ?_
         refine d_take rfl want_none rfl hs142 (fun _ hq => (y_loadN (vs := [_, _, _]) Try.isAgg70 Try.sizeOf70 hq rfl rfl (ats_own (i := 0) (vs := [_, _, _]) rfl rfl))) ?_
         refine d_any rfl want_none rfl (fun _ => (y_indexS Try.underlying22 Try.sizeOf70 rfl rfl rfl rfl (i := ((looksP b (h : Int) nn).1[i]'hi2).toNat) (by omega) hzn)) ?_
         refine d_late rfl ?_
         refine w_store (i := 2) (v := .agg #[_, _, _]) (vs := [_, _, _]) want_none Try.sizeOf70 rfl rfl rfl rfl rfl (by simp [Value.oneCell']) hs142 rfl (show 0 + ((looksP b (h : Int) nn).1[i]'hi2).toNat * 3 + 3 ≤ csH.length by omega) (fun w143 hs144 => ?_)
         replace hs144 := (show St _ _ (_ :: _ :: (bH, blk 70 (setMany csH (((looksP b (h : Int) nn).1[i]'hi2).toNat * 3) [.int .i64 ((toldTo b ((truths b)[u]'hu2) (looksP b (h : Int) nn).1 i)[((looksP b (h : Int) nn).1[i]'hi2).toNat]'(by rw [htln]; exact hzn)).hold, .int .i64 (ld ((truths b)[u]'hu2) ((looksP b (h : Int) nn).1[i]'hi2).toNat), .int .i64 (ld ((truths b)[u]'hu2) ((looksP b (h : Int) nn).1[i]'hi2).toNat)])) :: OB ++ (TB ++ (B1 ++ (_ :: _ :: F)))) from (by have h6 := hs144; simp only [Nat.zero_add] at h6; exact h6))
         refine w_nil ?_
         refine qn ?_
         refine d_nil ?_
         refine q_blk_normal ?_
         refine q_then (hK121 _ _ ?_)
         refine w_region ?_
         refine w_p (y_move (v := .int _ _) rfl rfl) rfl ?_
         refine w_p (y_add rfl rfl rfl rfl (by omega) (by omega)) rfl ?_
         refine w_p (y_assign (v := .int _ _) rfl rfl) rfl ?_
         refine w_nil ?_
         refine q_then (hN113 _ _ (Nx.intro ((looksP b (h : Int) nn).1.length - (i + 1)) (by omega) (by repeat (first | exact agree_mix | refine agree_upd rfl ?_ | refine agree_updL rfl ?_ _ | refine agree_mixin rfl ?_)) ?_))
         have hput := own_put (row := Hour.cells) (t := 70) (b := bH) (y := ⟨((toldTo b ((truths b)[u]'hu2) (looksP b (h : Int) nn).1 i)[((looksP b (h : Int) nn).1[i]'hi2).toNat]'(by rw [htln]; exact hzn)).hold, ld ((truths b)[u]'hu2) ((looksP b (h : Int) nn).1[i]'hi2).toNat, ld ((truths b)[u]'hu2) ((looksP b (h : Int) nn).1[i]'hi2).toNat⟩) (fun _ => rfl) (show ((looksP b (h : Int) nn).1[i]'hi2).toNat < (toldTo b ((truths b)[u]'hu2) (looksP b (h : Int) nn).1 i).length by rw [htln]; exact hzn) htln hcap hcapm hcl htk
         exact ⟨i + 1, [(bH, blk 70 _)], rfl, by omega, rfl, by rw [told_step hi2]; unfold setH; rw [show ((toldTo b ((truths b)[u]'hu2) (looksP b (h : Int) nn).1 i).getD ((looksP b (h : Int) nn).1[i]'hi2).toNat ⟨0, 0, 0⟩) = (toldTo b ((truths b)[u]'hu2) (looksP b (h : Int) nn).1 i)[((looksP b (h : Int) nn).1[i]'hi2).toNat]'(by rw [htln]; exact hzn) by rw [List.getD, List.getElem?_eq_getElem (by rw [htln]; exact hzn)]; rfl]; exact hput, hs144.tail⟩
        ·
         try simp only [zA, zB, zC, zD, zE, zF] at h120
         refine w_exit ?_
         refine q_then_exit ?_
         refine q_then_exit ?_
         refine q_blk_this ?_
         refine q_then (hK109 _ _ ?_)
         refine w_seq (fun K146 hK145 => ?_)
         have hin : i = (looksP b (h : Int) nn).1.length := by omega
         subst hin
         obtain ⟨a9, c9, e9, hs9, hc9, _⟩ := own_rows0 (w0 := w0) (rows := hrows (toldTo b ((truths b)[u]'hu2) (looksP b (h : Int) nn).1 (looksP b (h : Int) nn).1.length)) hownH (hrows_row3 _) (by rw [show (hrows (toldTo b ((truths b)[u]'hu2) (looksP b (h : Int) nn).1 (looksP b (h : Int) nn).1.length)).length = (toldTo b ((truths b)[u]'hu2) (looksP b (h : Int) nn).1 (looksP b (h : Int) nn).1.length).length by simp [hrows], told_len b _ _ _ (Nat.le_refl _)]) rfl
         injection e9 with e91 _ e93
         subst e91 e93
         have hcA : (toldB b ((truths b)[u]'hu2) (looksP b (h : Int) nn).1).cells (⟨aN, cN, p.ac, p.cc, p.pc⟩ : AtB) = [.int .i64 b.holds, .slice aN b.hours.length cN, .slice p.ac b.ctrs.length p.cc] := by simp only [Board.cells]; rw [hT.len]; rfl
         have hmF : BIn w0 (HB ++ (OB ++ (TB ++ (B1 ++ ((b6, blk 65 [.int .u8 gg, .int .u8 nn, .int .u16 tt, .int .u8 (ot : Int)]) :: (b3, blk 25 (b.cells p)) :: F))))) b p := hm.cons.cons.app.app.app.app
         have hmt : BIn w0 (HB ++ (OB ++ (TB ++ (B1 ++ ((b6, blk 65 [.int .u8 gg, .int .u8 nn, .int .u16 tt, .int .u8 (ot : Int)]) :: (b3, blk 25 (b.cells p)) :: F))))) (toldB b ((truths b)[u]'hu2) (looksP b (h : Int) nn).1) (⟨aN, cN, p.ac, p.cc, p.pc⟩ : AtB) := ⟨hs9.top, hmF.c, hmF.z, hmF.s, (by rw [hT.len]; exact hmF.lh), hmF.lc, (by rw [hT.len]; exact hc9), hmF.cc, hmF.lz, hmF.ls, hmF.nm⟩
         have hb15 := ats_castL (ats_ofL (i := 0) (vs := [.int .i64 b.holds, .slice aN b.hours.length cN, .slice p.ac b.ctrs.length p.cc]) hs rfl rfl) hcA
         refine w_region ?_
         refine w_p (y_loadN (vs := [_, _, _]) Try.isAgg25 Try.sizeOf25 hs rfl rfl hb15) rfl ?_
         refine w_p (y_move (v := .int _ _) rfl rfl) rfl ?_
         refine w_call want_none Try.call20 rfl rfl rfl rfl ((c20 (toldB b ((truths b)[u]'hu2) (looksP b (h : Int) nn).1) _ hmt.cons (h : Int) hs).mono (fun v w' h => by rw [hto] at h; dsimp only at h; exact h)) ?_
         rintro _ w148 ⟨rfl, hs149⟩
         refine w_p (y_move (v := .tuple _) rfl rfl) rfl ?_
         refine w_p (y_extract (v := .agg _) rfl rfl rfl) rfl ?_
         refine w_p (y_extract (v := .int _ _) rfl rfl rfl) rfl ?_
         refine w_alloc (cs := [_, _]) want_none Try.zeroValue31 rfl hs149 (fun b150 w151 hs152 => ?_)
         refine w_store (i := 0) (v := .agg #[.int _ _, .int _ _]) (vs := [_, _]) want_none Try.sizeOf31 rfl rfl rfl rfl rfl (by simp [Value.oneCell']) hs152 rfl (Nat.le_of_ble_eq_true rfl) (fun w153 hs154 => ?_)
         refine w_p (y_assign (v := .int _ _) rfl rfl) rfl ?_
         refine w_nil ?_
         refine q_then (hK145 _ _ ?_)
         refine w_seq (fun K156 hK155 => ?_)
         have hx18 := ats_ofL (i := 0) (vs := [_, _]) hs154 rfl rfl
         refine w_region ?_
         refine w_p (y_move (v := .int _ _) rfl rfl) rfl ?_
         refine w_p (y_eql rfl rfl rfl rfl) rfl ?_
         refine w_p (y_move (v := .bool _) rfl rfl) rfl ?_
         refine w_y rfl rfl rfl (y_fieldAddr (o := 1) (i := 1) Try.underlying31 rfl Try.sizeOf3 rfl rfl rfl) rfl ?_
         refine w_y rfl rfl rfl (y_load1 Try.isAgg3 hs154 rfl rfl (show Ats _ _ _ _ [_] from Ats.part hx18 1 1)) rfl ?_
         refine w_y rfl rfl rfl (y_fieldAddr (o := 0) (i := 0) Try.underlying31 rfl Try.sizeOf3 rfl rfl rfl) rfl ?_
         refine w_y rfl rfl rfl (y_load1 Try.isAgg3 hs154 rfl rfl (show Ats _ _ _ _ [_] from Ats.part hx18 0 1)) rfl ?_
         refine w_y rfl rfl rfl (y_sub rfl rfl rfl rfl (by omega) (by omega)) rfl ?_
         refine w_y rfl rfl rfl (y_move (v := .int _ _) rfl rfl) rfl ?_
         refine w_y rfl rfl rfl (y_leq rfl rfl rfl rfl) rfl ?_
         refine w_p (y_pickT (v := .bool _) rfl rfl rfl rfl) rfl ?_
         refine w_p (y_move (v := .bool _) rfl rfl) rfl ?_
         refine w_split (fun h157 => ?_) (fun h157 => ?_)
         ·
          try simp only [zA, zB, zC, zD, zE, zF] at h157
          refine w_call (want_yes rfl rfl rfl) Try.call22 rfl rfl rfl rfl (c22 hs154) ?_
          rintro _ w159 ⟨rfl, hs160⟩
          refine w_p (y_pickT (v := .bool _) rfl rfl rfl rfl) rfl ?_
          refine w_p (y_assign (v := .bool _) rfl rfl) rfl ?_
          refine w_nil ?_
          refine q_then (hK155 _ _ ?_)
          refine w_ret ?_
          refine q_ret (l := [.tmp 4]) (vs := [_]) rfl ⟨⟨rfl, show _ = (.bool _ : Value) from rfl⟩, trivial⟩ ?_
          exact ⟨rfl, hs160.tail.tail.drop.drop.drop.drop.tail.tail⟩
         ·
          exfalso
          try simp only [zA, zB, zC, zD, zE, zF] at h157
          omega
      ·
       try simp only [zA, zB, zC, zD, zE, zF] at h83
       refine w_skipop rfl rfl rfl ?_
       refine w_skipop rfl rfl rfl ?_
       refine w_skipop rfl rfl rfl ?_
       refine w_skipop rfl rfl rfl ?_
       refine w_skipop rfl rfl rfl ?_
       refine w_skipop rfl rfl rfl ?_
       refine w_y rfl rfl rfl (y_pickF (v := _) rfl rfl rfl rfl) rfl ?_
       refine w_p (y_pickF (v := .bool _) rfl rfl rfl rfl) rfl ?_
       refine w_nil ?_
       refine q_then (hK74 _ _ ?_)
       refine w_condF rfl rfl ?_
       refine w_skip ?_
       refine q_then (hK72 _ _ ?_)
       refine w_seq (fun K162 hK161 => ?_)
       have hzm := Int.emod_nonneg tt (show ((truths b).length : Int) ≠ 0 by omega)
       have hzl := Int.emod_lt_of_pos tt (show 0 < ((truths b).length : Int) by omega)
       obtain ⟨u, hu⟩ : ∃ u : Nat, tt % ((truths b).length : Int) = (u : Int) := ⟨(tt % ((truths b).length : Int)).toNat, by omega⟩
       have hu2 : u < (truths b).length := by omega
       obtain ⟨bx, ox, e2, q2, ha, hx0, hsx0, _⟩ := el_at hslT helT hu2
       subst ha
       have hx := hx0.top (F := (B1 ++ ((b6, blk 65 [.int .u8 gg, .int .u8 nn, .int .u16 tt, .int .u8 (ot : Int)]) :: (b3, blk 25 (b.cells p)) :: F)))
       have htl := (hall _ (List.getElem_mem hu2)).1
       obtain ⟨fx, fy, hto, hfd, hfb⟩ := told_hold hso (hold := h) (by omega) hF (List.getElem_mem hu2)
       rw [← hw1] at hto
       have hT := told_law hck (List.getElem_mem hu2) hLin
       refine w_region ?_
       refine w_p (y_move (v := .slice _ _ _) rfl rfl) rfl ?_
       refine w_p (y_fieldAddr (o := 2) (i := 2) Try.underlying65 rfl Try.sizeOf63 rfl rfl rfl) rfl ?_
       refine w_p (y_load1 Try.isAgg63 hs82.drop.drop.drop rfl rfl (show Ats _ _ _ _ [_] from Ats.part hb3 2 1)) rfl ?_
       refine w_p (y_u16int (by rw [Try.underlying63]; rfl) Try.underlying3 rfl rfl (by omega) (by omega)) rfl ?_
       refine w_p (y_move (v := .slice _ _ _) rfl rfl) rfl ?_
       refine w_p (y_lenS Try.underlying66 rfl rfl) rfl ?_
       refine w_p (y_rem rfl rfl rfl rfl (by omega) (by omega)) rfl ?_
       refine w_p (y_indexS Try.underlying66 Try.sizeOf39 rfl rfl rfl rfl (i := u) (by omega) hu2) rfl ?_
       refine w_p (y_load1 Try.isAgg39 hs82.drop rfl rfl hx) rfl ?_
       refine w_p (y_assign (v := .slice _ _ _) rfl rfl) rfl ?_
       refine w_nil ?_
       refine q_then (hK161 _ _ ?_)
       refine w_seq (fun K164 hK163 => ?_)
       refine w_region ?_
       refine w_p (y_loadN (vs := [_, _, _]) Try.isAgg25 Try.sizeOf25 hs82.drop.drop.drop rfl rfl hbx) rfl ?_
       refine w_alloc (cs := [_, _, _]) want_none Try.zeroValue25 rfl hs82 (fun b165 w166 hs167 => ?_)
       refine w_store (i := 0) (v := .agg #[.int _ _, .slice _ _ _, .slice _ _ _]) (vs := [_, _, _]) want_none Try.sizeOf25 rfl rfl rfl rfl rfl (by simp [Value.oneCell']) hs167 rfl (Nat.le_of_ble_eq_true rfl) (fun w168 hs169 => ?_)
       refine w_nil ?_
       refine q_then (hK163 _ _ ?_)
       refine w_seq (fun K171 hK170 => ?_)
       refine w_region ?_
       refine w_bslice (ps := []) (pv := []) (cs := []) want_none rfl rfl (fun w => Try_Zi_fb9  w) hs169 (fun b172 w173 hs174 => ?_)
       refine w_p (y_fieldAddr (o := 1) (i := 1) Try.underlying25 rfl Try.sizeOf22 rfl rfl rfl) rfl ?_
       refine w_p (y_load1 Try.isAgg22 hs174.tail.tail.drop.drop.drop rfl rfl (show Ats _ _ _ _ [_] from Ats.part hbx 1 1)) rfl ?_
       refine w_append (X := ([])) (B := [_]) (rows := (hrows b.hours)) (sz := 3) (bytes := 24) want_none Try.underlying22 Try_info70 rfl rfl rfl rfl rfl rfl rfl rfl rfl hs174 own_made hm.h.cons.cons.app.app.app.cons.cons (by simp [hrows]) hnh (hrows_one _) (by simp only [maxLen]; omega) (by omega) (fun v175 w176 B177 ho178 hs179 => ?_)
       replace hs179 := (show St _ _ (B177 ++ (_ :: OB ++ (TB ++ (B1 ++ (_ :: _ :: F))))) from hs179)
       have hs180 := St.perm (L := B177 ++ ([_] ++ _)) hs179 (perm_mid B177 [_] _)
       replace hs180 := (show St _ _ (_ :: (B177 ++ _)) from hs180)
       have hownH : Rt.Own v175 70 3 b.hours.length (hrows b.hours).flatten B177 := by
         have h9 := ho178
         rw [Nat.zero_add, List.nil_append] at h9
         exact h9
       obtain ⟨aN, cN, rfl⟩ := hownH.slice
       refine w_p (y_fieldAddr (o := 1) (i := 1) Try.underlying25 rfl Try.sizeOf22 rfl rfl rfl) rfl ?_
       refine w_store (i := 0) (v := .slice _ _ _) (vs := [_]) want_none Try.sizeOf22 rfl rfl rfl rfl rfl (by simp [Value.oneCell']) hs180 rfl (Nat.le_of_ble_eq_true rfl) (fun w181 hs182 => ?_)
       refine w_nil ?_
       refine q_then (hK170 _ _ ?_)
       refine w_seq (fun K184 hK183 => ?_)
       refine w_seq (fun K186 hK185 => ?_)
       refine w_region ?_
       refine w_p (y_assign (v := _) rfl rfl) rfl ?_
       refine w_nil ?_
       refine q_then (hK185 _ _ ?_)
       refine w_block ?_
       refine w_loop [16, 17, 105, 106, 107, 108, 109, 110, 111, 112, 113, 114, 115, 116, 117, 118, 119, 120, 121, 122, 123, 124, 125, 126, 127, 128, 129, 130, 131, 132, 133, 134, 135, 136, 137, 138, 139, 140, 141, 142] [16] (fun k vs0 w => ∃ (i : Nat) (HB : List (Nat × Obj)), vs0 = [.int .i64 i] ∧ i ≤ (looksP b (h : Int) nn).1.length ∧ k = (looksP b (h : Int) nn).1.length - i ∧ Rt.Own (.slice aN b.hours.length cN) 70 3 b.hours.length (hrows (toldTo b ((truths b)[u]'hu2) (looksP b (h : Int) nn).1 i)).flatten HB ∧ St w0 w ((b165, blk 25 [.int .i64 b.holds, .slice aN b.hours.length cN, .slice p.ac b.ctrs.length p.cc]) :: (HB ++ (OB ++ (TB ++ (B1 ++ ((b6, blk 65 [.int .u8 gg, .int .u8 nn, .int .u16 tt, .int .u8 (ot : Int)]) :: (b3, blk 25 (b.cells p)) :: F))))))) ((looksP b (h : Int) nn).1.length) ?_ ?_
       ·
        exact ⟨0, _, rfl, by omega, by omega, by rw [told_zero]; exact hownH, hs182⟩
       ·
        intro k vs μ w189 hI K188 hN187
        clear hs hownH
        obtain ⟨i, HB, rfl, hia, rfl, hownH, hs⟩ := hI
        refine w_seq (fun K191 hK190 => ?_)
        refine w_seq (fun K193 hK192 => ?_)
        refine w_region ?_
        refine w_p (y_move (v := .int _ _) rfl rfl) rfl ?_
        refine w_p (y_move (v := .slice _ _ _) rfl rfl) rfl ?_
        refine w_p (y_lenS Try.underlying39 rfl rfl) rfl ?_
        refine w_p (y_lss rfl rfl rfl rfl) rfl ?_
        refine w_nil ?_
        refine q_then (hK192 _ _ ?_)
        refine w_cond rfl rfl (fun h194 => ?_) (fun h194 => ?_)
        ·
         try simp only [zA, zB, zC, zD, zE, zF] at h194
         refine w_skip ?_
         refine q_then (hK190 _ _ ?_)
         refine w_seq (fun K196 hK195 => ?_)
         refine w_block ?_
         refine w_seq (fun K198 hK197 => ?_)
         have hi2 : i < (looksP b (h : Int) nn).1.length := by omega
         have hz := hLin _ (List.getElem_mem hi2)
         have hzn : ((looksP b (h : Int) nn).1[i]'hi2).toNat < b.hours.length := by omega
         have htln : (toldTo b ((truths b)[u]'hu2) (looksP b (h : Int) nn).1 i).length = b.hours.length := told_len b _ _ i (by omega)
         obtain ⟨bH, csH, rfl, rfl, hcap, hcapm, hcl, htk⟩ := own_some2 hownH (by omega)
         obtain ⟨bq, oq, hbq, hrow⟩ := sl_hrows (sl_own (w0 := w0) (L := (bH, blk 70 csH) :: (OB ++ (TB ++ (B1 ++ ((b6, blk 65 [.int .u8 gg, .int .u8 nn, .int .u16 tt, .int .u8 (ot : Int)]) :: (b3, blk 25 (b.cells p)) :: F))))) (i := 0) rfl (hrows_row3 (toldTo b ((truths b)[u]'hu2) (looksP b (h : Int) nn).1 i)) (by rw [show (hrows (toldTo b ((truths b)[u]'hu2) (looksP b (h : Int) nn).1 i)).length = b.hours.length by simp [hrows, htln]]; exact htk)) (show ((looksP b (h : Int) nn).1[i]'hi2).toNat < (toldTo b ((truths b)[u]'hu2) (looksP b (h : Int) nn).1 i).length by rw [htln]; exact hzn)
         cases hbq
         obtain ⟨bz, oz, hbz, hz0⟩ := sl_ints hq1 hi2
         subst hbz
         have hzx := hz0.top (F := ((b6, blk 65 [.int .u8 gg, .int .u8 nn, .int .u16 tt, .int .u8 (ot : Int)]) :: (b3, blk 25 (b.cells p)) :: F))
         obtain ⟨by_, oy, hby, hy0⟩ := sl_ints hsx0 (show ((looksP b (h : Int) nn).1[i]'hi2).toNat < ((truths b)[u]'hu2).length by rw [htl]; exact hzn)
         subst hby
         rw [← ld_at (show ((looksP b (h : Int) nn).1[i]'hi2).toNat < ((truths b)[u]'hu2).length by rw [htl]; exact hzn)] at hy0
         have hyx := hy0.top (F := (B1 ++ ((b6, blk 65 [.int .u8 gg, .int .u8 nn, .int .u16 tt, .int .u8 (ot : Int)]) :: (b3, blk 25 (b.cells p)) :: F)))
         replace hs := (show St _ _ (_ :: _ :: OB ++ (TB ++ (B1 ++ (_ :: _ :: F)))) from hs)
         refine w_draw [9] [(0, 0), (1, 1), (2, 0), (3, 0), (4, 0), (5, 1), (6, 0), (7, 1), (8, 2), (9, 3)] Try_mo (drawOK_of (by kernel_rfl)) hs (fun w199 hs200 => ?_)
         refine d_any rfl want_none rfl (fun _ => (y_fieldAddr (o := 1) (i := 1) Try.underlying25 rfl Try.sizeOf22 rfl rfl rfl)) ?_
         refine d_take rfl want_none rfl hs200 (fun _ hq => (y_load1 Try.isAgg22 hq rfl rfl (ats_own (i := 0) (vs := [_]) rfl rfl))) ?_
         refine d_any rfl want_none rfl (fun _ => (y_move (v := .slice _ _ _) rfl rfl)) ?_
         refine d_any rfl want_none rfl (fun _ => (y_move (v := .int _ _) rfl rfl)) ?_
         refine d_any rfl want_none rfl (fun _ => (y_indexS Try.underlying39 Try.sizeOf3 rfl rfl rfl rfl (i := i) rfl hi2)) ?_
         refine d_take rfl want_none rfl hs200 (fun _ hq => (y_load1 Try.isAgg3 hq.tail.tail.drop.drop rfl rfl hzx)) ?_
         refine d_any rfl want_none rfl (fun _ => (y_indexS Try.underlying22 Try.sizeOf70 rfl rfl rfl rfl (i := ((looksP b (h : Int) nn).1[i]'hi2).toNat) (by omega) hzn)) ?_
         refine d_take rfl want_none rfl hs200 (fun _ hq => (y_loadN (vs := [_, _, _]) Try.isAgg70 Try.sizeOf70 hq.tail rfl rfl hrow)) ?_
         refine d_eff rfl ?_
         refine w_alloc (cs := [_, _, _]) want_none Try.zeroValue70 rfl hs200 (fun b201 w202 hs203 => ?_)
         refine w_nil ?_
         refine qn ⟨hs203.tail, ?_⟩
         refine d_late rfl ?_
         refine w_store (i := 0) (v := .agg #[.int _ _, .int _ _, .int _ _]) (vs := [_, _, _]) want_none Try.sizeOf70 rfl rfl rfl rfl rfl (by simp [Value.oneCell']) hs203 rfl (Nat.le_of_ble_eq_true rfl) (fun w204 hs205 => ?_)
         refine w_nil ?_
         refine qn ?_
         refine d_nil ?_
         refine q_then (hK197 _ _ ?_)
         refine w_seq (fun K207 hK206 => ?_)
         refine w_draw [16] [(0, 0), (1, 0), (2, 0), (3, 0), (4, 1), (5, 0), (6, 1), (7, 0), (8, 0), (9, 0), (10, 0), (11, 1), (12, 0), (13, 1), (14, 2), (15, 0), (16, 3)] Try_mo (drawOK_of (by kernel_rfl)) hs205 (fun w208 hs209 => ?_)
         refine d_any rfl want_none rfl (fun _ => (y_move (v := .slice _ _ _) rfl rfl)) ?_
         refine d_any rfl want_none rfl (fun _ => (y_move (v := .slice _ _ _) rfl rfl)) ?_
         refine d_any rfl want_none rfl (fun _ => (y_move (v := .int _ _) rfl rfl)) ?_
         refine d_any rfl want_none rfl (fun _ => (y_indexS Try.underlying39 Try.sizeOf3 rfl rfl rfl rfl (i := i) rfl hi2)) ?_
         refine d_take rfl want_none rfl hs209 (fun _ hq => (y_load1 Try.isAgg3 hq.tail.tail.tail.drop.drop rfl rfl hzx)) ?_
         refine d_any rfl want_none rfl (fun _ => (y_indexS Try.underlying39 Try.sizeOf3 rfl rfl rfl rfl (i := ((looksP b (h : Int) nn).1[i]'hi2).toNat) (by omega) (by omega))) ?_
         refine d_take rfl want_none rfl hs209 (fun _ hq => (y_load1 Try.isAgg3 hq.tail.tail.tail.drop rfl rfl hyx)) ?_
         refine d_any rfl want_none rfl (fun _ => (y_move (v := .slice _ _ _) rfl rfl)) ?_
         refine d_any rfl want_none rfl (fun _ => (y_move (v := .slice _ _ _) rfl rfl)) ?_
         refine d_any rfl want_none rfl (fun _ => (y_move (v := .int _ _) rfl rfl)) ?_
         refine d_any rfl want_none rfl (fun _ => (y_indexS Try.underlying39 Try.sizeOf3 rfl rfl rfl rfl (i := i) rfl hi2)) ?_
         refine d_take rfl want_none rfl hs209 (fun _ hq => (y_load1 Try.isAgg3 hq.tail.tail.tail.drop.drop rfl rfl hzx)) ?_
         refine d_any rfl want_none rfl (fun _ => (y_indexS Try.underlying39 Try.sizeOf3 rfl rfl rfl rfl (i := ((looksP b (h : Int) nn).1[i]'hi2).toNat) (by omega) (by omega))) ?_
         refine d_take rfl want_none rfl hs209 (fun _ hq => (y_load1 Try.isAgg3 hq.tail.tail.tail.drop rfl rfl hyx)) ?_
         refine d_eff rfl ?_
         refine w_call want_none Try.call33 rfl rfl rfl rfl (c33 _ _ hs209) ?_
         rintro _ w211 ⟨rfl, hs212⟩
         refine w_nil ?_
         refine qn ⟨hs212, ?_⟩
         refine d_any rfl want_none rfl (fun _ => (y_fieldAddr (o := 1) (i := 1) Try.underlying70 rfl Try.sizeOf31 rfl rfl rfl)) ?_
         refine d_late rfl ?_
         refine w_store (i := 0) (v := .agg #[.int _ _, .int _ _]) (vs := [_, _]) want_none Try.sizeOf31 rfl rfl rfl rfl rfl (by simp [Value.oneCell']) hs212 rfl (Nat.le_of_ble_eq_true rfl) (fun w213 hs214 => ?_)
         refine w_nil ?_
         refine qn ?_
         refine d_nil ?_
         refine q_then (hK206 _ _ ?_)
         refine w_draw [8] [(0, 0), (1, 1), (2, 0), (3, 0), (4, 0), (5, 1), (6, 1), (7, 0), (8, 3)] Try_mo (drawOK_of (by kernel_rfl)) hs214 (fun w215 hs216 => ?_)
         refine d_any rfl want_none rfl (fun _ => (y_fieldAddr (o := 1) (i := 1) Try.underlying25 rfl Try.sizeOf22 rfl rfl rfl)) ?_
         refine d_take rfl want_none rfl hs216 (fun _ hq => (y_load1 Try.isAgg22 hq rfl rfl (ats_own (i := 1) (vs := [_]) rfl rfl))) ?_
         refine d_any rfl want_none rfl (fun _ => (y_move (v := .slice _ _ _) rfl rfl)) ?_
         refine d_any rfl want_none rfl (fun _ => (y_move (v := .int _ _) rfl rfl)) ?_
         refine d_any rfl want_none rfl (fun _ => (y_indexS Try.underlying39 Try.sizeOf3 rfl rfl rfl rfl (i := i) rfl hi2)) ?_
         refine d_take rfl want_none rfl hs216 (fun _ hq => (y_load1 Try.isAgg3 hq.tail.tail.tail.drop.drop rfl rfl hzx)) ?_
         refine d_take rfl want_none rfl hs216 (fun _ hq => (y_loadN (vs := [_, _, _]) Try.isAgg70 Try.sizeOf70 hq rfl rfl (ats_own (i := 0) (vs := [_, _, _]) rfl rfl))) ?_
         refine d_any rfl want_none rfl (fun _ => (y_indexS Try.underlying22 Try.sizeOf70 rfl rfl rfl rfl (i := ((looksP b (h : Int) nn).1[i]'hi2).toNat) (by omega) hzn)) ?_
         refine d_late rfl ?_
         refine w_store (i := 2) (v := .agg #[_, _, _]) (vs := [_, _, _]) want_none Try.sizeOf70 rfl rfl rfl rfl rfl (by simp [Value.oneCell']) hs216 rfl (show 0 + ((looksP b (h : Int) nn).1[i]'hi2).toNat * 3 + 3 ≤ csH.length by omega) (fun w217 hs218 => ?_)
         replace hs218 := (show St _ _ (_ :: _ :: (bH, blk 70 (setMany csH (((looksP b (h : Int) nn).1[i]'hi2).toNat * 3) [.int .i64 ((toldTo b ((truths b)[u]'hu2) (looksP b (h : Int) nn).1 i)[((looksP b (h : Int) nn).1[i]'hi2).toNat]'(by rw [htln]; exact hzn)).hold, .int .i64 (ld ((truths b)[u]'hu2) ((looksP b (h : Int) nn).1[i]'hi2).toNat), .int .i64 (ld ((truths b)[u]'hu2) ((looksP b (h : Int) nn).1[i]'hi2).toNat)])) :: OB ++ (TB ++ (B1 ++ (_ :: _ :: F)))) from (by have h6 := hs218; simp only [Nat.zero_add] at h6; exact h6))
         refine w_nil ?_
         refine qn ?_
         refine d_nil ?_
         refine q_blk_normal ?_
         refine q_then (hK195 _ _ ?_)
         refine w_region ?_
         refine w_p (y_move (v := .int _ _) rfl rfl) rfl ?_
         refine w_p (y_add rfl rfl rfl rfl (by omega) (by omega)) rfl ?_
         refine w_p (y_assign (v := .int _ _) rfl rfl) rfl ?_
         refine w_nil ?_
         refine q_then (hN187 _ _ (Nx.intro ((looksP b (h : Int) nn).1.length - (i + 1)) (by omega) (by repeat (first | exact agree_mix | refine agree_upd rfl ?_ | refine agree_updL rfl ?_ _ | refine agree_mixin rfl ?_)) ?_))
         have hput := own_put (row := Hour.cells) (t := 70) (b := bH) (y := ⟨((toldTo b ((truths b)[u]'hu2) (looksP b (h : Int) nn).1 i)[((looksP b (h : Int) nn).1[i]'hi2).toNat]'(by rw [htln]; exact hzn)).hold, ld ((truths b)[u]'hu2) ((looksP b (h : Int) nn).1[i]'hi2).toNat, ld ((truths b)[u]'hu2) ((looksP b (h : Int) nn).1[i]'hi2).toNat⟩) (fun _ => rfl) (show ((looksP b (h : Int) nn).1[i]'hi2).toNat < (toldTo b ((truths b)[u]'hu2) (looksP b (h : Int) nn).1 i).length by rw [htln]; exact hzn) htln hcap hcapm hcl htk
         exact ⟨i + 1, [(bH, blk 70 _)], rfl, by omega, rfl, by rw [told_step hi2]; unfold setH; rw [show ((toldTo b ((truths b)[u]'hu2) (looksP b (h : Int) nn).1 i).getD ((looksP b (h : Int) nn).1[i]'hi2).toNat ⟨0, 0, 0⟩) = (toldTo b ((truths b)[u]'hu2) (looksP b (h : Int) nn).1 i)[((looksP b (h : Int) nn).1[i]'hi2).toNat]'(by rw [htln]; exact hzn) by rw [List.getD, List.getElem?_eq_getElem (by rw [htln]; exact hzn)]; rfl]; exact hput, hs218.tail⟩
        ·
         try simp only [zA, zB, zC, zD, zE, zF] at h194
         refine w_exit ?_
         refine q_then_exit ?_
         refine q_then_exit ?_
         refine q_blk_this ?_
         refine q_then (hK183 _ _ ?_)
         refine w_seq (fun K220 hK219 => ?_)
         have hin : i = (looksP b (h : Int) nn).1.length := by omega
         subst hin
         obtain ⟨a9, c9, e9, hs9, hc9, _⟩ := own_rows0 (w0 := w0) (rows := hrows (toldTo b ((truths b)[u]'hu2) (looksP b (h : Int) nn).1 (looksP b (h : Int) nn).1.length)) hownH (hrows_row3 _) (by rw [show (hrows (toldTo b ((truths b)[u]'hu2) (looksP b (h : Int) nn).1 (looksP b (h : Int) nn).1.length)).length = (toldTo b ((truths b)[u]'hu2) (looksP b (h : Int) nn).1 (looksP b (h : Int) nn).1.length).length by simp [hrows], told_len b _ _ _ (Nat.le_refl _)]) rfl
         injection e9 with e91 _ e93
         subst e91 e93
         have hcA : (toldB b ((truths b)[u]'hu2) (looksP b (h : Int) nn).1).cells (⟨aN, cN, p.ac, p.cc, p.pc⟩ : AtB) = [.int .i64 b.holds, .slice aN b.hours.length cN, .slice p.ac b.ctrs.length p.cc] := by simp only [Board.cells]; rw [hT.len]; rfl
         have hmF : BIn w0 (HB ++ (OB ++ (TB ++ (B1 ++ ((b6, blk 65 [.int .u8 gg, .int .u8 nn, .int .u16 tt, .int .u8 (ot : Int)]) :: (b3, blk 25 (b.cells p)) :: F))))) b p := hm.cons.cons.app.app.app.app
         have hmt : BIn w0 (HB ++ (OB ++ (TB ++ (B1 ++ ((b6, blk 65 [.int .u8 gg, .int .u8 nn, .int .u16 tt, .int .u8 (ot : Int)]) :: (b3, blk 25 (b.cells p)) :: F))))) (toldB b ((truths b)[u]'hu2) (looksP b (h : Int) nn).1) (⟨aN, cN, p.ac, p.cc, p.pc⟩ : AtB) := ⟨hs9.top, hmF.c, hmF.z, hmF.s, (by rw [hT.len]; exact hmF.lh), hmF.lc, (by rw [hT.len]; exact hc9), hmF.cc, hmF.lz, hmF.ls, hmF.nm⟩
         have hb15 := ats_castL (ats_ofL (i := 0) (vs := [.int .i64 b.holds, .slice aN b.hours.length cN, .slice p.ac b.ctrs.length p.cc]) hs rfl rfl) hcA
         refine w_region ?_
         refine w_p (y_loadN (vs := [_, _, _]) Try.isAgg25 Try.sizeOf25 hs rfl rfl hb15) rfl ?_
         refine w_p (y_move (v := .int _ _) rfl rfl) rfl ?_
         refine w_call want_none Try.call20 rfl rfl rfl rfl ((c20 (toldB b ((truths b)[u]'hu2) (looksP b (h : Int) nn).1) _ hmt.cons (h : Int) hs).mono (fun v w' h => by rw [hto] at h; dsimp only at h; exact h)) ?_
         rintro _ w222 ⟨rfl, hs223⟩
         refine w_p (y_move (v := .tuple _) rfl rfl) rfl ?_
         refine w_p (y_extract (v := .agg _) rfl rfl rfl) rfl ?_
         refine w_p (y_extract (v := .int _ _) rfl rfl rfl) rfl ?_
         refine w_alloc (cs := [_, _]) want_none Try.zeroValue31 rfl hs223 (fun b224 w225 hs226 => ?_)
         refine w_store (i := 0) (v := .agg #[.int _ _, .int _ _]) (vs := [_, _]) want_none Try.sizeOf31 rfl rfl rfl rfl rfl (by simp [Value.oneCell']) hs226 rfl (Nat.le_of_ble_eq_true rfl) (fun w227 hs228 => ?_)
         refine w_p (y_assign (v := .int _ _) rfl rfl) rfl ?_
         refine w_nil ?_
         refine q_then (hK219 _ _ ?_)
         refine w_seq (fun K230 hK229 => ?_)
         have hx18 := ats_ofL (i := 0) (vs := [_, _]) hs228 rfl rfl
         refine w_region ?_
         refine w_p (y_move (v := .int _ _) rfl rfl) rfl ?_
         refine w_p (y_eql rfl rfl rfl rfl) rfl ?_
         refine w_p (y_move (v := .bool _) rfl rfl) rfl ?_
         refine w_y rfl rfl rfl (y_fieldAddr (o := 1) (i := 1) Try.underlying31 rfl Try.sizeOf3 rfl rfl rfl) rfl ?_
         refine w_y rfl rfl rfl (y_load1 Try.isAgg3 hs228 rfl rfl (show Ats _ _ _ _ [_] from Ats.part hx18 1 1)) rfl ?_
         refine w_y rfl rfl rfl (y_fieldAddr (o := 0) (i := 0) Try.underlying31 rfl Try.sizeOf3 rfl rfl rfl) rfl ?_
         refine w_y rfl rfl rfl (y_load1 Try.isAgg3 hs228 rfl rfl (show Ats _ _ _ _ [_] from Ats.part hx18 0 1)) rfl ?_
         refine w_y rfl rfl rfl (y_sub rfl rfl rfl rfl (by omega) (by omega)) rfl ?_
         refine w_y rfl rfl rfl (y_move (v := .int _ _) rfl rfl) rfl ?_
         refine w_y rfl rfl rfl (y_leq rfl rfl rfl rfl) rfl ?_
         refine w_p (y_pickT (v := .bool _) rfl rfl rfl rfl) rfl ?_
         refine w_p (y_move (v := .bool _) rfl rfl) rfl ?_
         refine w_split (fun h231 => ?_) (fun h231 => ?_)
         ·
          try simp only [zA, zB, zC, zD, zE, zF] at h231
          refine w_call (want_yes rfl rfl rfl) Try.call22 rfl rfl rfl rfl (c22 hs228) ?_
          rintro _ w233 ⟨rfl, hs234⟩
          refine w_p (y_pickT (v := .bool _) rfl rfl rfl rfl) rfl ?_
          refine w_p (y_assign (v := .bool _) rfl rfl) rfl ?_
          refine w_nil ?_
          refine q_then (hK229 _ _ ?_)
          refine w_ret ?_
          refine q_ret (l := [.tmp 4]) (vs := [_]) rfl ⟨⟨rfl, show _ = (.bool _ : Value) from rfl⟩, trivial⟩ ?_
          exact ⟨rfl, hs234.tail.tail.drop.drop.drop.drop.tail.tail⟩
         ·
          exfalso
          try simp only [zA, zB, zC, zD, zE, zF] at h231
          omega

end Go.Proofs
