/- Own texts of this claim, joined. No conditions. -/
import Derived.Test.YtiemgahjdgajmaaHHandOrdera
import Derived.Test.YtiemgahjdgajmaaHHandOrderb
import Derived.Test.YtiemgahjdgajmaaHHandOrderc
/- Walks of this seat, printed by gen.py over the engine: what each function returns, in whatever world. No conditions but those of each contract. -/
set_option linter.unusedVariables false
set_option linter.unusedSimpArgs false
set_option maxRecDepth 20000
namespace Go.Proofs
open Go.Rt Go.Rt.Ha
attribute [local irreducible] WL WC Con Yd At Ats Sl Agree DW
theorem Try_flat121 : flatInts Try.prog 121 6 = true := by kernel_rfl
def NextC (l : Lot) (but lb bp bh bla bs bY bn : Nat) (Ls : List (List Int)) (J : Nat → List (Nat × Obj) → Prop) (Js : List (Nat × Obj) → Prop) (yv : Value) (w0 : World) (F : List (Nat × Obj)) (rem : Nat) : Prop :=
  ∀ (d : Nat) (pre cur last : List Int) (i : Nat) (R : List (List Int)) (B X : List (Nat × Obj)) (w : World), d + rem = l.bunches.length → pre.length = d → cur.length = 6 → (∀ z ∈ cur, 0 ≤ z ∧ z ≤ 12) → cur.take d = pre → (∀ j, l.bunches.length ≤ j → cur.getD j 0 = 0) → i ≤ Ls.length →
    Ls.drop i = segW l but d pre ++ R → last.length = 6 → (0 < l.bunches.length → last ∉ Ls.drop i) → J i B → St w0 w ((bn, blk 129 [.func (.func 108) #[] #[.pointer (some ⟨bp, 0, none⟩), .pointer (some ⟨bh, 0, none⟩), .pointer (some ⟨bla, 0, none⟩), .pointer (some ⟨bs, 0, none⟩), .pointer (some ⟨bY, 0, none⟩), .pointer (some ⟨bn, 0, none⟩)]]) :: (bla, blk 121 (iv last)) :: (bh, blk 121 (iv cur)) :: (bs, blk 142 [.func (.func 107) #[.pointer (some ⟨lb, 0, none⟩)] #[]]) :: (bY, blk 142 [yv]) :: (X ++ (B ++ F))) →
    Con Try.prog 108 [.int .i64 (d : Int), .pointer (some ⟨bp, 0, none⟩), .pointer (some ⟨bh, 0, none⟩), .pointer (some ⟨bla, 0, none⟩), .pointer (some ⟨bs, 0, none⟩), .pointer (some ⟨bY, 0, none⟩), .pointer (some ⟨bn, 0, none⟩)] w fun v w' => ∃ (cur' last' : List Int) (B' : List (Nat × Obj)), cur'.length = 6 ∧ (∀ z ∈ cur', 0 ≤ z ∧ z ≤ 12) ∧ last'.length = 6 ∧ cur'.take d = pre ∧ (∀ j, l.bunches.length ≤ j → cur'.getD j 0 = 0) ∧ St w0 w' ((bn, blk 129 [.func (.func 108) #[] #[.pointer (some ⟨bp, 0, none⟩), .pointer (some ⟨bh, 0, none⟩), .pointer (some ⟨bla, 0, none⟩), .pointer (some ⟨bs, 0, none⟩), .pointer (some ⟨bY, 0, none⟩), .pointer (some ⟨bn, 0, none⟩)]]) :: (bla, blk 121 (iv last')) :: (bh, blk 121 (iv cur')) :: (bs, blk 142 [.func (.func 107) #[.pointer (some ⟨lb, 0, none⟩)] #[]]) :: (bY, blk 142 [yv]) :: (X ++ (B' ++ F))) ∧
      ((v = .bool true ∧ ∃ i', i' ≤ Ls.length ∧ Ls.drop i' = R ∧ (0 < l.bunches.length → last' ∉ R) ∧ J i' B') ∨ (v = .bool false ∧ Js B'))
theorem leaf_none {Ls R : List (List Int)} {cur : List Int} {i : Nat} {b : Bool} (hpos : Ls.drop i = (if b = true then [cur] else []) ++ R) (h : b = false) : Ls.drop i = R := by rw [hpos, h]; rfl
theorem leaf_some {Ls R : List (List Int)} {cur : List Int} {i : Nat} {b : Bool} (hpos : Ls.drop i = (if b = true then [cur] else []) ++ R) (h : b = true) : Ls.drop i = cur :: R := by rw [hpos, h]; rfl
theorem leaf_last {Ls R : List (List Int)} {cur last : List Int} {i : Nat} {b : Bool} (hpos : Ls.drop i = (if b = true then [cur] else []) ++ R) (hl : last ∉ Ls.drop i) (h : cur = last) : b = false := by
  cases hb : b with
  | false => rfl
  | true => exact absurd (by rw [leaf_some hpos hb, h]; exact .head _) hl
theorem fr6 {w0 w : World} {R : List (Nat × Obj)} {a b c e f g : Nat × Obj} (hs : St w0 w (a :: b :: c :: e :: f :: g :: R)) : St w0 w (b :: c :: e :: f :: g :: a :: R) := hs.perm (perm_mid [a] [b, c, e, f, g] R)
theorem bk6 {w0 w : World} {R : List (Nat × Obj)} {a b c e f g : Nat × Obj} (hs : St w0 w (b :: c :: e :: f :: g :: a :: R)) : St w0 w (a :: b :: c :: e :: f :: g :: R) := hs.perm (perm_mid [b, c, e, f, g] [a] R)
theorem set_12 {cur : List Int} {d : Nat} {x : Int} (h : ∀ z ∈ cur, 0 ≤ z ∧ z ≤ 12) (h0 : 0 ≤ x) (h1 : x ≤ 12) : ∀ z ∈ cur.set d x, 0 ≤ z ∧ z ≤ 12 := by
  intro z hz
  rcases List.mem_or_eq_of_mem_set hz with hz | rfl
  · exact h z hz
  · exact ⟨h0, h1⟩
theorem rest_next {l : Lot} {but d : Nat} {pre : List Int} {lo : Int} {q n : Nat} (h : q < n) : restW l but d pre (upto (lo + q) (n - q)) = segW l but (d + 1) (pre ++ [lo + q]) ++ restW l but d pre (upto (lo + (q + 1 : Nat)) (n - (q + 1))) := by rw [upto_step h, rest_cons]
theorem rest_done {l : Lot} {but d : Nat} {pre : List Int} {lo : Int} {q n : Nat} (h : n ≤ q) : restW l but d pre (upto (lo + q) (n - q)) = [] := by rw [show n - q = 0 by omega]; rfl
theorem c108 {w0 : World} {F : List (Nat × Obj)} (l : Lot) (p : At3) (but lb mm : Nat) (hk : LK w0 F l p but lb mm)  (bp bh bla bs bY bn : Nat) (h1 : Ats w0 F bp 0 [.pointer (some ⟨lb, 0, none⟩)]) (Ls : List (List Int)) (hnd : Ls.Nodup) (J : Nat → List (Nat × Obj) → Prop) (Js : List (Nat × Obj) → Prop) (yv : Value) (hy : ∀ (i : Nat) (x : List Int) (R : List (List Int)) (B X : List (Nat × Obj)) (w : World), Ls.drop i = x :: R → J i B → St w0 w (X ++ (B ++ F)) → FCon Try.prog yv [ia x] w fun v w' => ∃ B', St w0 w' (X ++ (B' ++ F)) ∧ (v = .bool true ∧ J (i + 1) B' ∨ v = .bool false ∧ Js B')) (rem : Nat) (ih : ∀ r, rem = r + 1 → NextC l but lb bp bh bla bs bY bn Ls J Js yv w0 F r) : NextC l but lb bp bh bla bs bY bn Ls J Js yv w0 F rem := by
  intro d pre cur last i R B X w hdr hpl hcl hcr hkt hz hi hpos hll hlast hJ hs
  obtain ⟨ag, cg, ab, cb, ac, cc⟩ := p
  have hb := hk.b
  have hlb := hk.ok.lb
  refine con_of_wc (n := 61) Try.func108 rfl rfl (Nat.le_of_ble_eq_true rfl) ?_
  refine w_seq (fun K2 hK1 => ?_)
  refine w_region ?_
  refine w_pure want_none (y_assign (v := _) rfl rfl) rfl ?_
  refine w_nil ?_
  refine q_then (hK1 _ _ ?_)
  refine w_seq (fun K4 hK3 => ?_)
  refine w_seq (fun K6 hK5 => ?_)
  refine w_region ?_
  refine w_pure want_none (y_move (v := .int _ _) rfl rfl) rfl ?_
  refine w_pure want_none (y_load1 Try.isAgg104 hs.tail.tail.tail.tail.tail.drop.drop rfl rfl h1) rfl ?_
  refine w_pure want_none (y_nilCheck rfl rfl) rfl ?_
  refine w_pure want_none (y_fieldAddr (o := 0) (i := 0) Try.underlying145 rfl Try.sizeOf26 rfl rfl rfl) rfl ?_
  refine w_pure want_none (y_fieldAddr (o := 1) (i := 1) Try.underlying26 rfl Try.sizeOf23 rfl rfl rfl) rfl ?_
  refine w_pure want_none (y_load1 Try.isAgg23 hs.tail.tail.tail.tail.tail.drop.drop rfl rfl (show Ats _ _ _ _ [_] from Ats.part hb 1 1)) rfl ?_
  refine w_pure want_none (y_lenS Try.underlying23 rfl rfl) rfl ?_
  refine w_pure want_none (y_eql rfl rfl rfl rfl) rfl ?_
  refine w_nil ?_
  refine q_then (hK5 _ _ ?_)
  refine w_cond rfl rfl (fun h7 => ?_) (fun h7 => ?_)
  ·
   try simp only [Bool.not_eq_true', Bool.not_eq_false', decide_eq_true_eq, decide_eq_false_iff_not, Int.not_lt, Int.not_le] at h7
   refine w_seq (fun K9 hK8 => ?_)
   refine w_seq (fun K11 hK10 => ?_)
   have hr0 : rem = 0 := by omega
   subst hr0
   have hcur := cur_pad hcl hpl hkt (by have hdn : d = l.bunches.length := (by omega); subst hdn; exact hz)
   have hsp : soFrom but pre 0 l.counts = soFrom but cur 0 l.counts := by rw [hcur, so_pad]
   rw [seg_leaf (by omega), hsp, ← hcur] at hpos
   refine w_region ?_
   refine w_pure want_none (y_move (v := .int _ _) rfl rfl) rfl ?_
   refine w_pure want_none (y_gtr rfl rfl rfl rfl) rfl ?_
   refine w_pure want_none (y_move (v := .bool _) rfl rfl) rfl ?_
   refine w_split (fun h12 => ?_) (fun h12 => ?_)
   ·
    try simp only [Bool.not_eq_true', Bool.not_eq_false', decide_eq_true_eq, decide_eq_false_iff_not, Int.not_lt, Int.not_le] at h12
    refine w_pure (want_yes rfl rfl rfl) (y_loadI (i := 2) Try.isAgg121 Try.sizeOf121 (by first | omega | rfl | (simp only [hcl, hll, List.length_map, List.length_set, List.length_append, List.length_take, List.length_drop, List.length_replicate, List.length_cons, List.length_nil] <;> omega)) hs rfl rfl rfl) rfl ?_
    refine w_pure (want_yes rfl rfl rfl) (y_loadI (i := 1) Try.isAgg121 Try.sizeOf121 (by first | omega | rfl | (simp only [hcl, hll, List.length_map, List.length_set, List.length_append, List.length_take, List.length_drop, List.length_replicate, List.length_cons, List.length_nil] <;> omega)) hs rfl rfl rfl) rfl ?_
    refine w_pure (want_yes rfl rfl rfl) (y_eqFlat (l := _) (m := _) Try.eqGuardType121 Try_flat121 (by first | omega | rfl | (simp only [hcl, hll, List.length_map, List.length_set, List.length_append, List.length_take, List.length_drop, List.length_replicate, List.length_cons, List.length_nil] <;> omega)) (by first | omega | rfl | (simp only [hcl, hll, List.length_map, List.length_set, List.length_append, List.length_take, List.length_drop, List.length_replicate, List.length_cons, List.length_nil] <;> omega)) rfl rfl rfl rfl rfl rfl) rfl ?_
    refine w_pure want_none (y_pickT (v := .bool _) rfl rfl rfl rfl) rfl ?_
    refine w_pure want_none (y_move (v := .bool _) rfl rfl) rfl ?_
    refine w_split (fun h13 => ?_) (fun h13 => ?_)
    ·
     try simp only [Bool.not_eq_true', Bool.not_eq_false', decide_eq_true_eq, decide_eq_false_iff_not, Int.not_lt, Int.not_le] at h13
     refine w_skipop rfl rfl rfl ?_
     refine w_skipop rfl rfl rfl ?_
     refine w_skipop rfl rfl rfl ?_
     refine w_skipop rfl rfl rfl ?_
     refine w_pure want_none (y_pickT (v := _) rfl rfl rfl rfl) rfl ?_
     refine w_nil ?_
     refine q_then (hK10 _ _ ?_)
     refine w_condT rfl rfl ?_
     refine w_seq (fun K15 hK14 => ?_)
     refine w_region ?_
     refine w_pure want_none (y_assign (v := _) rfl rfl) rfl ?_
     refine w_nil ?_
     refine q_then (hK14 _ _ ?_)
     refine w_ret ?_
     refine q_then_ret ?_
     refine q_then_ret ?_
     refine q_ret (l := [.tmp 8]) (vs := [_]) rfl ⟨⟨rfl, show _ = (.bool _ : Value) from rfl⟩, trivial⟩ ?_
     first
       | exact ⟨cur, last, B, hcl, hcr, hll, hkt, hz, hs, .inl ⟨rfl, i, hi, leaf_none hpos (leaf_last hpos (hlast (by omega)) (by assumption)), (by rw [← leaf_none hpos (leaf_last hpos (hlast (by omega)) (by assumption))]; exact hlast), hJ⟩⟩
       | exact ⟨cur, last, B, hcl, hcr, hll, hkt, hz, hs, .inl ⟨rfl, i, hi, leaf_none hpos (by assumption), (by rw [← leaf_none hpos (by assumption)]; exact hlast), hJ⟩⟩
       | exact ⟨cur, cur, B1, hcl, hcr, hcl, hkt, hz, hs, .inl ⟨rfl, i + 1, drop_lt hpos2, drop_next hpos2, (fun _ => drop_notin hnd hpos2), hJ1⟩⟩
       | exact ⟨cur, cur, B1, hcl, hcr, hcl, hkt, hz, hs, .inr ⟨rfl, hJ1⟩⟩
       | exact ⟨cur2, last2, B2, hc2, hr2, hl2, take_less hk2 hpl, hz2, hs, .inr ⟨rfl, hJ2⟩⟩
       | (rw [rest_done (by omega), List.nil_append] at hpos
          exact ⟨cur, last, B, hcl, hcr, hll, hkt, hz, hs, .inl ⟨rfl, i, hi, hpos, (by rw [← hpos]; exact hlast), hJ⟩⟩)
    ·
     try simp only [Bool.not_eq_true', Bool.not_eq_false', decide_eq_true_eq, decide_eq_false_iff_not, Int.not_lt, Int.not_le] at h13
     refine w_pure (want_yes rfl rfl rfl) (y_load1 Try.isAgg142 hs rfl rfl (ats_own (i := 3) (vs := [_]) rfl rfl)) rfl ?_
     refine w_pure (want_yes rfl rfl rfl) (y_loadI (i := 2) Try.isAgg121 Try.sizeOf121 (by first | omega | rfl | (simp only [hcl, hll, List.length_map, List.length_set, List.length_append, List.length_take, List.length_drop, List.length_replicate, List.length_cons, List.length_nil] <;> omega)) hs rfl rfl rfl) rfl ?_
     refine w_call (want_yes rfl rfl rfl) Try.call107 rfl rfl rfl rfl (c107 l _ but lb mm hk.app.app.cons.cons.cons.cons.cons cur hcl hcr hs) ?_
     rintro _ w17 ⟨rfl, hs18⟩
     refine w_pure (want_yes rfl rfl rfl) (y_not rfl rfl) rfl ?_
     refine w_pure want_none (y_pickF (v := .bool _) rfl rfl rfl rfl) rfl ?_
     refine w_nil ?_
     refine q_then (hK10 _ _ ?_)
     refine w_cond rfl rfl (fun h19 => ?_) (fun h19 => ?_)
     ·
      try simp only [Bool.not_eq_true', Bool.not_eq_false', decide_eq_true_eq, decide_eq_false_iff_not, Int.not_lt, Int.not_le] at h19
      refine w_seq (fun K21 hK20 => ?_)
      refine w_region ?_
      refine w_pure want_none (y_assign (v := _) rfl rfl) rfl ?_
      refine w_nil ?_
      refine q_then (hK20 _ _ ?_)
      refine w_ret ?_
      refine q_then_ret ?_
      refine q_then_ret ?_
      refine q_ret (l := [.tmp 8]) (vs := [_]) rfl ⟨⟨rfl, show _ = (.bool _ : Value) from rfl⟩, trivial⟩ ?_
      first
        | exact ⟨cur, last, B, hcl, hcr, hll, hkt, hz, hs18, .inl ⟨rfl, i, hi, leaf_none hpos (leaf_last hpos (hlast (by omega)) (by assumption)), (by rw [← leaf_none hpos (leaf_last hpos (hlast (by omega)) (by assumption))]; exact hlast), hJ⟩⟩
        | exact ⟨cur, last, B, hcl, hcr, hll, hkt, hz, hs18, .inl ⟨rfl, i, hi, leaf_none hpos (by assumption), (by rw [← leaf_none hpos (by assumption)]; exact hlast), hJ⟩⟩
        | exact ⟨cur, cur, B1, hcl, hcr, hcl, hkt, hz, hs18, .inl ⟨rfl, i + 1, drop_lt hpos2, drop_next hpos2, (fun _ => drop_notin hnd hpos2), hJ1⟩⟩
        | exact ⟨cur, cur, B1, hcl, hcr, hcl, hkt, hz, hs18, .inr ⟨rfl, hJ1⟩⟩
        | exact ⟨cur2, last2, B2, hc2, hr2, hl2, take_less hk2 hpl, hz2, hs18, .inr ⟨rfl, hJ2⟩⟩
        | (rw [rest_done (by omega), List.nil_append] at hpos
           exact ⟨cur, last, B, hcl, hcr, hll, hkt, hz, hs18, .inl ⟨rfl, i, hi, hpos, (by rw [← hpos]; exact hlast), hJ⟩⟩)
     ·
      try simp only [Bool.not_eq_true', Bool.not_eq_false', decide_eq_true_eq, decide_eq_false_iff_not, Int.not_lt, Int.not_le] at h19
      refine w_skip ?_
      refine q_then (hK8 _ _ ?_)
      refine w_seq (fun K23 hK22 => ?_)
      have hpos2 := leaf_some hpos (by assumption)
      refine w_region ?_
      refine w_pure want_none (y_loadI (i := 2) Try.isAgg121 Try.sizeOf121 (by first | omega | rfl | (simp only [hcl, hll, List.length_map, List.length_set, List.length_append, List.length_take, List.length_drop, List.length_replicate, List.length_cons, List.length_nil] <;> omega)) hs18 rfl rfl rfl) rfl ?_
      refine w_storeI (i := 1) (l := _) want_none Try.sizeOf121 (by first | omega | rfl | (simp only [hcl, hll, List.length_map, List.length_set, List.length_append, List.length_take, List.length_drop, List.length_replicate, List.length_cons, List.length_nil] <;> omega)) rfl rfl rfl rfl rfl hs18 rfl (by first | omega | rfl | (simp only [hcl, hll, List.length_map, List.length_set, List.length_append, List.length_take, List.length_drop, List.length_replicate, List.length_cons, List.length_nil] <;> omega)) (fun w24 hs25 => ?_)
      refine w_nil ?_
      refine q_then (hK22 _ _ ?_)
      refine w_seq (fun K27 hK26 => ?_)
      refine w_region ?_
      refine w_pure want_none (y_load1 Try.isAgg142 hs25 rfl rfl (ats_own (i := 4) (vs := [_]) rfl rfl)) rfl ?_
      refine w_pure want_none (y_loadI (i := 2) Try.isAgg121 Try.sizeOf121 (by first | omega | rfl | (simp only [hcl, hll, List.length_map, List.length_set, List.length_append, List.length_take, List.length_drop, List.length_replicate, List.length_cons, List.length_nil] <;> omega)) hs25 rfl rfl rfl) rfl ?_
      refine w_callV want_none rfl rfl rfl rfl (hy i _ R B (_ :: _ :: _ :: _ :: _ :: X) _ hpos2 hJ hs25) ?_
      rintro _ w29 ⟨B1, hs30, (⟨rfl, hJ1⟩ | ⟨rfl, hJ1⟩)⟩
      ·
       replace hs30 := (show St _ _ (_ :: _ :: _ :: _ :: _ :: X ++ (B1 ++ (F))) from hs30)
       refine w_pure want_none (y_assign (v := .bool _) rfl rfl) rfl ?_
       refine w_nil ?_
       refine q_then (hK26 _ _ ?_)
       refine w_ret ?_
       refine q_then_ret ?_
       refine q_ret (l := [.tmp 8]) (vs := [_]) rfl ⟨⟨rfl, show _ = (.bool _ : Value) from rfl⟩, trivial⟩ ?_
       first
         | exact ⟨cur, last, B, hcl, hcr, hll, hkt, hz, hs30, .inl ⟨rfl, i, hi, leaf_none hpos (leaf_last hpos (hlast (by omega)) (by assumption)), (by rw [← leaf_none hpos (leaf_last hpos (hlast (by omega)) (by assumption))]; exact hlast), hJ⟩⟩
         | exact ⟨cur, last, B, hcl, hcr, hll, hkt, hz, hs30, .inl ⟨rfl, i, hi, leaf_none hpos (by assumption), (by rw [← leaf_none hpos (by assumption)]; exact hlast), hJ⟩⟩
         | exact ⟨cur, cur, B1, hcl, hcr, hcl, hkt, hz, hs30, .inl ⟨rfl, i + 1, drop_lt hpos2, drop_next hpos2, (fun _ => drop_notin hnd hpos2), hJ1⟩⟩
         | exact ⟨cur, cur, B1, hcl, hcr, hcl, hkt, hz, hs30, .inr ⟨rfl, hJ1⟩⟩
         | exact ⟨cur2, last2, B2, hc2, hr2, hl2, take_less hk2 hpl, hz2, hs30, .inr ⟨rfl, hJ2⟩⟩
         | (rw [rest_done (by omega), List.nil_append] at hpos
            exact ⟨cur, last, B, hcl, hcr, hll, hkt, hz, hs30, .inl ⟨rfl, i, hi, hpos, (by rw [← hpos]; exact hlast), hJ⟩⟩)
      ·
       replace hs30 := (show St _ _ (_ :: _ :: _ :: _ :: _ :: X ++ (B1 ++ (F))) from hs30)
       refine w_pure want_none (y_assign (v := .bool _) rfl rfl) rfl ?_
       refine w_nil ?_
       refine q_then (hK26 _ _ ?_)
       refine w_ret ?_
       refine q_then_ret ?_
       refine q_ret (l := [.tmp 8]) (vs := [_]) rfl ⟨⟨rfl, show _ = (.bool _ : Value) from rfl⟩, trivial⟩ ?_
       first
         | exact ⟨cur, last, B, hcl, hcr, hll, hkt, hz, hs30, .inl ⟨rfl, i, hi, leaf_none hpos (leaf_last hpos (hlast (by omega)) (by assumption)), (by rw [← leaf_none hpos (leaf_last hpos (hlast (by omega)) (by assumption))]; exact hlast), hJ⟩⟩
         | exact ⟨cur, last, B, hcl, hcr, hll, hkt, hz, hs30, .inl ⟨rfl, i, hi, leaf_none hpos (by assumption), (by rw [← leaf_none hpos (by assumption)]; exact hlast), hJ⟩⟩
         | exact ⟨cur, cur, B1, hcl, hcr, hcl, hkt, hz, hs30, .inl ⟨rfl, i + 1, drop_lt hpos2, drop_next hpos2, (fun _ => drop_notin hnd hpos2), hJ1⟩⟩
         | exact ⟨cur, cur, B1, hcl, hcr, hcl, hkt, hz, hs30, .inr ⟨rfl, hJ1⟩⟩
         | exact ⟨cur2, last2, B2, hc2, hr2, hl2, take_less hk2 hpl, hz2, hs30, .inr ⟨rfl, hJ2⟩⟩
         | (rw [rest_done (by omega), List.nil_append] at hpos
            exact ⟨cur, last, B, hcl, hcr, hll, hkt, hz, hs30, .inl ⟨rfl, i, hi, hpos, (by rw [← hpos]; exact hlast), hJ⟩⟩)
   ·
    try simp only [Bool.not_eq_true', Bool.not_eq_false', decide_eq_true_eq, decide_eq_false_iff_not, Int.not_lt, Int.not_le] at h12
    refine w_skipop rfl rfl rfl ?_
    refine w_skipop rfl rfl rfl ?_
    refine w_skipop rfl rfl rfl ?_
    refine w_pure want_none (y_pickF (v := _) rfl rfl rfl rfl) rfl ?_
    refine w_pure want_none (y_move (v := .bool _) rfl rfl) rfl ?_
    refine w_pure (want_yes rfl rfl rfl) (y_load1 Try.isAgg142 hs rfl rfl (ats_own (i := 3) (vs := [_]) rfl rfl)) rfl ?_
    refine w_pure (want_yes rfl rfl rfl) (y_loadI (i := 2) Try.isAgg121 Try.sizeOf121 (by first | omega | rfl | (simp only [hcl, hll, List.length_map, List.length_set, List.length_append, List.length_take, List.length_drop, List.length_replicate, List.length_cons, List.length_nil] <;> omega)) hs rfl rfl rfl) rfl ?_
    refine w_call (want_yes rfl rfl rfl) Try.call107 rfl rfl rfl rfl (c107 l _ but lb mm hk.app.app.cons.cons.cons.cons.cons cur hcl hcr hs) ?_
    rintro _ w32 ⟨rfl, hs33⟩
    refine w_pure (want_yes rfl rfl rfl) (y_not rfl rfl) rfl ?_
    refine w_pure want_none (y_pickF (v := .bool _) rfl rfl rfl rfl) rfl ?_
    refine w_nil ?_
    refine q_then (hK10 _ _ ?_)
    refine w_cond rfl rfl (fun h34 => ?_) (fun h34 => ?_)
    ·
     try simp only [Bool.not_eq_true', Bool.not_eq_false', decide_eq_true_eq, decide_eq_false_iff_not, Int.not_lt, Int.not_le] at h34
     refine w_seq (fun K36 hK35 => ?_)
     refine w_region ?_
     refine w_pure want_none (y_assign (v := _) rfl rfl) rfl ?_
     refine w_nil ?_
     refine q_then (hK35 _ _ ?_)
     refine w_ret ?_
     refine q_then_ret ?_
     refine q_then_ret ?_
     refine q_ret (l := [.tmp 8]) (vs := [_]) rfl ⟨⟨rfl, show _ = (.bool _ : Value) from rfl⟩, trivial⟩ ?_
     first
       | exact ⟨cur, last, B, hcl, hcr, hll, hkt, hz, hs33, .inl ⟨rfl, i, hi, leaf_none hpos (leaf_last hpos (hlast (by omega)) (by assumption)), (by rw [← leaf_none hpos (leaf_last hpos (hlast (by omega)) (by assumption))]; exact hlast), hJ⟩⟩
       | exact ⟨cur, last, B, hcl, hcr, hll, hkt, hz, hs33, .inl ⟨rfl, i, hi, leaf_none hpos (by assumption), (by rw [← leaf_none hpos (by assumption)]; exact hlast), hJ⟩⟩
       | exact ⟨cur, cur, B1, hcl, hcr, hcl, hkt, hz, hs33, .inl ⟨rfl, i + 1, drop_lt hpos2, drop_next hpos2, (fun _ => drop_notin hnd hpos2), hJ1⟩⟩
       | exact ⟨cur, cur, B1, hcl, hcr, hcl, hkt, hz, hs33, .inr ⟨rfl, hJ1⟩⟩
       | exact ⟨cur2, last2, B2, hc2, hr2, hl2, take_less hk2 hpl, hz2, hs33, .inr ⟨rfl, hJ2⟩⟩
       | (rw [rest_done (by omega), List.nil_append] at hpos
          exact ⟨cur, last, B, hcl, hcr, hll, hkt, hz, hs33, .inl ⟨rfl, i, hi, hpos, (by rw [← hpos]; exact hlast), hJ⟩⟩)
    ·
     try simp only [Bool.not_eq_true', Bool.not_eq_false', decide_eq_true_eq, decide_eq_false_iff_not, Int.not_lt, Int.not_le] at h34
     refine w_skip ?_
     refine q_then (hK8 _ _ ?_)
     refine w_seq (fun K38 hK37 => ?_)
     have hpos2 := leaf_some hpos (by assumption)
     refine w_region ?_
     refine w_pure want_none (y_loadI (i := 2) Try.isAgg121 Try.sizeOf121 (by first | omega | rfl | (simp only [hcl, hll, List.length_map, List.length_set, List.length_append, List.length_take, List.length_drop, List.length_replicate, List.length_cons, List.length_nil] <;> omega)) hs33 rfl rfl rfl) rfl ?_
     refine w_storeI (i := 1) (l := _) want_none Try.sizeOf121 (by first | omega | rfl | (simp only [hcl, hll, List.length_map, List.length_set, List.length_append, List.length_take, List.length_drop, List.length_replicate, List.length_cons, List.length_nil] <;> omega)) rfl rfl rfl rfl rfl hs33 rfl (by first | omega | rfl | (simp only [hcl, hll, List.length_map, List.length_set, List.length_append, List.length_take, List.length_drop, List.length_replicate, List.length_cons, List.length_nil] <;> omega)) (fun w39 hs40 => ?_)
     refine w_nil ?_
     refine q_then (hK37 _ _ ?_)
     refine w_seq (fun K42 hK41 => ?_)
     refine w_region ?_
     refine w_pure want_none (y_load1 Try.isAgg142 hs40 rfl rfl (ats_own (i := 4) (vs := [_]) rfl rfl)) rfl ?_
     refine w_pure want_none (y_loadI (i := 2) Try.isAgg121 Try.sizeOf121 (by first | omega | rfl | (simp only [hcl, hll, List.length_map, List.length_set, List.length_append, List.length_take, List.length_drop, List.length_replicate, List.length_cons, List.length_nil] <;> omega)) hs40 rfl rfl rfl) rfl ?_
     refine w_callV want_none rfl rfl rfl rfl (hy i _ R B (_ :: _ :: _ :: _ :: _ :: X) _ hpos2 hJ hs40) ?_
     rintro _ w44 ⟨B1, hs45, (⟨rfl, hJ1⟩ | ⟨rfl, hJ1⟩)⟩
     ·
      replace hs45 := (show St _ _ (_ :: _ :: _ :: _ :: _ :: X ++ (B1 ++ (F))) from hs45)
      refine w_pure want_none (y_assign (v := .bool _) rfl rfl) rfl ?_
      refine w_nil ?_
      refine q_then (hK41 _ _ ?_)
      refine w_ret ?_
      refine q_then_ret ?_
      refine q_ret (l := [.tmp 8]) (vs := [_]) rfl ⟨⟨rfl, show _ = (.bool _ : Value) from rfl⟩, trivial⟩ ?_
      first
        | exact ⟨cur, last, B, hcl, hcr, hll, hkt, hz, hs45, .inl ⟨rfl, i, hi, leaf_none hpos (leaf_last hpos (hlast (by omega)) (by assumption)), (by rw [← leaf_none hpos (leaf_last hpos (hlast (by omega)) (by assumption))]; exact hlast), hJ⟩⟩
        | exact ⟨cur, last, B, hcl, hcr, hll, hkt, hz, hs45, .inl ⟨rfl, i, hi, leaf_none hpos (by assumption), (by rw [← leaf_none hpos (by assumption)]; exact hlast), hJ⟩⟩
        | exact ⟨cur, cur, B1, hcl, hcr, hcl, hkt, hz, hs45, .inl ⟨rfl, i + 1, drop_lt hpos2, drop_next hpos2, (fun _ => drop_notin hnd hpos2), hJ1⟩⟩
        | exact ⟨cur, cur, B1, hcl, hcr, hcl, hkt, hz, hs45, .inr ⟨rfl, hJ1⟩⟩
        | exact ⟨cur2, last2, B2, hc2, hr2, hl2, take_less hk2 hpl, hz2, hs45, .inr ⟨rfl, hJ2⟩⟩
        | (rw [rest_done (by omega), List.nil_append] at hpos
           exact ⟨cur, last, B, hcl, hcr, hll, hkt, hz, hs45, .inl ⟨rfl, i, hi, hpos, (by rw [← hpos]; exact hlast), hJ⟩⟩)
     ·
      replace hs45 := (show St _ _ (_ :: _ :: _ :: _ :: _ :: X ++ (B1 ++ (F))) from hs45)
      refine w_pure want_none (y_assign (v := .bool _) rfl rfl) rfl ?_
      refine w_nil ?_
      refine q_then (hK41 _ _ ?_)
      refine w_ret ?_
      refine q_then_ret ?_
      refine q_ret (l := [.tmp 8]) (vs := [_]) rfl ⟨⟨rfl, show _ = (.bool _ : Value) from rfl⟩, trivial⟩ ?_
      first
        | exact ⟨cur, last, B, hcl, hcr, hll, hkt, hz, hs45, .inl ⟨rfl, i, hi, leaf_none hpos (leaf_last hpos (hlast (by omega)) (by assumption)), (by rw [← leaf_none hpos (leaf_last hpos (hlast (by omega)) (by assumption))]; exact hlast), hJ⟩⟩
        | exact ⟨cur, last, B, hcl, hcr, hll, hkt, hz, hs45, .inl ⟨rfl, i, hi, leaf_none hpos (by assumption), (by rw [← leaf_none hpos (by assumption)]; exact hlast), hJ⟩⟩
        | exact ⟨cur, cur, B1, hcl, hcr, hcl, hkt, hz, hs45, .inl ⟨rfl, i + 1, drop_lt hpos2, drop_next hpos2, (fun _ => drop_notin hnd hpos2), hJ1⟩⟩
        | exact ⟨cur, cur, B1, hcl, hcr, hcl, hkt, hz, hs45, .inr ⟨rfl, hJ1⟩⟩
        | exact ⟨cur2, last2, B2, hc2, hr2, hl2, take_less hk2 hpl, hz2, hs45, .inr ⟨rfl, hJ2⟩⟩
        | (rw [rest_done (by omega), List.nil_append] at hpos
           exact ⟨cur, last, B, hcl, hcr, hll, hkt, hz, hs45, .inl ⟨rfl, i, hi, hpos, (by rw [← hpos]; exact hlast), hJ⟩⟩)
  ·
   try simp only [Bool.not_eq_true', Bool.not_eq_false', decide_eq_true_eq, decide_eq_false_iff_not, Int.not_lt, Int.not_le] at h7
   refine w_skip ?_
   refine q_then (hK3 _ _ ?_)
   refine w_seq (fun K47 hK46 => ?_)
   obtain ⟨r, rfl⟩ : ∃ r, rem = r + 1 := ⟨rem - 1, by omega⟩
   have ih2 := ih r rfl
   have hd2 : d < l.bunches.length := by omega
   rw [seg_node hd2] at hpos
   have hbb := hk.ok.bunch _ (List.getElem_mem hd2)
   obtain ⟨bx, ox, hbx, hx⟩ := sl_brows hk.i.b hd2
   subst hbx
   refine w_region ?_
   refine w_pure want_none (y_load1 Try.isAgg104 hs.tail.tail.tail.tail.tail.drop.drop rfl rfl h1) rfl ?_
   refine w_pure want_none (y_nilCheck rfl rfl) rfl ?_
   refine w_pure want_none (y_fieldAddr (o := 0) (i := 0) Try.underlying145 rfl Try.sizeOf26 rfl rfl rfl) rfl ?_
   refine w_pure want_none (y_fieldAddr (o := 1) (i := 1) Try.underlying26 rfl Try.sizeOf23 rfl rfl rfl) rfl ?_
   refine w_pure want_none (y_load1 Try.isAgg23 hs.tail.tail.tail.tail.tail.drop.drop rfl rfl (show Ats _ _ _ _ [_] from Ats.part hb 1 1)) rfl ?_
   refine w_pure want_none (y_move (v := .int _ _) rfl rfl) rfl ?_
   refine w_pure want_none (y_indexS Try.underlying23 Try.sizeOf81 rfl rfl rfl rfl (i := d) (by omega) (by omega)) rfl ?_
   refine w_pure want_none (y_fieldAddr (o := 0) (i := 0) Try.underlying81 rfl Try.sizeOf34 rfl rfl rfl) rfl ?_
   refine w_pure want_none (y_loadN (vs := [_, _]) Try.isAgg34 Try.sizeOf34 hs.tail.tail.tail.tail.tail.drop.drop rfl rfl (show Ats _ _ _ _ [_, _] from Ats.part hx 0 2)) rfl ?_
   refine w_alloc (cs := [_, _]) want_none Try.zeroValue34 rfl hs (fun b48 w49 hs50 => ?_)
   refine w_store (i := 0) (v := .agg #[.int _ _, .int _ _]) (vs := [_, _]) want_none Try.sizeOf34 rfl rfl rfl rfl rfl (by simp [Value.oneCell']) hs50 rfl (Nat.le_of_ble_eq_true rfl) (fun w51 hs52 => ?_)
   refine w_nil ?_
   refine q_then (hK46 _ _ ?_)
   refine w_seq (fun K54 hK53 => ?_)
   refine w_seq (fun K56 hK55 => ?_)
   refine w_region ?_
   refine w_pure want_none (y_fieldAddr (o := 0) (i := 0) Try.underlying34 rfl Try.sizeOf3 rfl rfl rfl) rfl ?_
   refine w_pure want_none (y_load1 Try.isAgg3 hs52 rfl rfl (ats_own (i := 0) (vs := [_]) rfl rfl)) rfl ?_
   refine w_pure want_none (y_assign (v := .int _ _) rfl rfl) rfl ?_
   refine w_nil ?_
   refine q_then (hK55 _ _ ?_)
   refine w_block ?_
   refine w_loop [8, 10, 47, 48, 49, 50, 51, 52, 53, 54, 55, 56, 57, 58, 59, 60] [10] (fun k vs w => ∃ (q : Nat) (cur last : List Int) (i : Nat) (B : List (Nat × Obj)), vs = [.int .i64 ((l.bunches[d]'hd2).lo + q)] ∧ (q : Int) ≤ (l.bunches[d]'hd2).hi + 1 - (l.bunches[d]'hd2).lo ∧ k = ((l.bunches[d]'hd2).hi + 1 - (l.bunches[d]'hd2).lo).toNat - q ∧ cur.length = 6 ∧ (∀ z ∈ cur, 0 ≤ z ∧ z ≤ 12) ∧ last.length = 6 ∧ cur.take d = pre ∧ (∀ j, l.bunches.length ≤ j → cur.getD j 0 = 0) ∧ i ≤ Ls.length ∧ Ls.drop i = restW l but d pre (upto ((l.bunches[d]'hd2).lo + q) (((l.bunches[d]'hd2).hi + 1 - (l.bunches[d]'hd2).lo).toNat - q)) ++ R ∧ (0 < l.bunches.length → last ∉ Ls.drop i) ∧ J i B ∧ St w0 w ((b48, blk 34 [.int .i64 (l.bunches[d]'hd2).lo, .int .i64 (l.bunches[d]'hd2).hi]) :: (bn, blk 129 [.func (.func 108) #[] #[.pointer (some ⟨bp, 0, none⟩), .pointer (some ⟨bh, 0, none⟩), .pointer (some ⟨bla, 0, none⟩), .pointer (some ⟨bs, 0, none⟩), .pointer (some ⟨bY, 0, none⟩), .pointer (some ⟨bn, 0, none⟩)]]) :: (bla, blk 121 (iv last)) :: (bh, blk 121 (iv cur)) :: (bs, blk 142 [.func (.func 107) #[.pointer (some ⟨lb, 0, none⟩)] #[]]) :: (bY, blk 142 [yv]) :: (X ++ (B ++ F)))) (((l.bunches[d]'hd2).hi + 1 - (l.bunches[d]'hd2).lo).toNat) ?_ ?_
   ·
    exact ⟨0, cur, last, i, B, iv1 (by omega), by omega, by omega, hcl, hcr, hll, hkt, hz, hi, by rw [show (l.bunches[d]'hd2).lo + ((0 : Nat) : Int) = (l.bunches[d]'hd2).lo by omega, Nat.sub_zero]; exact hpos, hlast, hJ, hs52⟩
   ·
    intro k vs μ w59 hI K58 hN57
    clear hkt hz hi hpos hll hlast hJ hs hcl hcr
    obtain ⟨q, cur, last, i, B, rfl, hq, rfl, hcl, hcr, hll, hkt, hz, hi, hpos, hlast, hJ, hs⟩ := hI
    refine w_seq (fun K61 hK60 => ?_)
    refine w_seq (fun K63 hK62 => ?_)
    refine w_region ?_
    refine w_pure want_none (y_move (v := .int _ _) rfl rfl) rfl ?_
    refine w_pure want_none (y_fieldAddr (o := 1) (i := 1) Try.underlying34 rfl Try.sizeOf3 rfl rfl rfl) rfl ?_
    refine w_pure want_none (y_load1 Try.isAgg3 hs rfl rfl (ats_own (i := 0) (vs := [_]) rfl rfl)) rfl ?_
    refine w_pure want_none (y_leq rfl rfl rfl rfl) rfl ?_
    refine w_nil ?_
    refine q_then (hK62 _ _ ?_)
    refine w_cond rfl rfl (fun h64 => ?_) (fun h64 => ?_)
    ·
     try simp only [Bool.not_eq_true', Bool.not_eq_false', decide_eq_true_eq, decide_eq_false_iff_not, Int.not_lt, Int.not_le] at h64
     refine w_skip ?_
     refine q_then (hK60 _ _ ?_)
     refine w_seq (fun K66 hK65 => ?_)
     refine w_block ?_
     refine w_seq (fun K68 hK67 => ?_)
     refine w_region ?_
     refine w_pure want_none (y_move (v := .int _ _) rfl rfl) rfl ?_
     refine w_pure want_none (y_move (v := .int _ _) rfl rfl) rfl ?_
     refine w_pure want_none (y_indexA Try.underlying121 Try.sizeOf3 rfl rfl rfl rfl (i := d) (by first | rfl | omega) (by omega)) rfl ?_
     refine w_storeAtI (i := 3) (j := d) want_none Try.sizeOf3 rfl rfl rfl rfl hs rfl (by first | omega | rfl | (simp only [hcl, hll, List.length_map, List.length_set, List.length_append, List.length_take, List.length_drop, List.length_replicate, List.length_cons, List.length_nil] <;> omega)) (fun w69 hs70 => ?_)
     refine w_nil ?_
     refine q_then (hK67 _ _ ?_)
     refine w_seq (fun K72 hK71 => ?_)
     refine w_region ?_
     refine w_pure want_none (y_load1 Try.isAgg129 hs70 rfl rfl (ats_own (i := 1) (vs := [_]) rfl rfl)) rfl ?_
     refine w_pure want_none (y_move (v := .int _ _) rfl rfl) rfl ?_
     refine w_pure want_none (y_add rfl rfl rfl rfl (by omega) (by omega)) rfl ?_
     refine w_call want_none Try.call108 rfl rfl rfl rfl (ih2 (d + 1) (pre ++ [(l.bunches[d]'hd2).lo + (q : Int)]) _ last i _ B (_ :: X) _ (by omega) (by simp; omega) (by rw [List.length_set]; exact hcl) (set_12 hcr (by omega) (by omega)) (set_take hkt (by omega)) (set_zero (by omega) hz) hi (by rw [rest_next (by omega), List.append_assoc] at hpos; exact hpos) hll hlast hJ (fr6 hs70)) ?_
     rintro _ w74 ⟨cur2, last2, B2, hc2, hr2, hl2, hk2, hz2, hs75, (⟨rfl, i2, hi2, hp2, hn2, hJ2⟩ | ⟨rfl, hJ2⟩)⟩
     ·
      replace hs75 := bk6 (show St _ _ (_ :: _ :: _ :: _ :: _ :: _ :: (X ++ (B2 ++ F))) from hs75)
      refine w_pure want_none (y_not rfl rfl) rfl ?_
      refine w_nil ?_
      refine q_then (hK71 _ _ ?_)
      refine w_condF rfl rfl ?_
      refine w_skip ?_
      refine q_blk_normal ?_
      refine q_then (hK65 _ _ ?_)
      refine w_region ?_
      refine w_pure want_none (y_move (v := .int _ _) rfl rfl) rfl ?_
      refine w_pure want_none (y_add rfl rfl rfl rfl (by omega) (by omega)) rfl ?_
      refine w_pure want_none (y_assign (v := .int _ _) rfl rfl) rfl ?_
      refine w_nil ?_
      refine q_then (hN57 _ _ (Nx.intro (((l.bunches[d]'hd2).hi + 1 - (l.bunches[d]'hd2).lo).toNat - (q + 1)) (by omega) (by repeat (first | exact agree_mix | refine agree_upd rfl ?_ | refine agree_updL rfl ?_ _ | refine agree_mixin rfl ?_)) ?_))
      exact ⟨q + 1, cur2, last2, i2, B2, iv1 (by omega), by omega, rfl, hc2, hr2, hl2, take_less hk2 hpl, hz2, hi2, hp2, (by rw [hp2]; exact hn2), hJ2, hs75⟩
     ·
      replace hs75 := bk6 (show St _ _ (_ :: _ :: _ :: _ :: _ :: _ :: (X ++ (B2 ++ F))) from hs75)
      refine w_pure want_none (y_not rfl rfl) rfl ?_
      refine w_nil ?_
      refine q_then (hK71 _ _ ?_)
      refine w_condT rfl rfl ?_
      refine w_seq (fun K77 hK76 => ?_)
      refine w_region ?_
      refine w_pure want_none (y_assign (v := _) rfl rfl) rfl ?_
      refine w_nil ?_
      refine q_then (hK76 _ _ ?_)
      refine w_ret ?_
      refine q_blk_ret ?_
      refine q_then_ret ?_
      refine q_then_ret ?_
      refine q_blk_ret ?_
      refine q_then_ret ?_
      refine q_ret (l := [.tmp 8]) (vs := [_]) rfl ⟨⟨rfl, show _ = (.bool _ : Value) from rfl⟩, trivial⟩ ?_
      first
        | exact ⟨cur, last, B, hcl, hcr, hll, hkt, hz, hs75.tail, .inl ⟨rfl, i, hi, leaf_none hpos (leaf_last hpos (hlast (by omega)) (by assumption)), (by rw [← leaf_none hpos (leaf_last hpos (hlast (by omega)) (by assumption))]; exact hlast), hJ⟩⟩
        | exact ⟨cur, last, B, hcl, hcr, hll, hkt, hz, hs75.tail, .inl ⟨rfl, i, hi, leaf_none hpos (by assumption), (by rw [← leaf_none hpos (by assumption)]; exact hlast), hJ⟩⟩
        | exact ⟨cur, cur, B1, hcl, hcr, hcl, hkt, hz, hs75.tail, .inl ⟨rfl, i + 1, drop_lt hpos2, drop_next hpos2, (fun _ => drop_notin hnd hpos2), hJ1⟩⟩
        | exact ⟨cur, cur, B1, hcl, hcr, hcl, hkt, hz, hs75.tail, .inr ⟨rfl, hJ1⟩⟩
        | exact ⟨cur2, last2, B2, hc2, hr2, hl2, take_less hk2 hpl, hz2, hs75.tail, .inr ⟨rfl, hJ2⟩⟩
        | (rw [rest_done (by omega), List.nil_append] at hpos
           exact ⟨cur, last, B, hcl, hcr, hll, hkt, hz, hs75.tail, .inl ⟨rfl, i, hi, hpos, (by rw [← hpos]; exact hlast), hJ⟩⟩)
    ·
     try simp only [Bool.not_eq_true', Bool.not_eq_false', decide_eq_true_eq, decide_eq_false_iff_not, Int.not_lt, Int.not_le] at h64
     refine w_exit ?_
     refine q_then_exit ?_
     refine q_then_exit ?_
     refine q_blk_this ?_
     refine q_then (hK53 _ _ ?_)
     refine w_seq (fun K79 hK78 => ?_)
     refine w_region ?_
     refine w_pure want_none (y_assign (v := _) rfl rfl) rfl ?_
     refine w_nil ?_
     refine q_then (hK78 _ _ ?_)
     refine w_ret ?_
     refine q_ret (l := [.tmp 8]) (vs := [_]) rfl ⟨⟨rfl, show _ = (.bool _ : Value) from rfl⟩, trivial⟩ ?_
     first
       | exact ⟨cur, last, B, hcl, hcr, hll, hkt, hz, hs.tail, .inl ⟨rfl, i, hi, leaf_none hpos (leaf_last hpos (hlast (by omega)) (by assumption)), (by rw [← leaf_none hpos (leaf_last hpos (hlast (by omega)) (by assumption))]; exact hlast), hJ⟩⟩
       | exact ⟨cur, last, B, hcl, hcr, hll, hkt, hz, hs.tail, .inl ⟨rfl, i, hi, leaf_none hpos (by assumption), (by rw [← leaf_none hpos (by assumption)]; exact hlast), hJ⟩⟩
       | exact ⟨cur, cur, B1, hcl, hcr, hcl, hkt, hz, hs.tail, .inl ⟨rfl, i + 1, drop_lt hpos2, drop_next hpos2, (fun _ => drop_notin hnd hpos2), hJ1⟩⟩
       | exact ⟨cur, cur, B1, hcl, hcr, hcl, hkt, hz, hs.tail, .inr ⟨rfl, hJ1⟩⟩
       | exact ⟨cur2, last2, B2, hc2, hr2, hl2, take_less hk2 hpl, hz2, hs.tail, .inr ⟨rfl, hJ2⟩⟩
       | (rw [rest_done (by omega), List.nil_append] at hpos
          exact ⟨cur, last, B, hcl, hcr, hll, hkt, hz, hs.tail, .inl ⟨rfl, i, hi, hpos, (by rw [← hpos]; exact hlast), hJ⟩⟩)

end Go.Proofs
/- Walks of this seat, printed by gen.py over the engine: what each function returns, in whatever world. No conditions but those of each contract. -/
set_option linter.unusedVariables false
set_option linter.unusedSimpArgs false
set_option maxRecDepth 20000
namespace Go.Proofs
open Go.Rt Go.Rt.Ha
attribute [local irreducible] WL WC Con Yd At Ats Sl Agree DW

theorem next_all {w0 : World} {F : List (Nat × Obj)} (l : Lot) (p : At3) (but lb mm : Nat) (hk : LK w0 F l p but lb mm)  (bp bh bla bs bY bn : Nat) (h1 : Ats w0 F bp 0 [.pointer (some ⟨lb, 0, none⟩)]) (Ls : List (List Int)) (hnd : Ls.Nodup) (J : Nat → List (Nat × Obj) → Prop) (Js : List (Nat × Obj) → Prop) (yv : Value) (hy : ∀ (i : Nat) (x : List Int) (R : List (List Int)) (B X : List (Nat × Obj)) (w : World), Ls.drop i = x :: R → J i B → St w0 w (X ++ (B ++ F)) → FCon Try.prog yv [ia x] w fun v w' => ∃ B', St w0 w' (X ++ (B' ++ F)) ∧ (v = .bool true ∧ J (i + 1) B' ∨ v = .bool false ∧ Js B')) (rem : Nat) : NextC l but lb bp bh bla bs bY bn Ls J Js yv w0 F rem := by
  induction rem with
  | zero => exact c108 l p but lb mm hk bp bh bla bs bY bn h1 Ls hnd J Js yv hy 0 (fun r h => by omega)
  | succ r ih => exact c108 l p but lb mm hk bp bh bla bs bY bn h1 Ls hnd J Js yv hy (r + 1) (fun q h => by have : q = r := (by omega); subst this; exact ih)
theorem iter_lists {w0 : World} {F : List (Nat × Obj)} {Ls : List (List Int)} {J : Nat → List (Nat × Obj) → Prop} {Js : List (Nat × Obj) → Prop} {yv : Value}
    (hy : ∀ i (hi : i < (Ls.map ia).length) B X w, J i B → St w0 w (X ++ (B ++ F)) → FCon Try.prog yv [(Ls.map ia)[i]] w fun v w' => ∃ B', St w0 w' (X ++ (B' ++ F)) ∧ (v = .bool true ∧ J (i + 1) B' ∨ v = .bool false ∧ Js B')) :
    ∀ (i : Nat) (x : List Int) (R : List (List Int)) (B X : List (Nat × Obj)) (w : World), Ls.drop i = x :: R → J i B → St w0 w (X ++ (B ++ F)) → FCon Try.prog yv [ia x] w fun v w' => ∃ B', St w0 w' (X ++ (B' ++ F)) ∧ (v = .bool true ∧ J (i + 1) B' ∨ v = .bool false ∧ Js B') := by
  intro i x R B X w hd hJ hs
  have := hy i (by simpa using drop_lt hd) B X w hJ hs
  rw [List.getElem_map, drop_get hd] at this
  exact this
theorem ways_iter {w0 : World} {F : List (Nat × Obj)} (l : Lot) (p : At3) (but lb mm : Nat) (hk : LK w0 F l p but lb mm)  (bp : Nat) (h1 : Ats w0 F bp 0 [.pointer (some ⟨lb, 0, none⟩)]) : Iter Try.prog 106 [] [.pointer (some ⟨bp, 0, none⟩)] (((Ha.ways l but).map pad6).map ia) w0 F := by
  intro J Js yv B X w hyv hy hJ hs
  obtain ⟨yf, ya, yb, rfl⟩ := hyv
  have hlb := hk.ok.lb
  show Con Try.prog 106 [.func yf ya yb, .pointer (some ⟨bp, 0, none⟩)] w _
  refine con_of_wc (n := 12) Try.func106 rfl rfl (Nat.le_of_ble_eq_true rfl) ?_
  refine w_seq (fun K2 hK1 => ?_)
  refine w_region ?_
  refine w_box (v := .func _ _ _) (cs := [_]) want_none rfl rfl rfl hs (fun b3 w4 hs5 => ?_)
  refine w_nil ?_
  refine q_then (hK1 _ _ ?_)
  refine w_seq (fun K7 hK6 => ?_)
  refine w_region ?_
  refine w_pure want_none (y_load1 Try.isAgg104 hs5.tail.drop.drop rfl rfl h1) rfl ?_
  refine w_pure want_none (y_makeFunc (fv := [_]) (cv := []) rfl rfl rfl rfl) rfl ?_
  refine w_alloc (cs := [_]) want_none Try.zeroValue142 rfl hs5 (fun b8 w9 hs10 => ?_)
  refine w_store (i := 0) (v := .func _ _ _) (vs := [_]) want_none Try.sizeOf142 rfl rfl rfl rfl rfl (by simp [Value.oneCell']) hs10 rfl (Nat.le_of_ble_eq_true rfl) (fun w11 hs12 => ?_)
  refine w_nil ?_
  refine q_then (hK6 _ _ ?_)
  refine w_seq (fun K14 hK13 => ?_)
  refine w_region ?_
  refine w_alloc (cs := iv [0, 0, 0, 0, 0, 0]) want_none Try.zeroValue121 rfl hs12 (fun b15 w16 hs17 => ?_)
  refine w_alloc (cs := iv [0, 0, 0, 0, 0, 0]) want_none Try.zeroValue121 rfl hs17 (fun b18 w19 hs20 => ?_)
  refine w_nil ?_
  refine q_then (hK13 _ _ ?_)
  refine w_seq (fun K22 hK21 => ?_)
  refine w_region ?_
  refine w_alloc (cs := [_]) want_none Try.zeroValue129 rfl hs20 (fun b23 w24 hs25 => ?_)
  refine w_nil ?_
  refine q_then (hK21 _ _ ?_)
  refine w_seq (fun K27 hK26 => ?_)
  refine w_region ?_
  refine w_pure want_none (y_makeFunc (fv := []) (cv := [_, _, _, _, _, _]) rfl rfl rfl rfl) rfl ?_
  refine w_store (i := 0) (v := .func _ _ _) (vs := [_]) want_none Try.sizeOf129 rfl rfl rfl rfl rfl (by simp [Value.oneCell']) hs25 rfl (Nat.le_of_ble_eq_true rfl) (fun w28 hs29 => ?_)
  refine w_nil ?_
  refine q_then (hK26 _ _ ?_)
  refine w_region ?_
  refine w_pure want_none (y_load1 Try.isAgg129 hs29 rfl rfl (ats_own (i := 0) (vs := [_]) rfl rfl)) rfl ?_
  refine w_call want_none Try.call108 rfl rfl rfl rfl (next_all l p but lb mm hk bp b15 b18 b8 b3 b23 h1 ((Ha.ways l but).map pad6) (padw_nodup l but) J Js (.func yf ya yb) (iter_lists hy) l.bunches.length 0 [] (List.replicate 6 0) (List.replicate 6 0) 0 [] B X _ (by omega) rfl rfl (fun z h => by have := (List.mem_replicate.1 h).2; omega) rfl (fun j _ => by match j with | 0 => rfl | 1 => rfl | 2 => rfl | 3 => rfl | 4 => rfl | 5 => rfl | _ + 6 => rfl) (by omega) (by rw [List.append_nil, seg_all]; rfl) rfl (fun hn => by rw [List.drop_zero]; exact zero_notin hk.ok hn) hJ hs29) ?_
  rintro _ w31 ⟨cur2, last2, B2, _, _, _, _, _, hs32, hB2⟩
  refine w_nil ?_
  refine q_end (l := []) (vs := []) rfl trivial ?_
  refine ⟨B2, hs32.tail.tail.tail.tail.tail, ?_⟩
  rcases hB2 with ⟨_, i', hi', hd', _, hJ'⟩ | ⟨_, hJ'⟩
  · left; rw [List.length_map, ← drop_done hi' hd']; exact hJ'
  · exact .inr hJ'

theorem c78 {w0 w : World} {F : List (Nat × Obj)} (lb : Nat) (hs : St w0 w F) :
  Con Try.prog 78 [.pointer (some ⟨lb, 0, none⟩)] w fun v w' => ∃ bp, v = .func (.func 106) #[] #[.pointer (some ⟨bp, 0, none⟩)] ∧ St w0 w' ((bp, blk 104 [.pointer (some ⟨lb, 0, none⟩)]) :: F) := by
  refine con_of_wc (n := 4) Try.func78 rfl rfl (Nat.le_of_ble_eq_true rfl) ?_
  refine w_seq (fun K2 hK1 => ?_)
  refine w_region ?_
  refine w_box (v := .pointer _) (cs := [_]) want_none rfl rfl rfl hs (fun b3 w4 hs5 => ?_)
  refine w_pure want_none (y_assign (v := _) rfl rfl) rfl ?_
  refine w_nil ?_
  refine q_then (hK1 _ _ ?_)
  refine w_seq (fun K7 hK6 => ?_)
  refine w_region ?_
  refine w_pure want_none (y_makeFunc (fv := []) (cv := [_]) rfl rfl rfl rfl) rfl ?_
  refine w_pure want_none (y_assign (v := .func _ _ _) rfl rfl) rfl ?_
  refine w_nil ?_
  refine q_then (hK6 _ _ ?_)
  refine w_ret ?_
  refine q_ret (l := [.tmp 2]) (vs := [_]) rfl ⟨⟨rfl, show _ = (.func _ _ _ : Value) from rfl⟩, trivial⟩ ?_
  exact ⟨_, rfl, hs5⟩

theorem c91 {w0 w : World} {F : List (Nat × Obj)} (l : Lot) (p : At3) (but lb mm : Nat) (hk : LK w0 F l p but lb mm)  (hs : St w0 w F) :
  Con Try.prog 91 [.pointer (some ⟨lb, 0, none⟩)] w fun v w' => v = .bool (!(Ha.ways l but).isEmpty) ∧ St w0 w' F := by
  refine con_of_wcM (n := 6) Try.func91 rfl rfl (Nat.le_of_ble_eq_true rfl) ?_
  refine w_seq (fun K2 hK1 => ?_)
  refine w_region ?_
  refine w_alloc (cs := [_]) want_none Try.zeroValue4 rfl hs (fun b3 w4 hs5 => ?_)
  refine w_nil ?_
  refine q_then (hK1 _ _ ?_)
  refine w_seq (fun K7 hK6 => ?_)
  refine w_seq (fun K9 hK8 => ?_)
  refine w_region ?_
  refine w_pure want_none (y_move (v := .pointer _) rfl rfl) rfl ?_
  refine w_call want_none Try.call78 rfl rfl rfl rfl (c78 _ hs5) ?_
  rintro _ w11 ⟨bp, rfl, hs12⟩
  refine w_nil ?_
  refine q_then (hK8 _ _ ?_)
  refine w_block ?_
  refine w_range ([_]) (fun i Bx => i = 0 ∧ Bx = [(b3, blk 4 [.bool false])]) (fun c Bx => c = .ret ∧ Bx = [(b3, blk 4 [.bool true])] ∧ 0 < (Ha.ways l but).length) rfl rfl rfl Try.call106 (ways_iter l p but lb mm hk.cons bp (ats_own (i := 0) (vs := [_]) rfl rfl)) hs12 (List.Perm.swap _ _ _) ⟨rfl, rfl⟩ ?_ ?_ ?_
  ·
   intro lp i hi Bx Xr Xr2 w14 hJ hs K hK13
   obtain ⟨rfl, rfl⟩ := hJ
   have hi0 : 0 < (Ha.ways l but).length := by simpa using hi
   replace hs := (show St _ _ (_ :: (Xr ++ (_ :: F))) from hs)
   refine w_skip ?_
   refine q_then (hK13 _ _ (_ :: []) hs (fun w15 hs16 => ?_))
   replace hs16 := (show St _ _ (_ :: Xr2 ++ (_ :: F)) from hs16)
   refine w_block ?_
   refine w_seq (fun K18 hK17 => ?_)
   refine w_region ?_
   refine w_store (i := 0) (v := .bool _) (vs := [_]) want_none Try.sizeOf4 rfl rfl rfl rfl rfl (by simp [Value.oneCell']) hs16 rfl (Nat.le_of_ble_eq_true rfl) (fun w19 hs20 => ?_)
   refine w_nil ?_
   refine q_then (hK17 _ _ ?_)
   refine w_ret ?_
   refine q_blk_ret ?_
   refine rd_ret (_ :: []) hs20 ?_
   exact ⟨rfl, rfl, hi0⟩
  ·
   intro bd Bx w21 hJ hs
   obtain ⟨h0, rfl⟩ := hJ
   rw [List.length_map, List.length_map] at h0
   refine q_blk_normal ?_
   refine q_then (hK6 _ _ ?_)
   refine w_seq (fun K23 hK22 => ?_)
   refine w_region ?_
   refine w_store (i := 1) (v := .bool _) (vs := [_]) want_none Try.sizeOf4 rfl rfl rfl rfl rfl (by simp [Value.oneCell']) hs rfl (Nat.le_of_ble_eq_true rfl) (fun w24 hs25 => ?_)
   refine w_nil ?_
   refine q_then (hK22 _ _ ?_)
   refine w_ret ?_
   refine q_retM (i := 0) (l := [.cell 2 4]) (vs := [_]) hs25 rfl rfl (fun w26 hs27 => ⟨⟨⟨rfl, _, rfl, run_loadVar1 Try.isAgg4 hs27 (ats_own (i := 1) (vs := [_]) rfl rfl)⟩, trivial⟩, ?_⟩)
   first
     | exact ⟨congrArg Value.bool (by rw [List.length_eq_zero_iff.1 h0]; rfl), hs27.tail.tail.tail⟩
     | exact ⟨congrArg Value.bool (by cases hd : Ha.ways l but with | nil => rw [hd] at h0; simp at h0 | cons _ _ => rfl), hs27.tail.tail.tail⟩
  ·
   intro bd c Bx w28 hJ hs
   obtain ⟨rfl, rfl, h0⟩ := hJ
   refine w_ret ?_
   refine q_blk_ret ?_
   refine q_then_ret ?_
   refine q_retM (i := 0) (l := [.cell 2 4]) (vs := [_]) hs rfl rfl (fun w29 hs30 => ⟨⟨⟨rfl, _, rfl, run_loadVar1 Try.isAgg4 hs30 (ats_own (i := 1) (vs := [_]) rfl rfl)⟩, trivial⟩, ?_⟩)
   first
     | exact ⟨congrArg Value.bool (by rw [List.length_eq_zero_iff.1 h0]; rfl), hs30.tail.tail.tail⟩
     | exact ⟨congrArg Value.bool (by cases hd : Ha.ways l but with | nil => rw [hd] at h0; simp at h0 | cons _ _ => rfl), hs30.tail.tail.tail⟩

end Go.Proofs
/- Plain words of the hand layer: grades as bits, one number of scars after the other. No conditions. -/
set_option linter.unusedSimpArgs false
set_option linter.unusedVariables false
namespace Go.Rt.Ha
theorem upto_snoc : ∀ (n : Nat) (lo : Int), upto lo (n + 1) = upto lo n ++ [lo + n]
  | 0, lo => by simp [upto]
  | n + 1, lo => by
    rw [upto, upto_snoc n (lo + 1)]
    simp only [upto, List.cons_append]
    rw [show lo + 1 + (n : Int) = lo + (n + 1 : Nat) by omega]
theorem orG_snoc (gs : List Grade) (h s : Int) : ∀ l, orG gs h (l ++ [s]) = orG gs h l ||| 1 <<< (ofG gs 0 h s + 1).toNat
  | [] => by simp [orG]
  | x :: l => by simp only [List.cons_append, orG, orG_snoc gs h s l, Nat.or_assoc]
theorem ofG_to {gs : List Grade} {h s : Int} (hl : gs.length ≤ 4) : 0 ≤ ofG gs 0 h s + 1 ∧ (ofG gs 0 h s + 1).toNat ≤ 4 ∧ ofG gs 0 h s ≤ 3 := by
  rcases ofG_range h s gs 0 (by omega) with e | e <;> omega
theorem shl_5 {x : Nat} (h : x ≤ 4) : 1 <<< x < 32 ∧ 0 < 1 <<< x := by
  match x, h with
  | 0, _ => decide
  | 1, _ => decide
  | 2, _ => decide
  | 3, _ => decide
  | 4, _ => decide
theorem orG_lt {gs : List Grade} {h : Int} (hl : gs.length ≤ 4) : ∀ l, orG gs h l < 32
  | [] => by simp [orG]
  | x :: l => by
    simp only [orG]
    exact Nat.or_lt_two_pow (n := 5) (shl_5 (ofG_to hl).2.1).1 (orG_lt hl l)
theorem orG_pos {gs : List Grade} {h : Int} (hl : gs.length ≤ 4) {l : List Int} (hne : l ≠ []) : 0 < orG gs h l := by
  cases l with
  | nil => exact absurd rfl hne
  | cons x l =>
    simp only [orG]
    have h1 := (shl_5 (ofG_to (gs := gs) (h := h) (s := x) hl).2.1).2
    have h2 := Nat.left_le_or (n := 1 <<< (ofG gs 0 h x + 1).toNat) (m := orG gs h l)
    omega
theorem gradesB_in {l : Lot} (hok : l.Ok) {b : Nat} (hb : b < l.bunches.length) (h : Int) : 0 < gradesB l (bunchOf l b) h ∧ gradesB l (bunchOf l b) h < 32 := by
  have hne := scars_ne hok hb
  exact ⟨orG_pos hok.lg.2 hne, orG_lt hok.lg.2 _⟩
theorem setW_lt {l : Lot} (hok : l.Ok) (b : Nat) (ws : List (List Int)) : setW l b ws < 32 := by
  have key : ∀ (ws : List (List Int)) (s : Nat), s < 32 → ws.foldl (fun s h => s ||| gradesB l (bunchOf l b) (at_ h b)) s < 32 := by
    intro ws
    induction ws with
    | nil => intro s h; exact h
    | cons x ws ih => intro s h; exact ih _ (Nat.or_lt_two_pow (n := 5) h (orG_lt hok.lg.2 _))
  exact key ws 0 (by omega)
theorem fold_take {α β : Type} (f : β → α → β) (s : β) {l : List α} {i : Nat} (h : i < l.length) : (l.take (i + 1)).foldl f s = f ((l.take i).foldl f s) l[i] := by
  rw [List.take_succ_eq_append_getElem h, List.foldl_append]; rfl
theorem way_in {l : Lot} (hok : l.Ok) {but : Nat} {h : List Int} (hw : h ∈ ways l but) (b : Nat) : 0 ≤ at_ h b ∧ at_ h b ≤ 12 := by
  have hl := way_len hw
  unfold at_
  by_cases hb : b < h.length
  · have := (felt_num hok (way_felt hw)).2 h[b] (List.getElem_mem hb)
    simp only [List.getD, List.getElem?_eq_getElem hb, Option.getD_some]; omega
  · simp [List.getD, List.getElem?_eq_none (by omega : h.length ≤ b)]
theorem span_in {l : Lot} (hok : l.Ok) {but : Nat} (b i : Nat) : 0 ≤ (spanW b ((ways l but).take i)).1 ∧ (spanW b ((ways l but).take i)).1 ≤ 12 ∧ 0 ≤ (spanW b ((ways l but).take i)).2 ∧ (spanW b ((ways l but).take i)).2 ≤ 12 := by
  have key : ∀ (ws : List (List Int)) (s : Int × Int), (∀ h ∈ ws, 0 ≤ at_ h b ∧ at_ h b ≤ 12) → 0 ≤ s.1 → s.1 ≤ 12 → 0 ≤ s.2 → s.2 ≤ 12 → 0 ≤ (ws.foldl (joinS b) s).1 ∧ (ws.foldl (joinS b) s).1 ≤ 12 ∧ 0 ≤ (ws.foldl (joinS b) s).2 ∧ (ws.foldl (joinS b) s).2 ≤ 12 := by
    intro ws
    induction ws with
    | nil => intro s _ h1 h2 h3 h4; exact ⟨h1, h2, h3, h4⟩
    | cons x ws ih =>
      intro s hh h1 h2 h3 h4
      have hx := hh x (.head _)
      refine ih _ (fun h hm => hh h (.tail _ hm)) ?_ ?_ ?_ ?_ <;> simp only [joinS] <;> omega
  exact key _ _ (fun h hh => way_in hok (List.mem_of_mem_take hh) b) (by decide) (by decide) (by decide) (by decide)
end Go.Rt.Ha
/- The walking engine, part 13: whole quotients. Plain theorems over the kit's fenced calculus. No conditions. -/
set_option linter.unusedSimpArgs false
set_option linter.unusedVariables false
namespace Go.Rt
variable {r : Option Nat} {P : Program} {ops : Array Oper} {Q : Exit → Act → World → Prop} {rest : List Oper} {n : Nat} {ρ : Nat → Value} {ds : List Deferred} {w w0 : World} {d : Option Nat} {ty : TypeId} {p : String} {e : Array Edge} {g : Option (Nat × Bool)} {L : List (Nat × Obj)}
theorem y_quo {t t2 : TypeId} {x y : Operand} {a b : Int} (ho : okO n x = true) (ho1 : okO n y = true) (hx : ev ρ x = .int .i64 a) (hy : ev ρ y = .int .i64 b) (ha : 0 ≤ a) (hb : 0 < b) (hm : a ≤ 9223372036854775807) :
    Yd P (A n ρ ds) ⟨d, .binOp .quo t x y t2, ty, p, e, g⟩ w (.int .i64 (a / b)) := y_bin ho ho1 hx hy fun w => by
  have h0 : b ≠ 0 := by omega
  have h1 : 0 ≤ a / b := Int.ediv_nonneg ha (by omega)
  have h2 : a / b ≤ a := Int.ediv_le_self _ ha
  have hw : IntKind.i64.wrap (a / b) = a / b := wrap_in (by omega) (by omega)
  simp [binOp_quo, Op.intDiv, h0, Int.tdiv_eq_ediv_of_nonneg ha, hw]
theorem y_eqB {t t2 : TypeId} {x y : Operand} {a b : Bool} (ht : P.underlying t = some .bool) (ho : okO n x = true) (ho1 : okO n y = true) (hx : ev ρ x = .bool a) (hy : ev ρ y = .bool b) :
    Yd P (A n ρ ds) ⟨d, .binOp .eql t x y t2, ty, p, e, g⟩ w (.bool (decide (a = b))) := by
  have : (a == b) = decide (a = b) := by cases a <;> cases b <;> rfl
  simp [Yd, execOp, ev_eq ho, ev_eq ho1, hx, hy, eqGuard_at_bool, Sem.run_bind, binOp, run_equal_bool w t a b ht, Result.andThen, this]
theorem y_neB {t t2 : TypeId} {x y : Operand} {a b : Bool} (ht : P.underlying t = some .bool) (ho : okO n x = true) (ho1 : okO n y = true) (hx : ev ρ x = .bool a) (hy : ev ρ y = .bool b) :
    Yd P (A n ρ ds) ⟨d, .binOp .neq t x y t2, ty, p, e, g⟩ w (.bool (!decide (a = b))) := by
  have : (a == b) = decide (a = b) := by cases a <;> cases b <;> rfl
  simp [Yd, execOp, ev_eq ho, ev_eq ho1, hx, hy, eqGuard_at_bool, Sem.run_bind, binOp, run_equal_bool w t a b ht, Result.andThen, this, bne]
/-- A region that draws its order: more is known at first than what stays. -/
theorem w_drawD {id : Nat} {l : List Oper} {Q : Exit → Act → World → Prop} {C0 C : World → Prop} (late : List Nat) (ord : List (Nat × Nat)) (hm : P.follows .mixedOrders = true) (hB : drawOK l.toArray late ord = true) (hC : C0 w) (h0 : ∀ w, C0 w → C w)
    (hdrew : ∀ w, C0 w → C0 { w with drawn := w.drawn + 1 }) (h : ∀ w', C0 w' → DW r P l.toArray (fun a w => Q .normal a w) C ord (A n ρ ds) w') : WC r P (.region id l.toArray true) Q (A n ρ ds) w := by
  unfold drawOK at hB
  simp only [Bool.and_eq_true] at hB
  obtain ⟨⟨⟨h1, h2⟩, h3⟩, h4⟩ := hB
  have hst' := hdrew _ hC
  have hsz : ord.length = l.toArray.size := Nat.eq_of_beq_eq_true h3
  have := wAH_of_DW h1 h2 ord (Array.replicate l.toArray.size false) (A n ρ ds) _ (by simp) h4 (fun _ => h0 _ hst') (h _ hst')
  have hany := wAny_of_wAH _ _ _ _ this
  rw [hsz] at hany
  refine wpIn_mono (wpIn_region_any hm hany) ?_
  intro e a w hq
  cases e <;> first | exact hq | exact hq.elim
end Go.Rt
/- The walking engine, part 14: lookups that ask for the value alone. No conditions. -/
set_option linter.unusedSimpArgs false
set_option linter.unusedVariables false
namespace Go.Rt
open Go.RowKit
variable {r : Option Nat} {P : Program} {ops : Array Oper} {Q : Exit → Act → World → Prop} {rest : List Oper} {n : Nat} {ρ : Nat → Value} {ds : List Deferred} {d : Option Nat} {ty : TypeId} {p : String} {e : Array Edge} {g : Option (Nat × Bool)} {w w0 : World} {L : List (Nat × Obj)}
theorem K_look1S {mt kt el : TypeId} {x y : Operand} {l : List Int} {a : Value} {m i k j : Nat} {es : Array MapEntry} {ck : Nat} {v : Value} (hU : P.underlying mt = some (.map kt el)) (hK : KeyTy P kt k) (hkl : l.length = k)
    (hst : St w0 w L) (ho : okO n x = true) (ho1 : okO n y = true) (hx : ev ρ x = .map (some m)) (hy : ev ρ y = a) (ha : a = ia l) (hi : L[i]? = some (m, .map es ck)) (hf : ∀ w, (Instr.findKey kt (ia l) es.toList).run P w = .ok (some (j, v)) w) :
    Yd P (A n ρ ds) ⟨d, .lookup mt x y false, ty, p, e, g⟩ w v := by
  unfold Yd
  have hc := hK.chk es.isEmpty l w hkl
  have : (Instr.lookup mt (.map (some m)) (ia l) false).run P w = .ok v w := by
    simp only [Instr.lookup, Sem.run_bind, run_underlying hU, Result.andThen_ok, hst.obj hi, Sem.run_pure, hc, hf, if_true]
    rfl
  simp only [execOp, ev_eq ho, ev_eq ho1, hx, hy, ha, Sem.run_bind, this]
  rfl
theorem K_look1N {mt kt el : TypeId} {x y : Operand} {l : List Int} {a : Value} {m i k : Nat} {es : Array MapEntry} {ck : Nat} {z : Value} (hU : P.underlying mt = some (.map kt el)) (hK : KeyTy P kt k) (hkl : l.length = k)
    (hz : ∀ w, (zeroValue el).run P w = .ok z w) (hst : St w0 w L) (ho : okO n x = true) (ho1 : okO n y = true) (hx : ev ρ x = .map (some m)) (hy : ev ρ y = a) (ha : a = ia l) (hi : L[i]? = some (m, .map es ck))
    (hf : ∀ w, (Instr.findKey kt (ia l) es.toList).run P w = .ok none w) : Yd P (A n ρ ds) ⟨d, .lookup mt x y false, ty, p, e, g⟩ w z := by
  unfold Yd
  have hc := hK.chk es.isEmpty l w hkl
  have : (Instr.lookup mt (.map (some m)) (ia l) false).run P w = .ok z w := by
    simp only [Instr.lookup, Sem.run_bind, run_underlying hU, Result.andThen_ok, hst.obj hi, Sem.run_pure, hc, hf, hz, if_true]
    rfl
  simp only [execOp, ev_eq ho, ev_eq ho1, hx, hy, ha, Sem.run_bind, this]
  rfl
end Go.Rt
/- Walks of this seat, printed by gen.py over the engine: what each function returns, in whatever world. No conditions but those of each contract. -/
set_option linter.unusedVariables false
set_option linter.unusedSimpArgs false
set_option maxRecDepth 20000
namespace Go.Proofs
open Go.Rt Go.Rt.Ha
attribute [local irreducible] WL WC Con Yd At Ats Sl Agree DW
theorem Try_I_fb1 (x0 : Int) (w : World) : (Instr.buildSlice 37 1 [(0, .int .i64 x0)].toArray).run Try.prog w = .ok (.slice (some ⟨w.heap.size, 0, none⟩) 1 1) (w.alloc (Go.Rt.blk 3 [.int .i64 x0])) := by kernel_rfl
theorem Try_info3 : Try.prog.info? 3 = some Try.t3 := by kernel_rfl
theorem key_zip {P : Program} {t k : Nat} {fs : Array Field} (ks : List Nat) (hu : P.underlying t = some (.struct fs)) (hp : P.stoodInHeld t = false) (h1 : fs.toList = (fs.toList.zip ks).map Prod.fst) (h2 : ∀ q ∈ fs.toList.zip ks, FF P q.1 q.2 ∧ q.1.offset + q.2 ≤ k)
    (h3 : ∀ q ∈ fs.toList.zip ks, P.underlying q.1.type = some (.int .i64) ∨ ∃ el, P.underlying q.1.type = some (.array q.2 el) ∧ P.underlying el = some (.int .i64) ∧ ∀ w, (sizeOf el).run P w = .ok 1 w)
    (h4 : ∀ l m : List Int, l.length = k → m.length = k → ((fs.toList.zip ks).all fun q => decide ((l.drop q.1.offset).take q.2 = (m.drop q.1.offset).take q.2)) = decide (l = m)) : KeyTy P t k := keyTy_struct _ hu hp h1 h2 h3 h4
theorem key124_cov : ∀ l m : List Int, l.length = 2 → m.length = 2 → (decide ((l.drop 0).take 1 = (m.drop 0).take 1) && (decide ((l.drop 1).take 1 = (m.drop 1).take 1) && true)) = decide (l = m) := by
  intro l m hl hm
  match l, hl with
  | [a, b], _ =>
    match m, hm with
    | [a', b'], _ => rw [Bool.eq_iff_iff]; simp
theorem key124 : KeyTy Try.prog 124 2 := by
  refine key_zip [1, 1] Try.underlying124 (by kernel_rfl) rfl ?_ ?_ ?_
  · intro q hq
    simp only [List.zip_cons_cons, List.zip_nil_right, List.mem_cons, List.not_mem_nil, or_false] at hq
    rcases hq with rfl | rfl
    · exact ⟨⟨by decide, .inl ⟨Try.underlying3, rfl⟩⟩, by decide⟩
    · exact ⟨⟨by decide, .inl ⟨Try.underlying3, rfl⟩⟩, by decide⟩
  · intro q hq
    simp only [List.zip_cons_cons, List.zip_nil_right, List.mem_cons, List.not_mem_nil, or_false] at hq
    rcases hq with rfl | rfl
    · exact .inl Try.underlying3
    · exact .inl Try.underlying3
  · exact key124_cov
/-- What the memo of a lot that is looked at holds. -/
def Memo (l : Lot) (mm : Nat) (M : List (Nat × Obj)) : Prop := ∃ es ck, M = [(mm, .map es ck)] ∧ ∀ e ∈ es.toList, ∃ (b : Nat) (h : Int), b < l.bunches.length ∧ e.key = ia [(b : Int), h] ∧ e.val = .int .i64 ((gradesB l (bunchOf l b) h : Nat) : Int)
theorem memo_new (l : Lot) (mm : Nat) : Memo l mm [(mm, .map #[] 0)] := ⟨#[], 0, rfl, fun e he => by simp at he⟩
theorem drop_2nd {w0 w : World} {F : List (Nat × Obj)} {a b : Nat × Obj} (h : St w0 w (a :: b :: F)) : St w0 w (a :: F) := (h.perm (perm_mid [a] [b] F)).tail
theorem ptr_i {b : Nat} {z z' : Int} (h : z = z') : [Value.int .i64 z, Value.pointer (some ⟨b, 0, none⟩)] = [Value.int .i64 z', Value.pointer (some ⟨b, 0, none⟩)] := by rw [h]
theorem c110 {w0 w : World} {F : List (Nat × Obj)} (g : Grade) (bx bs : Nat) (b : Int) (h s : Int) (h1 : Ats w0 F bx 0 [.int .i64 b, .int .i64 h]) (h2 : Ats w0 F bs 0 [.int .i64 s]) (hs : St w0 w F) :
  Con Try.prog 110 [.agg g.cells.toArray, .pointer (some ⟨bx, 0, none⟩), .pointer (some ⟨bs, 0, none⟩)] w fun v w' => v = .bool (decide (g.hands ≤ h ∧ s ≤ g.scars)) ∧ St w0 w' F := by
  refine con_of_wc (n := 16) Try.func110 rfl rfl (Nat.le_of_ble_eq_true rfl) ?_
  refine w_seq (fun K2 hK1 => ?_)
  refine w_region ?_
  refine w_box (v := .agg #[.string _, .int _ _, .int _ _]) (cs := [_, _, _]) want_none rfl rfl rfl hs (fun b3 w4 hs5 => ?_)
  refine w_pure want_none (y_assign (v := _) rfl rfl) rfl ?_
  refine w_nil ?_
  refine q_then (hK1 _ _ ?_)
  refine w_seq (fun K7 hK6 => ?_)
  refine w_region ?_
  refine w_pure want_none (y_fieldAddr (o := 1) (i := 1) Try.underlying124 rfl Try.sizeOf3 rfl rfl rfl) rfl ?_
  refine w_pure want_none (y_load1 Try.isAgg3 hs5.tail rfl rfl (show Ats _ _ _ _ [_] from Ats.part h1 1 1)) rfl ?_
  refine w_pure want_none (y_fieldAddr (o := 1) (i := 1) Try.underlying79 rfl Try.sizeOf3 rfl rfl rfl) rfl ?_
  refine w_pure want_none (y_load1 Try.isAgg3 hs5 rfl rfl (ats_own (i := 0) (vs := [_]) rfl rfl)) rfl ?_
  refine w_pure want_none (y_geq rfl rfl rfl rfl) rfl ?_
  refine w_pure want_none (y_move (v := .bool _) rfl rfl) rfl ?_
  refine w_split (fun h8 => ?_) (fun h8 => ?_)
  ·
   try simp only [Bool.not_eq_true', Bool.not_eq_false', decide_eq_true_eq, decide_eq_false_iff_not, Int.not_lt, Int.not_le] at h8
   refine w_pure (want_yes rfl rfl rfl) (y_load1 Try.isAgg3 hs5.tail rfl rfl h2) rfl ?_
   refine w_pure (want_yes rfl rfl rfl) (y_fieldAddr (o := 2) (i := 2) Try.underlying79 rfl Try.sizeOf3 rfl rfl rfl) rfl ?_
   refine w_pure (want_yes rfl rfl rfl) (y_load1 Try.isAgg3 hs5 rfl rfl (ats_own (i := 0) (vs := [_]) rfl rfl)) rfl ?_
   refine w_pure (want_yes rfl rfl rfl) (y_leq rfl rfl rfl rfl) rfl ?_
   refine w_pure want_none (y_pickT (v := .bool _) rfl rfl rfl rfl) rfl ?_
   refine w_pure want_none (y_assign (v := .bool _) rfl rfl) rfl ?_
   refine w_nil ?_
   refine q_then (hK6 _ _ ?_)
   refine w_ret ?_
   refine q_ret (l := [.tmp 4]) (vs := [_]) rfl ⟨⟨rfl, show _ = (.bool _ : Value) from rfl⟩, trivial⟩ ?_
   exact ⟨congrArg Value.bool (by rw [Bool.eq_iff_iff]; simp [h8] <;> omega), hs5.tail⟩
  ·
   try simp only [Bool.not_eq_true', Bool.not_eq_false', decide_eq_true_eq, decide_eq_false_iff_not, Int.not_lt, Int.not_le] at h8
   refine w_skipop rfl rfl rfl ?_
   refine w_skipop rfl rfl rfl ?_
   refine w_skipop rfl rfl rfl ?_
   refine w_skipop rfl rfl rfl ?_
   refine w_pure want_none (y_pickF (v := _) rfl rfl rfl rfl) rfl ?_
   refine w_pure want_none (y_assign (v := .bool _) rfl rfl) rfl ?_
   refine w_nil ?_
   refine q_then (hK6 _ _ ?_)
   refine w_ret ?_
   refine q_ret (l := [.tmp 4]) (vs := [_]) rfl ⟨⟨rfl, show _ = (.bool _ : Value) from rfl⟩, trivial⟩ ?_
   exact ⟨congrArg Value.bool (by rw [Bool.eq_iff_iff]; simp [h8] <;> omega), hs5.tail⟩

theorem c79f {w0 w : World} {F : List (Nat × Obj)} (l : Lot) (p : At3) (but lb mm : Nat) (hk : LK w0 F l p but lb mm) (b : Nat) (hb2 : b < l.bunches.length) (h : Int) (es : Array MapEntry) (ck : Nat) (j : Nat) (z : Int) (hz : 0 < z) (hf : ∀ w, (Instr.findKey 124 (ia [(b : Int), h]) es.toList).run Try.prog w = .ok (some (j, .int .i64 z)) w) (hs : St w0 w ((mm, .map es ck) :: F)) :
  Con Try.prog 79 [.pointer (some ⟨lb, 0, none⟩), .agg #[.int .i64 (b : Int), .int .i64 h]] w fun v w' => v = .int .i64 z ∧ St w0 w' ((mm, .map es ck) :: F) := by
  refine con_of_wc (n := 57) Try.func79 rfl rfl (Nat.le_of_ble_eq_true rfl) ?_
  have hb := hk.b
  refine w_seq (fun K2 hK1 => ?_)
  refine w_region ?_
  refine w_box (v := .agg #[.int _ _, .int _ _]) (cs := [_, _]) want_none rfl rfl rfl hs (fun b3 w4 hs5 => ?_)
  refine w_pure want_none (y_assign (v := _) rfl rfl) rfl ?_
  refine w_nil ?_
  refine q_then (hK1 _ _ ?_)
  refine w_seq (fun K7 hK6 => ?_)
  refine w_seq (fun K9 hK8 => ?_)
  refine w_draw [] [(0, 0), (1, 0), (2, 0), (3, 1), (4, 1), (5, 1), (6, 0)] Try_mo (by kernel_rfl) hs5 (fun w10 hs11 => ?_)
  refine d_any rfl want_none rfl (fun _ => (y_move (v := .pointer _) rfl rfl)) ?_
  refine d_any rfl want_none rfl (fun _ => (y_nilCheck rfl rfl)) ?_
  refine d_any rfl want_none rfl (fun _ => (y_fieldAddr (o := 4) (i := 2) Try.underlying145 rfl Try.sizeOf143 rfl rfl rfl)) ?_
  refine d_take rfl want_none rfl hs11 (fun _ hq => (y_load1 Try.isAgg143 hq.tail.tail rfl rfl (show Ats _ _ _ _ [_] from Ats.part hb 4 1))) ?_
  refine d_take rfl want_none rfl hs11 (fun _ hq => (y_loadN (vs := [_, _]) Try.isAgg124 Try.sizeOf124 hq rfl rfl (ats_own (i := 0) (vs := [_, _]) rfl rfl))) ?_
  refine d_take rfl want_none rfl hs11 (fun _ hq => (K_look1S (i := 1) (l := [(b : Int), h]) Try.underlying143 key124 rfl hq rfl rfl rfl rfl rfl rfl hf)) ?_
  refine d_any rfl want_none rfl (fun _ => (y_assign (v := .int _ _) rfl rfl)) ?_
  refine d_nil ?_
  refine q_then (hK8 _ _ ?_)
  refine w_seq (fun K13 hK12 => ?_)
  refine w_region ?_
  refine w_pure want_none (y_move (v := .int _ _) rfl rfl) rfl ?_
  refine w_pure want_none (y_gtr rfl rfl rfl rfl) rfl ?_
  refine w_nil ?_
  refine q_then (hK12 _ _ ?_)
  refine w_cond rfl rfl (fun h14 => ?_) (fun h14 => ?_)
  ·
   try simp only [Bool.not_eq_true', Bool.not_eq_false', decide_eq_true_eq, decide_eq_false_iff_not, Int.not_lt, Int.not_le] at h14
   refine w_seq (fun K16 hK15 => ?_)
   refine w_region ?_
   refine w_pure want_none (y_move (v := .int _ _) rfl rfl) rfl ?_
   refine w_pure want_none (y_assign (v := .int _ _) rfl rfl) rfl ?_
   refine w_nil ?_
   refine q_then (hK15 _ _ ?_)
   refine w_ret ?_
   refine q_then_ret ?_
   refine q_ret (l := [.tmp 4]) (vs := [_]) rfl ⟨⟨rfl, show _ = (.int _ _ : Value) from rfl⟩, trivial⟩ ?_
   exact ⟨rfl, hs11.tail⟩
  ·
   exfalso
   try simp only [Bool.not_eq_true', Bool.not_eq_false', decide_eq_true_eq, decide_eq_false_iff_not, Int.not_lt, Int.not_le] at h14
   omega

theorem c79n {w0 w : World} {F : List (Nat × Obj)} (l : Lot) (p : At3) (but lb mm : Nat) (hk : LK w0 F l p but lb mm) (b : Nat) (hb2 : b < l.bunches.length) (h : Int) (es : Array MapEntry) (ck : Nat) (hf : ∀ w, (Instr.findKey 124 (ia [(b : Int), h]) es.toList).run Try.prog w = .ok none w) (hs : St w0 w ((mm, .map es ck) :: F)) :
  Con Try.prog 79 [.pointer (some ⟨lb, 0, none⟩), .agg #[.int .i64 (b : Int), .int .i64 h]] w fun v w' => v = .int .i64 ((gradesB l (bunchOf l b) h : Nat) : Int) ∧ St w0 w' ((mm, .map (es.push { key := ia [(b : Int), h], val := .int .i64 ((gradesB l (bunchOf l b) h : Nat) : Int), born := ck }) (ck + 1)) :: F) := by
  refine con_of_wc (n := 57) Try.func79 rfl rfl (Nat.le_of_ble_eq_true rfl) ?_
  obtain ⟨ag, cg, ab, cb, ac, cc⟩ := p
  have hb := hk.b
  have hbt := hk.bt
  have hlg := hk.ok.lg
  have hlb := hk.ok.lb
  have hlc := hk.ok.lc
  obtain ⟨bx, ox, hbx, hx⟩ := sl_brows hk.i.b hb2
  subst hbx
  have hbu := hk.ok.bunch _ (List.getElem_mem hb2)
  have hgb := gradesB_in hk.ok hb2 h
  refine w_seq (fun K2 hK1 => ?_)
  refine w_region ?_
  refine w_box (v := .agg #[.int _ _, .int _ _]) (cs := [_, _]) want_none rfl rfl rfl hs (fun b3 w4 hs5 => ?_)
  refine w_pure want_none (y_assign (v := _) rfl rfl) rfl ?_
  refine w_nil ?_
  refine q_then (hK1 _ _ ?_)
  refine w_seq (fun K7 hK6 => ?_)
  refine w_seq (fun K9 hK8 => ?_)
  refine w_draw [] [(0, 0), (1, 0), (2, 0), (3, 1), (4, 1), (5, 1), (6, 0)] Try_mo (by kernel_rfl) hs5 (fun w10 hs11 => ?_)
  refine d_any rfl want_none rfl (fun _ => (y_move (v := .pointer _) rfl rfl)) ?_
  refine d_any rfl want_none rfl (fun _ => (y_nilCheck rfl rfl)) ?_
  refine d_any rfl want_none rfl (fun _ => (y_fieldAddr (o := 4) (i := 2) Try.underlying145 rfl Try.sizeOf143 rfl rfl rfl)) ?_
  refine d_take rfl want_none rfl hs11 (fun _ hq => (y_load1 Try.isAgg143 hq.tail.tail rfl rfl (show Ats _ _ _ _ [_] from Ats.part hb 4 1))) ?_
  refine d_take rfl want_none rfl hs11 (fun _ hq => (y_loadN (vs := [_, _]) Try.isAgg124 Try.sizeOf124 hq rfl rfl (ats_own (i := 0) (vs := [_, _]) rfl rfl))) ?_
  refine d_take rfl want_none rfl hs11 (fun _ hq => (K_look1N (i := 1) (l := [(b : Int), h]) (z := .int .i64 0) Try.underlying143 key124 rfl Try.zeroValue3 hq rfl rfl rfl rfl rfl rfl hf)) ?_
  refine d_any rfl want_none rfl (fun _ => (y_assign (v := .int _ _) rfl rfl)) ?_
  refine d_nil ?_
  refine q_then (hK8 _ _ ?_)
  refine w_seq (fun K13 hK12 => ?_)
  refine w_region ?_
  refine w_pure want_none (y_move (v := .int _ _) rfl rfl) rfl ?_
  refine w_pure want_none (y_gtr rfl rfl rfl rfl) rfl ?_
  refine w_nil ?_
  refine q_then (hK12 _ _ ?_)
  refine w_cond rfl rfl (fun h14 => ?_) (fun h14 => ?_)
  ·
   exfalso
   try simp only [Bool.not_eq_true', Bool.not_eq_false', decide_eq_true_eq, decide_eq_false_iff_not, Int.not_lt, Int.not_le] at h14
   omega
  ·
   try simp only [Bool.not_eq_true', Bool.not_eq_false', decide_eq_true_eq, decide_eq_false_iff_not, Int.not_lt, Int.not_le] at h14
   refine w_skip ?_
   refine q_then (hK6 _ _ ?_)
   refine w_seq (fun K16 hK15 => ?_)
   refine w_region ?_
   refine w_pure want_none (y_assign (v := _) rfl rfl) rfl ?_
   refine w_nil ?_
   refine q_then (hK15 _ _ ?_)
   refine w_seq (fun K18 hK17 => ?_)
   refine w_draw [11] [(0, 0), (1, 0), (2, 0), (3, 0), (4, 1), (5, 0), (6, 1), (7, 0), (8, 0), (9, 1), (10, 2), (11, 3)] Try_mo (by kernel_rfl) hs11 (fun w19 hs20 => ?_)
   refine d_any rfl want_none rfl (fun _ => (y_move (v := .pointer _) rfl rfl)) ?_
   refine d_any rfl want_none rfl (fun _ => (y_nilCheck rfl rfl)) ?_
   refine d_any rfl want_none rfl (fun _ => (y_fieldAddr (o := 0) (i := 0) Try.underlying145 rfl Try.sizeOf26 rfl rfl rfl)) ?_
   refine d_any rfl want_none rfl (fun _ => (y_fieldAddr (o := 1) (i := 1) Try.underlying26 rfl Try.sizeOf23 rfl rfl rfl)) ?_
   refine d_take rfl want_none rfl hs20 (fun _ hq => (y_load1 Try.isAgg23 hq.tail.tail rfl rfl (show Ats _ _ _ _ [_] from Ats.part hb 1 1))) ?_
   refine d_any rfl want_none rfl (fun _ => (y_fieldAddr (o := 0) (i := 0) Try.underlying124 rfl Try.sizeOf3 rfl rfl rfl)) ?_
   refine d_take rfl want_none rfl hs20 (fun _ hq => (y_load1 Try.isAgg3 hq rfl rfl (ats_own (i := 0) (vs := [_]) rfl rfl))) ?_
   refine d_any rfl want_none rfl (fun _ => (y_indexS Try.underlying23 Try.sizeOf81 rfl rfl rfl rfl (i := b) rfl (by omega))) ?_
   refine d_any rfl want_none rfl (fun _ => (y_fieldAddr (o := 2) (i := 1) Try.underlying81 rfl Try.sizeOf34 rfl rfl rfl)) ?_
   refine d_take rfl want_none rfl hs20 (fun _ hq => (y_loadN (vs := [_, _]) Try.isAgg34 Try.sizeOf34 hq.tail.tail rfl rfl (show Ats _ _ _ _ [_, _] from Ats.part hx 2 2))) ?_
   refine d_eff rfl ?_
   refine w_alloc (cs := [_, _]) want_none Try.zeroValue34 rfl hs20 (fun b21 w22 hs23 => ?_)
   refine w_nil ?_
   refine qn ⟨hs23.tail, ?_⟩
   refine d_late rfl ?_
   refine w_store (i := 0) (v := .agg #[.int _ _, .int _ _]) (vs := [_, _]) want_none Try.sizeOf34 rfl rfl rfl rfl rfl (by simp [Value.oneCell']) hs23 rfl (Nat.le_of_ble_eq_true rfl) (fun w24 hs25 => ?_)
   refine w_nil ?_
   refine qn ?_
   refine d_nil ?_
   refine q_then (hK17 _ _ ?_)
   refine w_seq (fun K27 hK26 => ?_)
   refine w_seq (fun K29 hK28 => ?_)
   refine w_region ?_
   refine w_pure want_none (y_fieldAddr (o := 0) (i := 0) Try.underlying34 rfl Try.sizeOf3 rfl rfl rfl) rfl ?_
   refine w_pure want_none (y_load1 Try.isAgg3 hs25 rfl rfl (ats_own (i := 0) (vs := [_]) rfl rfl)) rfl ?_
   refine w_alloc (cs := [_]) want_none Try.zeroValue3 rfl hs25 (fun b30 w31 hs32 => ?_)
   refine w_store (i := 0) (v := .int _ _) (vs := [_]) want_none Try.sizeOf3 rfl rfl rfl rfl rfl (by simp [Value.oneCell']) hs32 rfl (Nat.le_of_ble_eq_true rfl) (fun w33 hs34 => ?_)
   refine w_nil ?_
   refine q_then (hK28 _ _ ?_)
   refine w_block ?_
   refine w_loop [6, 8, 9, 31, 32, 33, 34, 35, 36, 37, 38, 39, 40, 41, 42, 43, 44, 45, 46, 47, 48, 49] [6, 8] (fun k vs w => ∃ (q b8 : Nat), vs = [.int .i64 ((orG l.grades h (upto (l.bunches[b]'hb2).slo q) : Nat) : Int), .pointer (some ⟨b8, 0, none⟩)] ∧ (q : Int) ≤ (l.bunches[b]'hb2).shi + 1 - (l.bunches[b]'hb2).slo ∧ k = ((l.bunches[b]'hb2).shi + 1 - (l.bunches[b]'hb2).slo).toNat - q ∧ St w0 w ((b8, blk 3 [.int .i64 ((l.bunches[b]'hb2).slo + q)]) :: (b21, blk 34 [.int .i64 (l.bunches[b]'hb2).slo, .int .i64 (l.bunches[b]'hb2).shi]) :: (b3, blk 124 [.int .i64 (b : Int), .int .i64 h]) :: (mm, .map es ck) :: F)) (((l.bunches[b]'hb2).shi + 1 - (l.bunches[b]'hb2).slo).toNat) ?_ ?_
   ·
    exact ⟨0, _, rfl, by omega, by omega, by rw [show (l.bunches[b]'hb2).slo + ((0 : Nat) : Int) = (l.bunches[b]'hb2).slo by omega]; exact hs34⟩
   ·
    intro k vs μ w37 hI K36 hN35
    obtain ⟨q, b8, rfl, hq, rfl, hs⟩ := hI
    refine w_seq (fun K39 hK38 => ?_)
    refine w_seq (fun K41 hK40 => ?_)
    refine w_region ?_
    refine w_pure want_none (y_load1 Try.isAgg3 hs rfl rfl (ats_own (i := 0) (vs := [_]) rfl rfl)) rfl ?_
    refine w_pure want_none (y_fieldAddr (o := 1) (i := 1) Try.underlying34 rfl Try.sizeOf3 rfl rfl rfl) rfl ?_
    refine w_pure want_none (y_load1 Try.isAgg3 hs rfl rfl (ats_own (i := 1) (vs := [_]) rfl rfl)) rfl ?_
    refine w_pure want_none (y_leq rfl rfl rfl rfl) rfl ?_
    refine w_nil ?_
    refine q_then (hK40 _ _ ?_)
    refine w_cond rfl rfl (fun h42 => ?_) (fun h42 => ?_)
    ·
     try simp only [Bool.not_eq_true', Bool.not_eq_false', decide_eq_true_eq, decide_eq_false_iff_not, Int.not_lt, Int.not_le] at h42
     refine w_skip ?_
     refine q_then (hK38 _ _ ?_)
     refine w_seq (fun K44 hK43 => ?_)
     refine w_block ?_
     refine w_seq (fun K46 hK45 => ?_)
     have ho := ofG_to (gs := l.grades) (h := h) (s := (l.bunches[b]'hb2).slo + q) hlg.2
     have hol := orG_lt (gs := l.grades) (h := h) hlg.2 (upto (l.bunches[b]'hb2).slo q)
     have hsl := (shl_5 ho.2.1).1
     refine w_region ?_
     refine w_pure want_none (y_move (v := .pointer _) rfl rfl) rfl ?_
     refine w_pure want_none (y_nilCheck rfl rfl) rfl ?_
     refine w_pure want_none (y_fieldAddr (o := 0) (i := 0) Try.underlying145 rfl Try.sizeOf26 rfl rfl rfl) rfl ?_
     refine w_pure want_none (y_fieldAddr (o := 0) (i := 0) Try.underlying26 rfl Try.sizeOf22 rfl rfl rfl) rfl ?_
     refine w_pure want_none (y_load1 Try.isAgg22 hs.tail.tail.tail.tail rfl rfl (show Ats _ _ _ _ [_] from Ats.part hb 0 1)) rfl ?_
     refine w_pure want_none (y_makeFunc (fv := []) (cv := [_, _]) rfl rfl rfl rfl) rfl ?_
     refine w_call want_none Try.call109 rfl rfl rfl rfl ((c109 _ l.grades _ (by omega) hk.i.g.cons.cons.cons.cons Try.call110 #[] #[.pointer (some ⟨b3, 0, none⟩), .pointer (some ⟨b8, 0, none⟩)] (fun g => decide (g.hands ≤ h ∧ (l.bunches[b]'hb2).slo + q ≤ g.scars)) (fun g _ w hs => c110 g _ _ (b : Int) h ((l.bunches[b]'hb2).slo + q) (ats_own (i := 2) (vs := [_, _]) rfl rfl) (ats_own (i := 0) (vs := [_]) rfl rfl) hs) hs).mono (fun v w' h => by rw [fidx_of] at h; exact h)) ?_
     rintro _ w48 ⟨rfl, hs49⟩
     refine w_pure want_none (y_assign (v := .int _ _) rfl rfl) rfl ?_
     refine w_nil ?_
     refine q_then (hK45 _ _ ?_)
     refine w_region ?_
     refine w_pure want_none (y_move (v := .int _ _) rfl rfl) rfl ?_
     refine w_pure want_none (y_move (v := .int _ _) rfl rfl) rfl ?_
     refine w_pure want_none (y_add rfl rfl rfl rfl (by omega) (by omega)) rfl ?_
     refine w_pure want_none (y_shl (x := 1) (y := (ofG l.grades 0 h ((l.bunches[b]'hb2).slo + q) + 1).toNat) rfl rfl rfl rfl rfl (by first | rfl | omega) (by first | omega | exact shr_lt (by omega)) (by first | omega | exact shr_lt (by omega))) rfl ?_
     refine w_pure want_none (y_or (x := orG l.grades h (upto (l.bunches[b]'hb2).slo q)) (y := 1 <<< (ofG l.grades 0 h ((l.bunches[b]'hb2).slo + q) + 1).toNat) rfl rfl rfl rfl (by first | rfl | omega) (by first | rfl | omega) (by first | omega | exact shr_lt (by omega)) (by first | omega | exact shr_lt (by omega))) rfl ?_
     refine w_pure want_none (y_assign (v := .int _ _) rfl rfl) rfl ?_
     refine w_nil ?_
     refine q_blk_normal ?_
     refine q_then (hK43 _ _ ?_)
     refine w_seq (fun K51 hK50 => ?_)
     refine w_seq (fun K53 hK52 => ?_)
     refine w_region ?_
     refine w_pure want_none (y_load1 Try.isAgg3 hs49 rfl rfl (ats_own (i := 0) (vs := [_]) rfl rfl)) rfl ?_
     refine w_nil ?_
     refine q_then (hK52 _ _ ?_)
     refine w_region ?_
     refine w_alloc (cs := [_]) want_none Try.zeroValue3 rfl hs49 (fun b54 w55 hs56 => ?_)
     refine w_store (i := 0) (v := .int _ _) (vs := [_]) want_none Try.sizeOf3 rfl rfl rfl rfl rfl (by simp [Value.oneCell']) hs56 rfl (Nat.le_of_ble_eq_true rfl) (fun w57 hs58 => ?_)
     refine w_nil ?_
     refine q_then (hK50 _ _ ?_)
     refine w_region ?_
     refine w_pure want_none (y_load1 Try.isAgg3 hs58 rfl rfl (ats_own (i := 0) (vs := [_]) rfl rfl)) rfl ?_
     refine w_pure want_none (y_add rfl rfl rfl rfl (by omega) (by omega)) rfl ?_
     refine w_store (i := 0) (v := .int _ _) (vs := [_]) want_none Try.sizeOf3 rfl rfl rfl rfl rfl (by simp [Value.oneCell']) hs58 rfl (Nat.le_of_ble_eq_true rfl) (fun w59 hs60 => ?_)
     refine w_nil ?_
     refine q_then (hN35 _ _ (Nx.intro (((l.bunches[b]'hb2).shi + 1 - (l.bunches[b]'hb2).slo).toNat - (q + 1)) (by omega) (by repeat (first | exact agree_mix | refine agree_upd rfl ?_ | refine agree_updL rfl ?_ _ | refine agree_mixin rfl ?_)) ?_))
     exact ⟨q + 1, _, ptr_i (by rw [upto_snoc, orG_snoc]), by omega, rfl, by rw [show (l.bunches[b]'hb2).slo + ((q + 1 : Nat) : Int) = (l.bunches[b]'hb2).slo + q + 1 by omega]; exact drop_2nd hs60⟩
    ·
     try simp only [Bool.not_eq_true', Bool.not_eq_false', decide_eq_true_eq, decide_eq_false_iff_not, Int.not_lt, Int.not_le] at h42
     refine w_exit ?_
     refine q_then_exit ?_
     refine q_then_exit ?_
     refine q_blk_this ?_
     refine q_then (hK26 _ _ ?_)
     refine w_seq (fun K62 hK61 => ?_)
     have hqc : q = ((l.bunches[b]'hb2).shi + 1 - (l.bunches[b]'hb2).slo).toNat := by omega
     have hgr : gradesB l (bunchOf l b) h = orG l.grades h (upto (l.bunches[b]'hb2).slo q) := by rw [bunch_at hb2, hqc]; rfl
     refine w_draw [6] [(0, 0), (1, 0), (2, 0), (3, 1), (4, 1), (5, 0), (6, 3)] Try_mo (by kernel_rfl) hs (fun w63 hs64 => ?_)
     refine d_any rfl want_none rfl (fun _ => (y_move (v := .pointer _) rfl rfl)) ?_
     refine d_any rfl want_none rfl (fun _ => (y_nilCheck rfl rfl)) ?_
     refine d_any rfl want_none rfl (fun _ => (y_fieldAddr (o := 4) (i := 2) Try.underlying145 rfl Try.sizeOf143 rfl rfl rfl)) ?_
     refine d_take rfl want_none rfl hs64 (fun _ hq => (y_load1 Try.isAgg143 hq.tail.tail.tail.tail rfl rfl (show Ats _ _ _ _ [_] from Ats.part hb 4 1))) ?_
     refine d_take rfl want_none rfl hs64 (fun _ hq => (y_loadN (vs := [_, _]) Try.isAgg124 Try.sizeOf124 hq rfl rfl (ats_own (i := 2) (vs := [_, _]) rfl rfl))) ?_
     refine d_any rfl want_none rfl (fun _ => (y_move (v := .int _ _) rfl rfl)) ?_
     refine d_late rfl ?_
     refine K_mapAdd (i := 3) (l := [(b : Int), h]) want_none Try.underlying143 key124 rfl rfl rfl rfl rfl rfl rfl rfl hs64 rfl hf (fun w65 hs66 => ?_)
     refine w_nil ?_
     refine qn ?_
     refine d_nil ?_
     refine q_then (hK61 _ _ ?_)
     refine w_seq (fun K68 hK67 => ?_)
     refine w_region ?_
     refine w_pure want_none (y_move (v := .int _ _) rfl rfl) rfl ?_
     refine w_pure want_none (y_assign (v := .int _ _) rfl rfl) rfl ?_
     refine w_nil ?_
     refine q_then (hK67 _ _ ?_)
     refine w_ret ?_
     refine q_ret (l := [.tmp 4]) (vs := [_]) rfl ⟨⟨rfl, show _ = (.int _ _ : Value) from rfl⟩, trivial⟩ ?_
     exact ⟨by rw [hgr]; rfl, by rw [hgr]; exact hs66.tail.tail.tail⟩

theorem grades_con {w0 w : World} {X M F : List (Nat × Obj)} (l : Lot) (p : At3) (but lb mm : Nat) (hk : LK w0 F l p but lb mm) (b : Nat) (hb2 : b < l.bunches.length) (h : Int) (hM : Memo l mm M) (hs : St w0 w (X ++ (M ++ F))) :
    Con Try.prog 79 [.pointer (some ⟨lb, 0, none⟩), .agg #[.int .i64 (b : Int), .int .i64 h]] w fun v w' => v = .int .i64 ((gradesB l (bunchOf l b) h : Nat) : Int) ∧ ∃ M', Memo l mm M' ∧ St w0 w' (X ++ (M' ++ F)) := by
  obtain ⟨es, ck, rfl, hes⟩ := hM
  have hs1 : St w0 w ((mm, .map es ck) :: (X ++ F)) := hs.perm (perm_mid X [(mm, .map es ck)] F)
  rcases K_findKey key124 (l := [(b : Int), h]) rfl es.toList (fun e he => by obtain ⟨b', h', _, h2, _⟩ := hes e he; exact ⟨_, rfl, h2⟩) with ⟨hf, hne⟩ | ⟨j, e, hf, hmem, hkey⟩
  · refine (c79n l p but lb mm hk.app b hb2 h es ck hf hs1).mono ?_
    rintro v w' ⟨rfl, hs2⟩
    refine ⟨rfl, _, ⟨_, _, rfl, fun e he => ?_⟩, hs2.perm (perm_mid [_] X F)⟩
    rw [Array.toList_push, List.mem_append] at he
    rcases he with he | he
    · exact hes e he
    · rw [List.mem_singleton] at he
      subst he
      exact ⟨b, h, hb2, rfl, rfl⟩
  · obtain ⟨b', h', hb', h2, h3⟩ := hes e hmem
    have e1 := ia_inj (h2.symm.trans hkey)
    injection e1 with e1 e2
    injection e2 with e2 _
    have e3 : b' = b := by omega
    subst e2 e3
    rw [h3] at hf
    refine (c79f l p but lb mm hk.app b' hb2 h' es ck j _ (by have := gradesB_in hk.ok hb2 h'; omega) hf hs1).mono ?_
    rintro v w' ⟨rfl, hs2⟩
    exact ⟨rfl, _, ⟨es, ck, rfl, hes⟩, hs2.perm (perm_mid [_] X F)⟩
theorem own_snoc {v : Value} {l : List Int} {z : Int} {B : List (Nat × Obj)} (h : Rt.Own v 3 1 (l.length + 1) (iv l ++ [[Value.int .i64 z]].flatten) B) : Rt.Own v 3 1 (l ++ [z]).length (iv (l ++ [z])) B := by simpa [iv] using h
theorem listL_yes {x i : Nat} (h : ((bit x i : Nat) : Int) = 1) : listL x (i + 1) = listL x i ++ [(i : Int)] := by simp only [listL]; rw [if_pos (by omega)]
theorem listL_no {x i : Nat} (h : ¬ ((bit x i : Nat) : Int) = 1) : listL x (i + 1) = listL x i := by simp only [listL]; rw [if_neg (by omega), List.append_nil]
theorem listL_le (x : Nat) : ∀ n, (listL x n).length ≤ n
  | 0 => by simp [listL]
  | n + 1 => by have := listL_le x n; simp only [listL, List.length_append]; split <;> simp <;> omega
theorem c75 {w0 w : World} {F : List (Nat × Obj)} (x n : Nat) (hx : x < 1000) (hn : n ≤ 40) (hs : St w0 w F) :
  Con Try.prog 75 [.int .i64 x, .int .i64 n] w fun v w' => ∃ B, Rt.Own v 3 1 (listL x n).length (iv (listL x n)) B ∧ St w0 w' (B ++ F) := by
  refine con_of_wc (n := 21) Try.func75 rfl rfl (Nat.le_of_ble_eq_true rfl) ?_
  refine w_seq (fun K2 hK1 => ?_)
  refine w_region ?_
  refine w_pure want_none (y_assign (v := _) rfl rfl) rfl ?_
  refine w_nil ?_
  refine q_then (hK1 _ _ ?_)
  refine w_seq (fun K4 hK3 => ?_)
  refine w_seq (fun K6 hK5 => ?_)
  refine w_region ?_
  refine w_pure want_none (y_move (v := .int _ _) rfl rfl) rfl ?_
  refine w_pure want_none (y_move (v := _) rfl rfl) rfl ?_
  refine w_nil ?_
  refine q_then (hK5 _ _ ?_)
  refine w_block ?_
  refine w_loop [4, 5, 7, 8, 9, 10, 11, 12, 13, 14, 15, 16, 17, 18, 19] [4, 7] (fun k vs w => ∃ (i : Nat) (v : Value) (B : List (Nat × Obj)), vs = [v, .int .i64 i] ∧ i ≤ n ∧ k = n - i ∧ Rt.Own v 3 1 (listL x i).length (iv (listL x i)) B ∧ St w0 w (B ++ F)) (n) ?_ ?_
  ·
   exact ⟨0, _, [], rfl, by omega, by omega, own_nil 3 1, hs⟩
  ·
   intro k vs μ w9 hI K8 hN7
   obtain ⟨i, v, B, rfl, hia, rfl, hown, hs⟩ := hI
   have hll := listL_le x i
   refine w_seq (fun K11 hK10 => ?_)
   refine w_region ?_
   refine w_pure want_none (y_lss rfl rfl rfl rfl) rfl ?_
   refine w_nil ?_
   refine q_then (hK10 _ _ ?_)
   refine w_seq (fun K13 hK12 => ?_)
   refine w_cond rfl rfl (fun h14 => ?_) (fun h14 => ?_)
   ·
    try simp only [Bool.not_eq_true', Bool.not_eq_false', decide_eq_true_eq, decide_eq_false_iff_not, Int.not_lt, Int.not_le] at h14
    refine w_skip ?_
    refine q_then (hK12 _ _ ?_)
    refine w_seq (fun K16 hK15 => ?_)
    refine w_block ?_
    refine w_seq (fun K18 hK17 => ?_)
    refine w_region ?_
    refine w_pure want_none (y_move (v := .int _ _) rfl rfl) rfl ?_
    refine w_pure want_none (y_assign (v := .int _ _) rfl rfl) rfl ?_
    refine w_nil ?_
    refine q_then (hK17 _ _ ?_)
    refine w_seq (fun K20 hK19 => ?_)
    refine w_region ?_
    refine w_pure want_none (y_move (v := .int _ _) rfl rfl) rfl ?_
    refine w_pure want_none (y_move (v := .int _ _) rfl rfl) rfl ?_
    refine w_pure want_none (y_shr (x := x) (y := i) rfl rfl rfl rfl (by first | rfl | omega) (by first | rfl | omega) (by first | omega | exact shr_lt (by omega))) rfl ?_
    refine w_pure want_none (show Yd _ _ _ _ (.int .i64 ((bit x i : Nat) : Int)) from (y_and (x := _) (y := 1) rfl rfl rfl rfl rfl rfl (by first | omega | exact shr_lt (by omega)) (by first | omega | exact shr_lt (by omega)))) rfl ?_
    refine w_pure want_none (y_eql rfl rfl rfl rfl) rfl ?_
    refine w_nil ?_
    refine q_then (hK19 _ _ ?_)
    refine w_cond rfl rfl (fun h21 => ?_) (fun h21 => ?_)
    ·
     try simp only [Bool.not_eq_true', Bool.not_eq_false', decide_eq_true_eq, decide_eq_false_iff_not, Int.not_lt, Int.not_le] at h21
     refine w_region ?_
     refine w_pure want_none (y_move (v := v) rfl rfl) rfl ?_
     refine w_pure want_none (y_move (v := .int _ _) rfl rfl) rfl ?_
     refine w_bslice (ps := [(0, _)]) (pv := [(0, .int _ _)]) (cs := [_]) want_none rfl rfl (fun w => Try_I_fb1 _ w) hs (fun b22 w23 hs24 => ?_)
     refine w_append (X := (_ :: [])) (B := B) (rows := [[_]]) (sz := 1) (bytes := 8) want_none Try.underlying37 Try_info3 rfl rfl rfl rfl rfl rfl rfl rfl rfl hs24 hown (sl_own (i := 0) rfl (by simp) rfl) rfl (by simp) (by simp [Value.oneCell']) (by simp only [maxLen]; omega) (by omega) (fun v25 w26 B27 ho28 hs29 => ?_)
     replace hs29 := (show St _ _ (_ :: B27 ++ (F)) from hs29)
     refine w_pure want_none (y_assign (v := v25) rfl rfl) rfl ?_
     refine w_nil ?_
     refine q_blk_normal ?_
     refine q_then (hK15 _ _ ?_)
     refine w_region ?_
     refine w_pure want_none (y_add rfl rfl rfl rfl (by omega) (by omega)) rfl ?_
     refine w_pure want_none (y_move (v := .int _ _) rfl rfl) rfl ?_
     refine w_nil ?_
     refine q_then (hN7 _ _ (Nx.intro (n - (i + 1)) (by omega) (by repeat (first | exact agree_mix | refine agree_upd rfl ?_ | refine agree_updL rfl ?_ _ | refine agree_mixin rfl ?_)) ?_))
     exact ⟨i + 1, _, _, rfl, by omega, rfl, by rw [listL_yes (by assumption)]; exact own_snoc ho28, hs29.tail⟩
    ·
     try simp only [Bool.not_eq_true', Bool.not_eq_false', decide_eq_true_eq, decide_eq_false_iff_not, Int.not_lt, Int.not_le] at h21
     refine w_skip ?_
     refine q_blk_normal ?_
     refine q_then (hK15 _ _ ?_)
     refine w_region ?_
     refine w_pure want_none (y_add rfl rfl rfl rfl (by omega) (by omega)) rfl ?_
     refine w_pure want_none (y_move (v := .int _ _) rfl rfl) rfl ?_
     refine w_nil ?_
     refine q_then (hN7 _ _ (Nx.intro (n - (i + 1)) (by omega) (by repeat (first | exact agree_mix | refine agree_upd rfl ?_ | refine agree_updL rfl ?_ _ | refine agree_mixin rfl ?_)) ?_))
     exact ⟨i + 1, v, B, rfl, by omega, rfl, by rw [listL_no (by assumption)]; exact hown, hs⟩
   ·
    try simp only [Bool.not_eq_true', Bool.not_eq_false', decide_eq_true_eq, decide_eq_false_iff_not, Int.not_lt, Int.not_le] at h14
    refine w_exit ?_
    refine q_then_exit ?_
    refine q_then_exit ?_
    refine q_blk_this ?_
    refine q_then (hK3 _ _ ?_)
    refine w_seq (fun K31 hK30 => ?_)
    refine w_region ?_
    refine w_pure want_none (y_move (v := v) rfl rfl) rfl ?_
    refine w_pure want_none (y_assign (v := v) rfl rfl) rfl ?_
    refine w_nil ?_
    refine q_then (hK30 _ _ ?_)
    refine w_ret ?_
    refine q_ret (l := [.tmp 4]) (vs := [_]) rfl ⟨⟨rfl, show _ = (v : Value) from rfl⟩, trivial⟩ ?_
    have hin : i = n := by omega
    subst hin
    exact ⟨B, hown, hs⟩

end Go.Proofs
/- Walks of this seat, printed by gen.py over the engine: what each function returns, in whatever world. No conditions but those of each contract. -/
set_option linter.unusedVariables false
set_option linter.unusedSimpArgs false
set_option maxRecDepth 20000
namespace Go.Proofs
open Go.Rt Go.Rt.Ha
attribute [local irreducible] WL WC Con Yd At Ats Sl Agree DW
theorem Try_J_fb2 (x0 : Int) (w : World) : (Instr.build 34 [(0, .int .i64 x0)].toArray).run Try.prog w = .ok (.agg #[.int .i64 x0, .int .i64 0]) w := by kernel_rfl
theorem Try_J_fb3 (x0 : Int) (x1 : Int) (w : World) : (Instr.build 34 [(0, .int .i64 x0), (1, .int .i64 x1)].toArray).run Try.prog w = .ok (.agg #[.int .i64 x0, .int .i64 x1]) w := by kernel_rfl
theorem Try_J_fb4 (x0 : Int) (x1 : Int) (w : World) : (Instr.build 124 [(0, .int .i64 x0), (1, .int .i64 x1)].toArray).run Try.prog w = .ok (.agg #[.int .i64 x0, .int .i64 x1]) w := by kernel_rfl
theorem bounds_perm {p s t u v : Nat × Obj} (X M F : List (Nat × Obj)) : (p :: s :: t :: u :: v :: (X ++ (M ++ F))).Perm ((s :: t :: M) ++ (p :: u :: v :: (X ++ F))) :=
  (perm_mid [p] [s, t] (u :: v :: (X ++ (M ++ F)))).trans (List.Perm.append_left [s, t] (perm_mid (p :: u :: v :: X) M F))
theorem bounds_back {w0 w : World} {a b c : Nat × Obj} {X M F : List (Nat × Obj)} (h : St w0 w (M ++ (a :: b :: c :: (X ++ F)))) : St w0 w (X ++ (M ++ F)) := by
  have h1 := (h.perm (perm_mid M [a, b, c] (X ++ F))).tail.tail.tail
  exact St.perm (L := M ++ (X ++ F)) h1 (perm_mid M X F)
theorem span_take {b : Nat} {ws : List (List Int)} {i : Nat} (h : i < ws.length) : spanW b (ws.take (i + 1)) = (min (spanW b (ws.take i)).1 (at_ ws[i] b), max (spanW b (ws.take i)).2 (at_ ws[i] b)) := fold_take _ _ h
theorem setW_take {l : Lot} {b : Nat} {ws : List (List Int)} {i : Nat} (h : i < ws.length) : setW l b (ws.take (i + 1)) = setW l b (ws.take i) ||| gradesB l (bunchOf l b) (at_ ws[i] b) := fold_take _ _ h
theorem bounds_cells {b5 b4 : Nat} {M : List (Nat × Obj)} {s s' : Nat} {x y x' y' : Int} (h1 : s = s') (h2 : x = x') (h3 : y = y') : ((b5, blk 3 [.int .i64 (s : Int)]) :: (b4, blk 34 [.int .i64 x, .int .i64 y]) :: M : List (Nat × Obj)) = (b5, blk 3 [.int .i64 (s' : Int)]) :: (b4, blk 34 [.int .i64 x', .int .i64 y']) :: M := by subst h1 h2 h3; rfl
theorem c71 {w0 w : World} {X M F : List (Nat × Obj)} (l : Lot) (p : At3) (but lb mm : Nat) (hk : LK w0 F l p but lb mm) (b : Nat) (hb2 : b < l.bunches.length) (hM : Memo l mm M) (hs : St w0 w (X ++ (M ++ F))) :
  Con Try.prog 71 [.pointer (some ⟨lb, 0, none⟩), .int .i64 (b : Int)] w fun v w' => v = .tuple #[.agg #[.int .i64 (spanW b (Ha.ways l but)).1, .int .i64 (spanW b (Ha.ways l but)).2], .int .i64 ((setW l b (Ha.ways l but) : Nat) : Int)] ∧ ∃ M', Memo l mm M' ∧ St w0 w' (X ++ (M' ++ F)) := by
  refine con_of_wcM (n := 35) Try.func71 rfl rfl (Nat.le_of_ble_eq_true rfl) ?_
  have hbt := hk.bt
  have hlg := hk.ok.lg
  have hlb := hk.ok.lb
  have hlc := hk.ok.lc
  refine w_seq (fun K2 hK1 => ?_)
  refine w_region ?_
  refine w_box (v := .pointer _) (cs := [_]) want_none rfl rfl rfl hs (fun b3 w4 hs5 => ?_)
  refine w_box (v := .int _ _) (cs := [_]) want_none rfl rfl rfl hs5 (fun b6 w7 hs8 => ?_)
  refine w_alloc (cs := [_, _]) want_none Try.zeroValue34 rfl hs8 (fun b9 w10 hs11 => ?_)
  refine w_alloc (cs := [_]) want_none Try.zeroValue3 rfl hs11 (fun b12 w13 hs14 => ?_)
  refine w_nil ?_
  refine q_then (hK1 _ _ ?_)
  refine w_seq (fun K16 hK15 => ?_)
  refine w_region ?_
  refine w_pure want_none (y_build (ps := [(0, _)]) (pv := [(0, .int _ _)]) rfl rfl (fun w => Try_J_fb2 _ w)) rfl ?_
  refine w_store (i := 1) (v := .agg #[.int _ _, .int _ _]) (vs := [_, _]) want_none Try.sizeOf34 rfl rfl rfl rfl rfl (by simp [Value.oneCell']) hs14 rfl (Nat.le_of_ble_eq_true rfl) (fun w17 hs18 => ?_)
  refine w_nil ?_
  refine q_then (hK15 _ _ ?_)
  refine w_seq (fun K20 hK19 => ?_)
  refine w_seq (fun K22 hK21 => ?_)
  refine w_region ?_
  refine w_pure want_none (y_load1 Try.isAgg104 hs18 rfl rfl (ats_own (i := 3) (vs := [_]) rfl rfl)) rfl ?_
  refine w_call want_none Try.call78 rfl rfl rfl rfl (c78 _ hs18) ?_
  rintro _ w24 ⟨bp, rfl, hs25⟩
  refine w_nil ?_
  refine q_then (hK21 _ _ ?_)
  refine w_block ?_
  refine w_range (_ :: _ :: M) (fun i Bx => ∃ M, Bx = (b12, blk 3 [.int .i64 ((setW l b ((Ha.ways l but).take i) : Nat) : Int)]) :: (b9, blk 34 [.int .i64 (spanW b ((Ha.ways l but).take i)).1, .int .i64 (spanW b ((Ha.ways l but).take i)).2]) :: M ∧ Memo l mm M) (fun _ _ => False) rfl rfl rfl Try.call106 (ways_iter l p but lb mm hk.app.cons.cons.cons bp (ats_own (i := 0) (vs := [_]) rfl rfl)) hs25 (bounds_perm X M F) ⟨M, rfl, hM⟩ ?_ ?_ ?_
  ·
   intro lp i hi Bx Xr Xr2 w27 hJ hs K hK26
   obtain ⟨M, rfl, hM⟩ := hJ
   have hi2 : i < (Ha.ways l but).length := by simpa using hi
   rw [List.getElem_map, List.getElem_map]
   have hpl := padw_len hk.ok (List.mem_map.2 ⟨_, List.getElem_mem hi2, rfl⟩)
   have hat := pad6_at (Ha.ways l but)[i] b
   obtain ⟨h, hh⟩ : ∃ h, h = pad6 (Ha.ways l but)[i] := ⟨_, rfl⟩
   rw [← hh] at hpl hat ⊢
   have hh6 := hpl.1
   have hgd := getD_12 hpl.2 b
   have hsi := span_in hk.ok (but := but) b i
   have hsw := setW_lt hk.ok b ((Ha.ways l but).take i)
   have hgr := gradesB_in hk.ok hb2 (h.getD b 0)
   have hx3 : Ats w0 ((bp, blk 104 [.pointer (some ⟨lb, 0, none⟩)]) :: (b6, blk 3 [.int .i64 (b : Int)]) :: (b3, blk 104 [.pointer (some ⟨lb, 0, none⟩)]) :: (X ++ F)) b6 0 [.int .i64 (b : Int)] := ats_own (i := 1) rfl rfl
   have hx2 : Ats w0 ((bp, blk 104 [.pointer (some ⟨lb, 0, none⟩)]) :: (b6, blk 3 [.int .i64 (b : Int)]) :: (b3, blk 104 [.pointer (some ⟨lb, 0, none⟩)]) :: (X ++ F)) b3 0 [.pointer (some ⟨lb, 0, none⟩)] := ats_own (i := 2) rfl rfl
   replace hs := (show St _ _ (_ :: _ :: (M ++ (Xr ++ (_ :: _ :: _ :: (X ++ F))))) from hs)
   refine w_region ?_
   refine w_alloc (cs := iv [0, 0, 0, 0, 0, 0]) want_none Try.zeroValue121 rfl hs (fun b28 w29 hs30 => ?_)
   refine w_storeI (i := 0) (l := _) want_none Try.sizeOf121 (by first | omega | rfl | (simp only [hh6, List.length_map, List.length_set, List.length_append, List.length_take, List.length_drop, List.length_replicate, List.length_cons, List.length_nil] <;> omega)) rfl rfl rfl rfl rfl hs30 rfl (by first | omega | rfl | (simp only [hh6, List.length_map, List.length_set, List.length_append, List.length_take, List.length_drop, List.length_replicate, List.length_cons, List.length_nil] <;> omega)) (fun w31 hs32 => ?_)
   refine w_nil ?_
   refine q_then (hK26 _ _ (_ :: _ :: _ :: M) hs32 (fun w33 hs34 => ?_))
   replace hs34 := (show St _ _ (_ :: _ :: _ :: M ++ (Xr2 ++ (_ :: _ :: _ :: X ++ (F)))) from hs34)
   refine w_block ?_
   refine w_seq (fun K36 hK35 => ?_)
   refine w_draw [13] [(0, 0), (1, 1), (2, 1), (3, 0), (4, 1), (5, 0), (6, 0), (7, 1), (8, 1), (9, 0), (10, 1), (11, 0), (12, 0), (13, 3)] Try_mo (by kernel_rfl) hs34 (fun w37 hs38 => ?_)
   refine d_any rfl want_none rfl (fun _ => (y_fieldAddr (o := 0) (i := 0) Try.underlying34 rfl Try.sizeOf3 rfl rfl rfl)) ?_
   refine d_take rfl want_none rfl hs38 (fun _ hq => (y_load1 Try.isAgg3 hq rfl rfl (ats_own (i := 2) (vs := [_]) rfl rfl))) ?_
   refine d_take rfl want_none rfl hs38 (fun _ hq => (y_load1 Try.isAgg3 hq.tail.tail.tail.drop.drop rfl rfl hx3)) ?_
   refine d_any rfl want_none rfl (fun _ => (y_indexA Try.underlying121 Try.sizeOf3 rfl rfl rfl rfl (i := b) (by first | rfl | omega) (by omega))) ?_
   refine d_take rfl want_none rfl hs38 (fun _ hq => (y_load1 Try.isAgg3 hq rfl rfl (ats_ints (i := 0) (j := b) rfl (by first | omega | rfl | (simp only [hh6, List.length_map, List.length_set, List.length_append, List.length_take, List.length_drop, List.length_replicate, List.length_cons, List.length_nil] <;> omega))))) ?_
   refine d_any rfl want_none rfl (fun _ => (y_min2 rfl rfl rfl rfl)) ?_
   refine d_any rfl want_none rfl (fun _ => (y_fieldAddr (o := 1) (i := 1) Try.underlying34 rfl Try.sizeOf3 rfl rfl rfl)) ?_
   refine d_take rfl want_none rfl hs38 (fun _ hq => (y_load1 Try.isAgg3 hq rfl rfl (ats_own (i := 2) (vs := [_]) rfl rfl))) ?_
   refine d_take rfl want_none rfl hs38 (fun _ hq => (y_load1 Try.isAgg3 hq.tail.tail.tail.drop.drop rfl rfl hx3)) ?_
   refine d_any rfl want_none rfl (fun _ => (y_indexA Try.underlying121 Try.sizeOf3 rfl rfl rfl rfl (i := b) (by first | rfl | omega) (by omega))) ?_
   refine d_take rfl want_none rfl hs38 (fun _ hq => (y_load1 Try.isAgg3 hq rfl rfl (ats_ints (i := 0) (j := b) rfl (by first | omega | rfl | (simp only [hh6, List.length_map, List.length_set, List.length_append, List.length_take, List.length_drop, List.length_replicate, List.length_cons, List.length_nil] <;> omega))))) ?_
   refine d_any rfl want_none rfl (fun _ => (y_max2 rfl rfl rfl rfl)) ?_
   refine d_any rfl want_none rfl (fun _ => (y_build (ps := [(0, _), (1, _)]) (pv := [(0, .int _ _), (1, .int _ _)]) rfl rfl (fun w => Try_J_fb3 _ _ w))) ?_
   refine d_late rfl ?_
   refine w_store (i := 2) (v := .agg #[.int _ _, .int _ _]) (vs := [_, _]) want_none Try.sizeOf34 rfl rfl rfl rfl rfl (by simp [Value.oneCell']) hs38 rfl (Nat.le_of_ble_eq_true rfl) (fun w39 hs40 => ?_)
   refine w_nil ?_
   refine qn ?_
   refine d_nil ?_
   refine q_then (hK35 _ _ ?_)
   refine w_drawC (C := fun w => ∃ M, Memo l mm M ∧ St w0 w ((b28, blk 121 (iv h)) :: (b12, blk 3 [.int .i64 ((setW l b ((Ha.ways l but).take i) : Nat) : Int)]) :: (b9, blk 34 [.int .i64 (min (spanW b ((Ha.ways l but).take i)).1 (h.getD b 0)), .int .i64 (max (spanW b ((Ha.ways l but).take i)).2 (h.getD b 0))]) :: (M ++ (Xr2 ++ ((bp, blk 104 [.pointer (some ⟨lb, 0, none⟩)]) :: (b6, blk 3 [.int .i64 (b : Int)]) :: (b3, blk 104 [.pointer (some ⟨lb, 0, none⟩)]) :: (X ++ F)))))) [9] [(0, 1), (1, 1), (2, 1), (3, 1), (4, 0), (5, 1), (6, 0), (7, 2), (8, 0), (9, 3)] Try_mo (by kernel_rfl) ⟨_, hM, hs40⟩ (fun _ ⟨M, h1, h2⟩ => ⟨M, h1, h2.drew⟩) (fun w41 ⟨M, hM, hs42⟩ => ?_)
   refine d_takeC rfl want_none rfl ⟨_, hM, hs42⟩ (fun _ ⟨M, hM, hq⟩ => (y_load1 Try.isAgg3 hq rfl rfl (ats_own (i := 1) (vs := [_]) rfl rfl))) ?_
   refine d_takeC rfl want_none rfl ⟨_, hM, hs42⟩ (fun _ ⟨M, hM, hq⟩ => (y_load1 Try.isAgg104 hq.tail.tail.tail.drop.drop rfl rfl hx2)) ?_
   refine d_takeC rfl want_none rfl ⟨_, hM, hs42⟩ (fun _ ⟨M, hM, hq⟩ => (y_load1 Try.isAgg3 hq.tail.tail.tail.drop.drop rfl rfl hx3)) ?_
   refine d_takeC rfl want_none rfl ⟨_, hM, hs42⟩ (fun _ ⟨M, hM, hq⟩ => (y_load1 Try.isAgg3 hq.tail.tail.tail.drop.drop rfl rfl hx3)) ?_
   refine d_any rfl want_none rfl (fun _ => (y_indexA Try.underlying121 Try.sizeOf3 rfl rfl rfl rfl (i := b) (by first | rfl | omega) (by omega))) ?_
   refine d_takeC rfl want_none rfl ⟨_, hM, hs42⟩ (fun _ ⟨M, hM, hq⟩ => (y_load1 Try.isAgg3 hq rfl rfl (ats_ints (i := 0) (j := b) rfl (by first | omega | rfl | (simp only [hh6, List.length_map, List.length_set, List.length_append, List.length_take, List.length_drop, List.length_replicate, List.length_cons, List.length_nil] <;> omega))))) ?_
   refine d_any rfl want_none rfl (fun _ => (y_build (ps := [(0, _), (1, _)]) (pv := [(0, .int _ _), (1, .int _ _)]) rfl rfl (fun w => Try_J_fb4 _ _ w))) ?_
   refine d_eff rfl ?_
   refine w_call want_none Try.call79 rfl rfl rfl rfl (grades_con (X := _ :: _ :: _ :: []) (F := Xr2 ++ ((bp, blk 104 [.pointer (some ⟨lb, 0, none⟩)]) :: (b6, blk 3 [.int .i64 (b : Int)]) :: (b3, blk 104 [.pointer (some ⟨lb, 0, none⟩)]) :: (X ++ F))) l p but lb mm hk.app.cons.cons.cons.app b hb2 (h.getD b 0) hM hs42) ?_
   rintro _ w44 ⟨rfl, M2, hM2, hs45⟩
   replace hs45 := (show St _ _ (_ :: _ :: _ :: M2 ++ (Xr2 ++ (_ :: _ :: _ :: X ++ (F)))) from hs45)
   refine w_nil ?_
   refine qn ⟨⟨_, hM2, hs45⟩, ?_⟩
   refine d_any rfl want_none rfl (fun _ => (y_or (x := setW l b ((Ha.ways l but).take i)) (y := gradesB l (bunchOf l b) (h.getD b 0)) rfl rfl rfl rfl (by first | rfl | omega) (by first | rfl | omega) (by first | omega | exact shr_lt (by omega)) (by first | omega | exact shr_lt (by omega)))) ?_
   refine d_late rfl ?_
   refine w_store (i := 1) (v := .int _ _) (vs := [_]) want_none Try.sizeOf3 rfl rfl rfl rfl rfl (by simp [Value.oneCell']) hs45 rfl (Nat.le_of_ble_eq_true rfl) (fun w46 hs47 => ?_)
   refine w_nil ?_
   refine qn ?_
   refine d_nil ?_
   refine q_blk_normal ?_
   refine rd_normal (_ :: _ :: M2) hs47.tail ?_
   exact ⟨M2, bounds_cells (by rw [setW_take hi2, hat]) (by rw [span_take hi2, hat]) (by rw [span_take hi2, hat]), hM2⟩
  ·
   intro bd Bx w48 hJ hs
   obtain ⟨M, rfl, hM⟩ := hJ
   rw [List.length_map, List.length_map, List.take_length] at hs
   replace hs := (show St _ _ (_ :: _ :: _ :: (M ++ (_ :: _ :: _ :: (X ++ F)))) from hs)
   refine q_blk_normal ?_
   refine q_then (hK19 _ _ ?_)
   refine w_seq (fun K50 hK49 => ?_)
   refine w_draw [3] [(0, 1), (1, 1), (2, 2), (3, 3)] Try_mo (by kernel_rfl) hs (fun w51 hs52 => ?_)
   refine d_take rfl want_none rfl hs52 (fun _ hq => (y_loadN (vs := [_, _]) Try.isAgg34 Try.sizeOf34 hq rfl rfl (ats_own (i := 2) (vs := [_, _]) rfl rfl))) ?_
   refine d_take rfl want_none rfl hs52 (fun _ hq => (y_load1 Try.isAgg3 hq rfl rfl (ats_own (i := 1) (vs := [_]) rfl rfl))) ?_
   refine d_eff rfl ?_
   refine w_store (i := 2) (v := .agg #[.int _ _, .int _ _]) (vs := [_, _]) want_none Try.sizeOf34 rfl rfl rfl rfl rfl (by simp [Value.oneCell']) hs52 rfl (Nat.le_of_ble_eq_true rfl) (fun w53 hs54 => ?_)
   refine w_nil ?_
   refine qn ⟨hs54, ?_⟩
   refine d_late rfl ?_
   refine w_store (i := 1) (v := .int _ _) (vs := [_]) want_none Try.sizeOf3 rfl rfl rfl rfl rfl (by simp [Value.oneCell']) hs54 rfl (Nat.le_of_ble_eq_true rfl) (fun w55 hs56 => ?_)
   refine w_nil ?_
   refine qn ?_
   refine d_nil ?_
   refine q_then (hK49 _ _ ?_)
   refine w_ret ?_
   refine q_retM (i := 0) (l := [.cell 4 34, .cell 5 3]) (vs := [_, _]) hs56 rfl rfl (fun w57 hs58 => ⟨⟨⟨rfl, _, rfl, run_loadVarN (vs := [_, _]) Try.isAgg34 Try.sizeOf34 hs58 (ats_own (i := 2) (vs := [_, _]) rfl rfl)⟩, ⟨rfl, _, rfl, run_loadVar1 Try.isAgg3 hs58 (ats_own (i := 1) (vs := [_]) rfl rfl)⟩, trivial⟩, ?_⟩)
   exact ⟨rfl, M, hM, bounds_back hs58.tail.tail.tail⟩
  ·
   intro _ _ _ _ hJ
   exact hJ.elim

end Go.Proofs
/- Walks of this seat, printed by gen.py over the engine: what each function returns, in whatever world. No conditions but those of each contract. -/
set_option linter.unusedVariables false
set_option linter.unusedSimpArgs false
set_option maxRecDepth 20000
namespace Go.Proofs
open Go.Rt Go.Rt.Ha
attribute [local irreducible] WL WC Con Yd At Ats Sl Agree DW
theorem Try_K_fb2 (x0 : Int) (w : World) : (Instr.buildSlice 37 1 [(0, .int .i64 x0)].toArray).run Try.prog w = .ok (.slice (some ⟨w.heap.size, 0, none⟩) 1 1) (w.alloc (Go.Rt.blk 3 [.int .i64 x0])) := by kernel_rfl
theorem enterE_1 {l : Lot} {e : Int} (h : (check l).2.2 ≠ 0) : enterE l e = (check l).2.2 := by unfold enterE; rw [if_pos h]
theorem enterE_2 {l : Lot} {e : Int} (h : (check l).2.2 = 0) (he : e ≠ 0) : enterE l e = e := by unfold enterE; rw [if_neg (by simp [h]), if_pos he]
theorem enterE_3 {l : Lot} {e : Int} (h : (check l).2.2 = 0) (he : e = 0) (hw : Ha.ways l 0 = []) : enterE l e = 8 := by unfold enterE; rw [if_neg (by simp [h]), if_neg (by simp [he]), if_pos hw]
theorem enterE_0 {l : Lot} {e : Int} (h : (check l).2.2 = 0) (he : e = 0) (hw : Ha.ways l 0 ≠ []) : enterE l e = 0 := by unfold enterE; rw [if_neg (by simp [h]), if_neg (by simp [he]), if_neg hw]
theorem lk_new {w0 w : World} {M L : List (Nat × Obj)} {l : Lot} {p : At3} {lb mm : Nat} (hs : St w0 w (M ++ ((lb, blk 145 [.slice p.ag l.grades.length p.cg, .slice p.ab l.bunches.length p.cb, .slice p.ac l.counts.length p.cc, .int .i64 ((0 : Nat) : Int), .map (some mm)]) :: L))) (hm : LIn w0 L l p) (hc : (check l).2.2 = 0) : LK w0 ((lb, blk 145 [.slice p.ag l.grades.length p.cg, .slice p.ab l.bunches.length p.cb, .slice p.ac l.counts.length p.cc, .int .i64 ((0 : Nat) : Int), .map (some mm)]) :: L) l p 0 lb mm :=
  ⟨hm.cons, ats_own (i := 0) rfl rfl, check_ok hc, by omega⟩
theorem lk_but {w0 w : World} {L : List (Nat × Obj)} {l : Lot} {p : At3} {but lb mm : Nat} (hs : St w0 w ((lb, blk 145 [.slice p.ag l.grades.length p.cg, .slice p.ab l.bunches.length p.cb, .slice p.ac l.counts.length p.cc, .int .i64 (but : Int), .map (some mm)]) :: L)) (hm : LIn w0 L l p) (hc : (check l).2.2 = 0) (hb : but < 1000) : LK w0 ((lb, blk 145 [.slice p.ag l.grades.length p.cg, .slice p.ab l.bunches.length p.cb, .slice p.ac l.counts.length p.cc, .int .i64 (but : Int), .map (some mm)]) :: L) l p but lb mm :=
  ⟨hm.cons, ats_own (i := 0) rfl rfl, check_ok hc, hb⟩
theorem isE {l : List (List Int)} (h : l.isEmpty = true) : l = [] := by cases l with | nil => rfl | cons _ _ => simp at h
theorem isE1 {l : List (List Int)} (h : l.isEmpty = false) : l ≠ [] := by rintro rfl; simp at h
theorem swap2 {w0 w : World} {F : List (Nat × Obj)} {a b c : Nat × Obj} (h : St w0 w (a :: b :: c :: F)) : St w0 w ([b] ++ (a :: F)) := ((h.perm (perm_mid [a, b] [c] F)).tail).perm (List.Perm.swap _ _ _)
theorem c105 {w0 w : World} {F : List (Nat × Obj)} (n : Int) (below : Nat) (bb bn : Nat) (hbl : below ≤ 9223372036854775807) (h1 : Ats w0 F bb 0 [.int .i64 (below : Int)]) (h2 : Ats w0 F bn 0 [.int .i64 n]) (hs : St w0 w F) :
  Con Try.prog 105 [.pointer (some ⟨bb, 0, none⟩), .pointer (some ⟨bn, 0, none⟩)] w fun v w' => v = .int .i64 (idxE n below) ∧ St w0 w' F := by
  refine con_of_wc (n := 8) Try.func105 rfl rfl (Nat.le_of_ble_eq_true rfl) ?_
  refine w_seq (fun K2 hK1 => ?_)
  refine w_region ?_
  refine w_pure want_none (y_assign (v := _) rfl rfl) rfl ?_
  refine w_nil ?_
  refine q_then (hK1 _ _ ?_)
  refine w_seq (fun K4 hK3 => ?_)
  refine w_seq (fun K6 hK5 => ?_)
  refine w_region ?_
  refine w_pure want_none (y_load1 Try.isAgg3 hs rfl rfl h1) rfl ?_
  refine w_pure want_none (y_sub rfl rfl rfl rfl (by omega) (by omega)) rfl ?_
  refine w_pure want_none (y_load1 Try.isAgg3 hs rfl rfl h2) rfl ?_
  refine w_bslice (ps := [(0, _)]) (pv := [(0, .int _ _)]) (cs := [_]) want_none rfl rfl (fun w => Try_K_fb2 _ w) hs (fun b7 w8 hs9 => ?_)
  refine w_call want_none Try.call57 rfl rfl rfl rfl (c57 _ _ _ [_] _ (by simp) (sl_own (i := 0) (rows := [[_]]) rfl (by simp) rfl) hs9) ?_
  rintro _ w11 ⟨rfl, hs12⟩
  refine w_nil ?_
  refine q_then (hK5 _ _ ?_)
  refine w_cond rfl rfl (fun h13 => ?_) (fun h13 => ?_)
  ·
   try simp only [Bool.not_eq_true', Bool.not_eq_false', decide_eq_true_eq, decide_eq_false_iff_not, Int.not_lt, Int.not_le] at h13
   refine w_seq (fun K15 hK14 => ?_)
   refine w_region ?_
   refine w_pure want_none (y_assign (v := _) rfl rfl) rfl ?_
   refine w_nil ?_
   refine q_then (hK14 _ _ ?_)
   refine w_ret ?_
   refine q_then_ret ?_
   refine q_ret (l := [.tmp 2]) (vs := [_]) rfl ⟨⟨rfl, show _ = (.int _ _ : Value) from rfl⟩, trivial⟩ ?_
   try simp only [List.any_cons, List.any_nil, Bool.or_false, Bool.or_eq_false_iff] at h13
   exact ⟨congrArg (Value.int .i64) (by unfold idxE; simp [h13]), hs12.tail⟩
  ·
   try simp only [Bool.not_eq_true', Bool.not_eq_false', decide_eq_true_eq, decide_eq_false_iff_not, Int.not_lt, Int.not_le] at h13
   refine w_skip ?_
   refine q_then (hK3 _ _ ?_)
   refine w_seq (fun K17 hK16 => ?_)
   refine w_region ?_
   refine w_pure want_none (y_assign (v := _) rfl rfl) rfl ?_
   refine w_nil ?_
   refine q_then (hK16 _ _ ?_)
   refine w_ret ?_
   refine q_ret (l := [.tmp 2]) (vs := [_]) rfl ⟨⟨rfl, show _ = (.int _ _ : Value) from rfl⟩, trivial⟩ ?_
   try simp only [List.any_cons, List.any_nil, Bool.or_false, Bool.or_eq_false_iff] at h13
   exact ⟨congrArg (Value.int .i64) (by unfold idxE; simp [h13]), hs12.tail⟩

theorem c70 {w0 w : World} {F : List (Nat × Obj)} (n : Int) (below : Int) (hs : St w0 w F) :
  Con Try.prog 70 [.int .i64 n, .int .i64 below] w fun v w' => ∃ bb bn, v = .func (.func 105) #[] #[.pointer (some ⟨bb, 0, none⟩), .pointer (some ⟨bn, 0, none⟩)] ∧ St w0 w' ((bb, blk 3 [.int .i64 below]) :: (bn, blk 3 [.int .i64 n]) :: F) := by
  refine con_of_wc (n := 6) Try.func70 rfl rfl (Nat.le_of_ble_eq_true rfl) ?_
  refine w_seq (fun K2 hK1 => ?_)
  refine w_region ?_
  refine w_box (v := .int _ _) (cs := [_]) want_none rfl rfl rfl hs (fun b3 w4 hs5 => ?_)
  refine w_box (v := .int _ _) (cs := [_]) want_none rfl rfl rfl hs5 (fun b6 w7 hs8 => ?_)
  refine w_pure want_none (y_assign (v := _) rfl rfl) rfl ?_
  refine w_nil ?_
  refine q_then (hK1 _ _ ?_)
  refine w_seq (fun K10 hK9 => ?_)
  refine w_region ?_
  refine w_pure want_none (y_makeFunc (fv := []) (cv := [_, _]) rfl rfl rfl rfl) rfl ?_
  refine w_pure want_none (y_assign (v := .func _ _ _) rfl rfl) rfl ?_
  refine w_nil ?_
  refine q_then (hK9 _ _ ?_)
  refine w_ret ?_
  refine q_ret (l := [.tmp 4]) (vs := [_]) rfl ⟨⟨rfl, show _ = (.func _ _ _ : Value) from rfl⟩, trivial⟩ ?_
  exact ⟨_, _, rfl, hs8⟩

theorem c82 {w0 w : World} {F : List (Nat × Obj)}  (hs : St w0 w F) :
  Con Try.prog 82 [] w fun v w' => v = .int .i64 0 ∧ St w0 w' F := by
  refine con_of_wc (n := 1) Try.func82 rfl rfl (Nat.le_of_ble_eq_true rfl) ?_
  refine w_seq (fun K2 hK1 => ?_)
  refine w_region ?_
  refine w_pure want_none (y_assign (v := _) rfl rfl) rfl ?_
  refine w_nil ?_
  refine q_then (hK1 _ _ ?_)
  refine w_seq (fun K4 hK3 => ?_)
  refine w_region ?_
  refine w_pure want_none (y_assign (v := _) rfl rfl) rfl ?_
  refine w_nil ?_
  refine q_then (hK3 _ _ ?_)
  refine w_ret ?_
  refine q_ret (l := [.tmp 0]) (vs := [_]) rfl ⟨⟨rfl, show _ = (.int _ _ : Value) from rfl⟩, trivial⟩ ?_
  exact ⟨rfl, hs⟩

theorem c69 {w0 w : World} {F : List (Nat × Obj)} (l : Lot) (p : At3) (hm : LIn w0 F l p) (fv : Value) (e : Int) (hE : ∀ (X : List (Nat × Obj)) (w : World), St w0 w (X ++ F) → FCon Try.prog fv [] w fun v w' => v = .int .i64 e ∧ St w0 w' (X ++ F)) (hs : St w0 w F) :
  Con Try.prog 69 [.agg (l.cells p).toArray, fv] w fun v w' => (enterE l e ≠ 0 ∧ v = .tuple #[.pointer none, .int .i64 (enterE l e)] ∧ St w0 w' F) ∨ (enterE l e = 0 ∧ ∃ lb mm M, v = .tuple #[.pointer (some ⟨lb, 0, none⟩), .int .i64 0] ∧ Memo l mm M ∧ St w0 w' (M ++ ((lb, blk 145 [.slice p.ag l.grades.length p.cg, .slice p.ab l.bunches.length p.cb, .slice p.ac l.counts.length p.cc, .int .i64 ((0 : Nat) : Int), .map (some mm)]) :: F))) := by
  refine con_of_wc (n := 31) Try.func69 rfl rfl (Nat.le_of_ble_eq_true rfl) ?_
  refine w_seq (fun K2 hK1 => ?_)
  refine w_region ?_
  refine w_box (v := .agg #[.slice _ _ _, .slice _ _ _, .slice _ _ _]) (cs := [_, _, _]) want_none rfl rfl rfl hs (fun b3 w4 hs5 => ?_)
  refine w_pure want_none (y_assign (v := _) rfl rfl) rfl ?_
  refine w_pure want_none (y_assign (v := _) rfl rfl) rfl ?_
  refine w_nil ?_
  refine q_then (hK1 _ _ ?_)
  refine w_seq (fun K7 hK6 => ?_)
  refine w_seq (fun K9 hK8 => ?_)
  refine w_region ?_
  refine w_pure want_none (y_loadN (vs := [_, _, _]) Try.isAgg26 Try.sizeOf26 hs5 rfl rfl (ats_own (i := 0) (vs := [_, _, _]) rfl rfl)) rfl ?_
  refine w_call want_none Try.call16 rfl rfl rfl rfl (c16 l _ hm.cons hs5) ?_
  rintro _ w11 ⟨rfl, hs12⟩
  refine w_pure want_none (y_move (v := .tuple _) rfl rfl) rfl ?_
  refine w_pure want_none (y_extract (v := .int _ _) rfl rfl rfl) rfl ?_
  refine w_pure want_none (y_extract (v := .int _ _) rfl rfl rfl) rfl ?_
  refine w_pure want_none (y_extract (v := .int _ _) rfl rfl rfl) rfl ?_
  refine w_pure want_none (y_assign (v := .int _ _) rfl rfl) rfl ?_
  refine w_pure want_none (y_assign (v := .int _ _) rfl rfl) rfl ?_
  refine w_pure want_none (y_assign (v := .int _ _) rfl rfl) rfl ?_
  refine w_nil ?_
  refine q_then (hK8 _ _ ?_)
  refine w_seq (fun K14 hK13 => ?_)
  refine w_region ?_
  refine w_pure want_none (y_move (v := .int _ _) rfl rfl) rfl ?_
  refine w_pure want_none (y_neq rfl rfl rfl rfl) rfl ?_
  refine w_nil ?_
  refine q_then (hK13 _ _ ?_)
  refine w_cond rfl rfl (fun h15 => ?_) (fun h15 => ?_)
  ·
   try simp only [Bool.not_eq_true', Bool.not_eq_false', decide_eq_true_eq, decide_eq_false_iff_not, Int.not_lt, Int.not_le] at h15
   refine w_seq (fun K17 hK16 => ?_)
   refine w_region ?_
   refine w_pure want_none (y_move (v := .int _ _) rfl rfl) rfl ?_
   refine w_pure want_none (y_assign (v := _) rfl rfl) rfl ?_
   refine w_pure want_none (y_assign (v := .int _ _) rfl rfl) rfl ?_
   refine w_nil ?_
   refine q_then (hK16 _ _ ?_)
   refine w_ret ?_
   refine q_then_ret ?_
   refine q_ret (l := [.tmp 4, .tmp 5]) (vs := [_, _]) rfl ⟨⟨rfl, show _ = (.pointer _ : Value) from rfl⟩, ⟨rfl, show _ = (.int _ _ : Value) from rfl⟩, trivial⟩ ?_
   first
     | exact .inl ⟨by rw [enterE_1 (by assumption)]; assumption, by rw [enterE_1 (by assumption)]; rfl, hs12.tail⟩
     | exact .inl ⟨by rw [enterE_2 (by assumption) (by assumption)]; assumption, by rw [enterE_2 (by assumption) (by assumption)]; rfl, hs12.tail⟩
     | exact .inl ⟨by rw [enterE_3 (by assumption) (by assumption) (isE (by assumption))]; decide, by rw [enterE_3 (by assumption) (by assumption) (isE (by assumption))]; rfl, hs12.tail⟩
     | exact .inr ⟨enterE_0 (by assumption) (by assumption) (isE1 (by assumption)), lb, mm, _, rfl, memo_new l mm, swap2 hs12⟩
  ·
   try simp only [Bool.not_eq_true', Bool.not_eq_false', decide_eq_true_eq, decide_eq_false_iff_not, Int.not_lt, Int.not_le] at h15
   refine w_skip ?_
   refine q_then (hK6 _ _ ?_)
   refine w_seq (fun K19 hK18 => ?_)
   refine w_seq (fun K21 hK20 => ?_)
   refine w_region ?_
   refine w_pure want_none (y_move (v := fv) rfl rfl) rfl ?_
   refine w_callV want_none rfl rfl rfl rfl (hE [_] _ hs12) ?_
   rintro _ w23 ⟨rfl, hs24⟩
   refine w_pure want_none (y_assign (v := .int _ _) rfl rfl) rfl ?_
   refine w_nil ?_
   refine q_then (hK20 _ _ ?_)
   refine w_seq (fun K26 hK25 => ?_)
   refine w_region ?_
   refine w_pure want_none (y_move (v := .int _ _) rfl rfl) rfl ?_
   refine w_pure want_none (y_neq rfl rfl rfl rfl) rfl ?_
   refine w_nil ?_
   refine q_then (hK25 _ _ ?_)
   refine w_cond rfl rfl (fun h27 => ?_) (fun h27 => ?_)
   ·
    try simp only [Bool.not_eq_true', Bool.not_eq_false', decide_eq_true_eq, decide_eq_false_iff_not, Int.not_lt, Int.not_le] at h27
    refine w_seq (fun K29 hK28 => ?_)
    refine w_region ?_
    refine w_pure want_none (y_move (v := .int _ _) rfl rfl) rfl ?_
    refine w_pure want_none (y_assign (v := _) rfl rfl) rfl ?_
    refine w_pure want_none (y_assign (v := .int _ _) rfl rfl) rfl ?_
    refine w_nil ?_
    refine q_then (hK28 _ _ ?_)
    refine w_ret ?_
    refine q_then_ret ?_
    refine q_ret (l := [.tmp 4, .tmp 5]) (vs := [_, _]) rfl ⟨⟨rfl, show _ = (.pointer _ : Value) from rfl⟩, ⟨rfl, show _ = (.int _ _ : Value) from rfl⟩, trivial⟩ ?_
    first
      | exact .inl ⟨by rw [enterE_1 (by assumption)]; assumption, by rw [enterE_1 (by assumption)]; rfl, hs24.tail⟩
      | exact .inl ⟨by rw [enterE_2 (by assumption) (by assumption)]; assumption, by rw [enterE_2 (by assumption) (by assumption)]; rfl, hs24.tail⟩
      | exact .inl ⟨by rw [enterE_3 (by assumption) (by assumption) (isE (by assumption))]; decide, by rw [enterE_3 (by assumption) (by assumption) (isE (by assumption))]; rfl, hs24.tail⟩
      | exact .inr ⟨enterE_0 (by assumption) (by assumption) (isE1 (by assumption)), lb, mm, _, rfl, memo_new l mm, swap2 hs24⟩
   ·
    try simp only [Bool.not_eq_true', Bool.not_eq_false', decide_eq_true_eq, decide_eq_false_iff_not, Int.not_lt, Int.not_le] at h27
    refine w_skip ?_
    refine q_then (hK18 _ _ ?_)
    refine w_seq (fun K31 hK30 => ?_)
    refine w_region ?_
    refine w_pure want_none (y_loadN (vs := [_, _, _]) Try.isAgg26 Try.sizeOf26 hs24 rfl rfl (ats_own (i := 0) (vs := [_, _, _]) rfl rfl)) rfl ?_
    refine w_call want_none Try.call90 rfl rfl rfl rfl (c90 l p 0 hs24) ?_
    rintro _ w33 ⟨lb, mm, rfl, hs34⟩
    replace hs34 := (show St _ _ (_ :: _ :: _ :: F) from hs34)
    have hk := lk_but (but := 0) hs34 hm.cons.cons (by assumption) (by omega)
    refine w_pure want_none (y_assign (v := .pointer _) rfl rfl) rfl ?_
    refine w_nil ?_
    refine q_then (hK30 _ _ ?_)
    refine w_seq (fun K36 hK35 => ?_)
    refine w_seq (fun K38 hK37 => ?_)
    refine w_region ?_
    refine w_pure want_none (y_move (v := .pointer _) rfl rfl) rfl ?_
    refine w_call want_none Try.call91 rfl rfl rfl rfl (c91 l p 0 lb mm hk hs34) ?_
    rintro _ w40 ⟨rfl, hs41⟩
    refine w_pure want_none (y_not rfl rfl) rfl ?_
    refine w_nil ?_
    refine q_then (hK37 _ _ ?_)
    refine w_cond rfl rfl (fun h42 => ?_) (fun h42 => ?_)
    ·
     try simp only [Bool.not_eq_true', Bool.not_eq_false', decide_eq_true_eq, decide_eq_false_iff_not, Int.not_lt, Int.not_le] at h42
     refine w_seq (fun K44 hK43 => ?_)
     refine w_region ?_
     refine w_pure want_none (y_assign (v := _) rfl rfl) rfl ?_
     refine w_pure want_none (y_assign (v := _) rfl rfl) rfl ?_
     refine w_nil ?_
     refine q_then (hK43 _ _ ?_)
     refine w_ret ?_
     refine q_then_ret ?_
     refine q_ret (l := [.tmp 4, .tmp 5]) (vs := [_, _]) rfl ⟨⟨rfl, show _ = (.pointer _ : Value) from rfl⟩, ⟨rfl, show _ = (.int _ _ : Value) from rfl⟩, trivial⟩ ?_
     first
       | exact .inl ⟨by rw [enterE_1 (by assumption)]; assumption, by rw [enterE_1 (by assumption)]; rfl, hs41.tail.tail.tail⟩
       | exact .inl ⟨by rw [enterE_2 (by assumption) (by assumption)]; assumption, by rw [enterE_2 (by assumption) (by assumption)]; rfl, hs41.tail.tail.tail⟩
       | exact .inl ⟨by rw [enterE_3 (by assumption) (by assumption) (isE (by assumption))]; decide, by rw [enterE_3 (by assumption) (by assumption) (isE (by assumption))]; rfl, hs41.tail.tail.tail⟩
       | exact .inr ⟨enterE_0 (by assumption) (by assumption) (isE1 (by assumption)), lb, mm, _, rfl, memo_new l mm, swap2 hs41⟩
    ·
     try simp only [Bool.not_eq_true', Bool.not_eq_false', decide_eq_true_eq, decide_eq_false_iff_not, Int.not_lt, Int.not_le] at h42
     refine w_skip ?_
     refine q_then (hK35 _ _ ?_)
     refine w_seq (fun K46 hK45 => ?_)
     refine w_region ?_
     refine w_pure want_none (y_move (v := .pointer _) rfl rfl) rfl ?_
     refine w_pure want_none (y_assign (v := .pointer _) rfl rfl) rfl ?_
     refine w_pure want_none (y_assign (v := _) rfl rfl) rfl ?_
     refine w_nil ?_
     refine q_then (hK45 _ _ ?_)
     refine w_ret ?_
     refine q_ret (l := [.tmp 4, .tmp 5]) (vs := [_, _]) rfl ⟨⟨rfl, show _ = (.pointer _ : Value) from rfl⟩, ⟨rfl, show _ = (.int _ _ : Value) from rfl⟩, trivial⟩ ?_
     first
       | exact .inl ⟨by rw [enterE_1 (by assumption)]; assumption, by rw [enterE_1 (by assumption)]; rfl, hs41.tail.tail.tail⟩
       | exact .inl ⟨by rw [enterE_2 (by assumption) (by assumption)]; assumption, by rw [enterE_2 (by assumption) (by assumption)]; rfl, hs41.tail.tail.tail⟩
       | exact .inl ⟨by rw [enterE_3 (by assumption) (by assumption) (isE (by assumption))]; decide, by rw [enterE_3 (by assumption) (by assumption) (isE (by assumption))]; rfl, hs41.tail.tail.tail⟩
       | exact .inr ⟨enterE_0 (by assumption) (by assumption) (isE1 (by assumption)), lb, mm, _, rfl, memo_new l mm, swap2 hs41⟩

theorem bounds_at {w0 w : World} {X M F : List (Nat × Obj)} (l : Lot) (p : At3) (but lb mm : Nat) (hk : LK w0 F l p but lb mm) (b : Int) (hb : 0 ≤ b ∧ b < l.bunches.length) (hM : Memo l mm M) (hs : St w0 w (X ++ (M ++ F))) :
    Con Try.prog 71 [.pointer (some ⟨lb, 0, none⟩), .int .i64 b] w fun v w' => v = .tuple #[.agg #[.int .i64 (spanW b.toNat (Ha.ways l but)).1, .int .i64 (spanW b.toNat (Ha.ways l but)).2], .int .i64 ((setW l b.toNat (Ha.ways l but) : Nat) : Int)] ∧ ∃ M', Memo l mm M' ∧ St w0 w' (X ++ (M' ++ F)) := by
  have h := c71 l p but lb mm hk b.toNat (by omega) hM hs
  rw [Int.toNat_of_nonneg hb.1] at h
  exact h
theorem c21 {w0 w : World} {F : List (Nat × Obj)} (l : Lot) (p : At3) (hm : LIn w0 F l p) (b : Int) (hs : St w0 w F) :
  Con Try.prog 21 [.agg (l.cells p).toArray, .int .i64 b] w fun v w' => v = .tuple #[.agg #[.int .i64 (handsP l b).1.1, .int .i64 (handsP l b).1.2], .int .i64 (handsP l b).2] ∧ St w0 w' F := by
  refine con_of_wc (n := 28) Try.func21 rfl rfl (Nat.le_of_ble_eq_true rfl) ?_
  have hlb0 := hm.lb
  refine w_seq (fun K2 hK1 => ?_)
  refine w_region ?_
  refine w_box (v := .agg #[.slice _ _ _, .slice _ _ _, .slice _ _ _]) (cs := [_, _, _]) want_none rfl rfl rfl hs (fun b3 w4 hs5 => ?_)
  refine w_alloc (cs := [_, _]) want_none Try.zeroValue34 rfl hs5 (fun b6 w7 hs8 => ?_)
  refine w_pure want_none (y_assign (v := _) rfl rfl) rfl ?_
  refine w_nil ?_
  refine q_then (hK1 _ _ ?_)
  refine w_seq (fun K10 hK9 => ?_)
  refine w_draw [] [(0, 1), (1, 0), (2, 0), (3, 1), (4, 0), (5, 2), (6, 2), (7, 0), (8, 0), (9, 0), (10, 0), (11, 0)] Try_mo (by kernel_rfl) hs8 (fun w11 hs12 => ?_)
  refine d_take rfl want_none rfl hs12 (fun _ hq => (y_loadN (vs := [_, _, _]) Try.isAgg26 Try.sizeOf26 hq rfl rfl (ats_own (i := 1) (vs := [_, _, _]) rfl rfl))) ?_
  refine d_any rfl want_none rfl (fun _ => (y_move (v := .int _ _) rfl rfl)) ?_
  refine d_any rfl want_none rfl (fun _ => (y_fieldAddr (o := 1) (i := 1) Try.underlying26 rfl Try.sizeOf23 rfl rfl rfl)) ?_
  refine d_take rfl want_none rfl hs12 (fun _ hq => (y_load1 Try.isAgg23 hq rfl rfl (ats_own (i := 1) (vs := [_]) rfl rfl))) ?_
  refine d_any rfl want_none rfl (fun _ => (y_lenS Try.underlying23 rfl rfl)) ?_
  refine d_eff rfl ?_
  refine w_call want_none Try.call70 rfl rfl rfl rfl (c70 _ _ hs12) ?_
  rintro _ w14 ⟨bb, bn, rfl, hs15⟩
  refine w_nil ?_
  refine qn ⟨hs15.tail.tail, ?_⟩
  refine d_eff rfl ?_
  refine w_call want_none Try.call69 rfl rfl rfl rfl (c69 l p hm.cons.cons.cons.cons (.func (.func 105) #[] #[.pointer (some ⟨bb, 0, none⟩), .pointer (some ⟨bn, 0, none⟩)]) (idxE b l.bunches.length) (fun X w hs => fcon_fn Try.call105 (c105 b l.bunches.length _ _ (by omega) (Ats.app (ats_own (i := 0) (vs := [_]) rfl rfl)) (Ats.app (ats_own (i := 1) (vs := [_]) rfl rfl)) hs)) hs15) ?_
  rintro _ w17 (⟨hee, rfl, hs18⟩ | ⟨hee, lb, mm, M, rfl, hM, hs18⟩)
  ·
   refine w_nil ?_
   refine qn ⟨hs18.tail.tail, ?_⟩
   refine d_any rfl want_none rfl (fun _ => (y_move (v := .tuple _) rfl rfl)) ?_
   refine d_any rfl want_none rfl (fun _ => (y_extract (v := .pointer _) rfl rfl rfl)) ?_
   refine d_any rfl want_none rfl (fun _ => (y_extract (v := .int _ _) rfl rfl rfl)) ?_
   refine d_any rfl want_none rfl (fun _ => (y_assign (v := .pointer _) rfl rfl)) ?_
   refine d_any rfl want_none rfl (fun _ => (y_assign (v := .int _ _) rfl rfl)) ?_
   refine d_nil ?_
   refine q_then (hK9 _ _ ?_)
   refine w_seq (fun K20 hK19 => ?_)
   refine w_seq (fun K22 hK21 => ?_)
   refine w_region ?_
   refine w_pure want_none (y_move (v := .int _ _) rfl rfl) rfl ?_
   refine w_pure want_none (y_neq rfl rfl rfl rfl) rfl ?_
   refine w_nil ?_
   refine q_then (hK21 _ _ ?_)
   refine w_cond rfl rfl (fun h23 => ?_) (fun h23 => ?_)
   ·
    try simp only [Bool.not_eq_true', Bool.not_eq_false', decide_eq_true_eq, decide_eq_false_iff_not, Int.not_lt, Int.not_le] at h23
    refine w_seq (fun K25 hK24 => ?_)
    refine w_region ?_
    refine w_pure want_none (y_loadN (vs := [_, _]) Try.isAgg34 Try.sizeOf34 hs18 rfl rfl (ats_own (i := 2) (vs := [_, _]) rfl rfl)) rfl ?_
    refine w_pure want_none (y_move (v := .int _ _) rfl rfl) rfl ?_
    refine w_store (i := 2) (v := .agg #[.int _ _, .int _ _]) (vs := [_, _]) want_none Try.sizeOf34 rfl rfl rfl rfl rfl (by simp [Value.oneCell']) hs18 rfl (Nat.le_of_ble_eq_true rfl) (fun w26 hs27 => ?_)
    refine w_pure want_none (y_assign (v := .int _ _) rfl rfl) rfl ?_
    refine w_nil ?_
    refine q_then (hK24 _ _ ?_)
    refine w_ret ?_
    refine q_then_ret ?_
    refine q_ret (l := [.cell 4 34, .tmp 5]) (vs := [_, _]) rfl ⟨⟨rfl, _, rfl, run_loadVarN (vs := [_, _]) Try.isAgg34 Try.sizeOf34 hs27 (ats_own (i := 2) (vs := [_, _]) rfl rfl)⟩, ⟨rfl, show _ = (.int _ _ : Value) from rfl⟩, trivial⟩ ?_
    exact ⟨by unfold handsP; rw [if_pos hee]; rfl, hs27.tail.tail.tail.tail⟩
   ·
    exfalso
    try simp only [Bool.not_eq_true', Bool.not_eq_false', decide_eq_true_eq, decide_eq_false_iff_not, Int.not_lt, Int.not_le] at h23
    first | exact hee h23 | exact h23 hee
  ·
   replace hs18 := (show St _ _ (M ++ (_ :: _ :: _ :: _ :: _ :: F)) from hs18)
   have hk := lk_new hs18 hm.cons.cons.cons.cons (enterE_zero hee).1
   have hew := enterE_zero hee
   have hbt := hk.bt
   have hlg := hk.ok.lg
   have hlb := hk.ok.lb
   have hlc := hk.ok.lc
   refine w_nil ?_
   refine qn ⟨hs18.drop.tail.tail.tail, ?_⟩
   refine d_any rfl want_none rfl (fun _ => (y_move (v := .tuple _) rfl rfl)) ?_
   refine d_any rfl want_none rfl (fun _ => (y_extract (v := .pointer _) rfl rfl rfl)) ?_
   refine d_any rfl want_none rfl (fun _ => (y_extract (v := .int _ _) rfl rfl rfl)) ?_
   refine d_any rfl want_none rfl (fun _ => (y_assign (v := .pointer _) rfl rfl)) ?_
   refine d_any rfl want_none rfl (fun _ => (y_assign (v := .int _ _) rfl rfl)) ?_
   refine d_nil ?_
   refine q_then (hK9 _ _ ?_)
   refine w_seq (fun K29 hK28 => ?_)
   refine w_seq (fun K31 hK30 => ?_)
   refine w_region ?_
   refine w_pure want_none (y_move (v := .int _ _) rfl rfl) rfl ?_
   refine w_pure want_none (y_neq rfl rfl rfl rfl) rfl ?_
   refine w_nil ?_
   refine q_then (hK30 _ _ ?_)
   refine w_condF rfl rfl ?_
   refine w_skip ?_
   refine q_then (hK28 _ _ ?_)
   refine w_seq (fun K33 hK32 => ?_)
   refine w_region ?_
   refine w_pure want_none (y_move (v := .pointer _) rfl rfl) rfl ?_
   refine w_pure want_none (y_move (v := .int _ _) rfl rfl) rfl ?_
   refine w_call want_none Try.call71 rfl rfl rfl rfl (bounds_at (X := []) l _ 0 lb mm hk b (idxE_zero hew.2.1) hM hs18) ?_
   rintro _ w35 ⟨rfl, M37, hM37, hs36⟩
   replace hs36 := (show St _ _ (M37 ++ (_ :: _ :: _ :: _ :: _ :: F)) from hs36)
   have hs38 := hs36.drop
   refine w_pure want_none (y_move (v := .tuple _) rfl rfl) rfl ?_
   refine w_pure want_none (y_extract (v := .agg _) rfl rfl rfl) rfl ?_
   refine w_pure want_none (y_extract (v := .int _ _) rfl rfl rfl) rfl ?_
   refine w_store (i := 3) (v := .agg #[.int _ _, .int _ _]) (vs := [_, _]) want_none Try.sizeOf34 rfl rfl rfl rfl rfl (by simp [Value.oneCell']) hs38 rfl (Nat.le_of_ble_eq_true rfl) (fun w39 hs40 => ?_)
   refine w_nil ?_
   refine q_then (hK32 _ _ ?_)
   refine w_seq (fun K42 hK41 => ?_)
   refine w_region ?_
   refine w_pure want_none (y_loadN (vs := [_, _]) Try.isAgg34 Try.sizeOf34 hs40 rfl rfl (ats_own (i := 3) (vs := [_, _]) rfl rfl)) rfl ?_
   refine w_store (i := 3) (v := .agg #[.int _ _, .int _ _]) (vs := [_, _]) want_none Try.sizeOf34 rfl rfl rfl rfl rfl (by simp [Value.oneCell']) hs40 rfl (Nat.le_of_ble_eq_true rfl) (fun w43 hs44 => ?_)
   refine w_pure want_none (y_assign (v := _) rfl rfl) rfl ?_
   refine w_nil ?_
   refine q_then (hK41 _ _ ?_)
   refine w_ret ?_
   refine q_ret (l := [.cell 4 34, .tmp 5]) (vs := [_, _]) rfl ⟨⟨rfl, _, rfl, run_loadVarN (vs := [_, _]) Try.isAgg34 Try.sizeOf34 hs44 (ats_own (i := 3) (vs := [_, _]) rfl rfl)⟩, ⟨rfl, show _ = (.int _ _ : Value) from rfl⟩, trivial⟩ ?_
   exact ⟨by unfold handsP; rw [if_neg (by simp [hee])]; rfl, hs44.tail.tail.tail.tail.tail⟩

end Go.Proofs
/- Walks of this seat, printed by gen.py over the engine: what each function returns, in whatever world. No conditions but those of each contract. -/
set_option linter.unusedVariables false
set_option linter.unusedSimpArgs false
set_option maxRecDepth 20000
namespace Go.Proofs
open Go.Rt Go.Rt.Ha
attribute [local irreducible] WL WC Con Yd At Ats Sl Agree DW
theorem Try_L_fb2 (x0 : Int) (w : World) : (Instr.buildSlice 37 1 [(0, .int .i64 x0)].toArray).run Try.prog w = .ok (.slice (some ⟨w.heap.size, 0, none⟩) 1 1) (w.alloc (Go.Rt.blk 3 [.int .i64 x0])) := by kernel_rfl
theorem _root_.Go.Rt.Sl.top {w0 : World} {B F : List (Nat × Obj)} {a : Option Addr} {sz : Nat} {rows : List (List Value)} (h : Sl w0 B a sz rows) : Sl w0 (B ++ F) a sz rows := h.mono fun _ h => h.front
/-- Slices of integers, as values: what each reads as. -/
def EL (w0 : World) (L : List (Nat × Obj)) (vs : List Value) (ll : List (List Int)) : Prop :=
  vs.length = ll.length ∧ ∀ k (h : k < ll.length), ∃ b c, vs[k]? = some (.slice b ll[k].length c) ∧ Sl w0 L b 1 (ll[k].map fun x => [Value.int .i64 x]) ∧ (b = none → c = 0)
theorem EL.mono {w0 : World} {L L' : List (Nat × Obj)} {vs : List Value} {ll : List (List Int)} (h : EL w0 L vs ll) (hs : ∀ w, St w0 w L' → St w0 w L) : EL w0 L' vs ll :=
  ⟨h.1, fun k hk => by obtain ⟨b, c, h1, h2, h3⟩ := h.2 k hk; exact ⟨b, c, h1, h2.mono hs, h3⟩⟩
theorem EL.cons {w0 : World} {L : List (Nat × Obj)} {x : Nat × Obj} {vs : List Value} {ll : List (List Int)} (h : EL w0 L vs ll) : EL w0 (x :: L) vs ll := h.mono fun _ h => h.tail
theorem EL.app {w0 : World} {L B : List (Nat × Obj)} {vs : List Value} {ll : List (List Int)} (h : EL w0 L vs ll) : EL w0 (B ++ L) vs ll := h.mono fun _ h => h.drop
theorem EL.top {w0 : World} {B F : List (Nat × Obj)} {vs : List Value} {ll : List (List Int)} (h : EL w0 B vs ll) : EL w0 (B ++ F) vs ll := h.mono fun _ h => h.front
theorem EL.nil (w0 : World) (L : List (Nat × Obj)) : EL w0 L [] [] := ⟨rfl, fun k h => by simp at h⟩
theorem EL.snoc {w0 : World} {L : List (Nat × Obj)} {vs : List Value} {ll : List (List Int)} {b : Option Addr} {c : Nat} {l : List Int} (h : EL w0 L vs ll) (hl : Sl w0 L b 1 (l.map fun x => [Value.int .i64 x])) (hn : b = none → c = 0) : EL w0 L (vs ++ [.slice b l.length c]) (ll ++ [l]) := by
  refine ⟨by simp [h.1], fun k hk => ?_⟩
  rw [List.length_append, List.length_singleton] at hk
  by_cases hkl : k < ll.length
  · obtain ⟨b', c', h1, h2, h3⟩ := h.2 k hkl
    refine ⟨b', c', ?_, ?_, h3⟩
    · rw [List.getElem?_append_left (by rw [h.1]; exact hkl), h1, List.getElem_append_left hkl]
    · rw [List.getElem_append_left hkl]; exact h2
  · have : k = ll.length := by omega
    subst this
    refine ⟨b, c, ?_, ?_, hn⟩
    · rw [List.getElem?_append_right (by rw [h.1]; omega), h.1]; simp
    · simpa using hl
theorem el_at {w0 : World} {L : List (Nat × Obj)} {a : Option Addr} {vs : List Value} {ll : List (List Int)} {k : Nat} (hs : Sl w0 L a 1 (vs.map fun v => [v])) (h : EL w0 L vs ll) (hk : k < ll.length) :
    ∃ b off b2 c2, a = some ⟨b, off, none⟩ ∧ Ats w0 L b (off + k * 1) [.slice b2 ll[k].length c2] ∧ Sl w0 L b2 1 (ll[k].map fun x => [Value.int .i64 x]) ∧ (b2 = none → c2 = 0) := by
  obtain ⟨b2, c2, h1, h2, h3⟩ := h.2 k hk
  obtain ⟨b, off, ha, _, hat⟩ := hs.at (i := k) (row := [.slice b2 ll[k].length c2]) (by rw [List.getElem?_map, h1]; rfl)
  exact ⟨b, off, b2, c2, ha, hat, h2, h3⟩
theorem el_perm {w0 w : World} {a b : Nat × Obj} {B N E R : List (Nat × Obj)} (h : St w0 w (a :: b :: (B ++ (N ++ (E ++ R))))) : St w0 w (N ++ ((B ++ E) ++ R)) := by
  have h1 : St w0 w (B ++ (N ++ (E ++ R))) := h.tail.tail
  have h2 : St w0 w (N ++ (B ++ (E ++ R))) := h1.perm (perm_mid B N (E ++ R))
  rwa [← List.append_assoc B] at h2
theorem el_perm1 {w0 w : World} {a : Nat × Obj} {B N E R : List (Nat × Obj)} (h : St w0 w (a :: (B ++ (N ++ (E ++ R))))) : St w0 w (N ++ ((B ++ E) ++ R)) := by
  have h2 : St w0 w (N ++ (B ++ (E ++ R))) := h.tail.perm (perm_mid B N (E ++ R))
  rwa [← List.append_assoc B] at h2
theorem _root_.Go.Rt.Ats.top {w0 : World} {B F : List (Nat × Obj)} {b off : Nat} {vs : List Value} (h : Ats w0 B b off vs) : Ats w0 (B ++ F) b off vs := h.mono fun _ h => h.front
theorem el_drop2 (N E1 O E F : List (Nat × Obj)) : (N ++ (E1 ++ (O ++ (E ++ F)))).Perm ((O ++ E) ++ (N ++ (E1 ++ F))) := by
  have h := perm_mid (N ++ E1) (O ++ E) F
  simpa only [List.append_assoc] using h
theorem flat_ints (l : List Int) : (l.map fun x => [Value.int .i64 x]).flatten = iv l := by induction l <;> simp_all
theorem ints_one (l : List Int) : ∀ row ∈ (l.map fun x => [Value.int .i64 x]), ∀ u ∈ row, u.oneCell' = true := by
  intro row hr u hu; obtain ⟨x, _, rfl⟩ := List.mem_map.1 hr; simp at hu; subst hu; rfl
/-- A list of one's own, as a slice: nil has no room. -/
theorem own_ints {w0 : World} {v : Value} {l : List Int} {B : List (Nat × Obj)} (h : Rt.Own v 3 1 l.length (iv l) B) : ∃ a c, v = .slice a l.length c ∧ Sl w0 B a 1 (l.map fun x => [Value.int .i64 x]) ∧ (a = none → c = 0) ∧ l.length ≤ c := by
  obtain ⟨a, c, hv, hs⟩ := own_sl_map (w0 := w0) h rfl []
  rw [List.append_nil] at hs
  refine ⟨a, c, hv, hs, fun ha => ?_, ?_⟩
  · rcases h.2 with ⟨h2, _⟩ | ⟨b, cap, cs, h2, _⟩
    · rw [h2] at hv; injection hv with _ _ h3; exact h3.symm
    · rw [h2] at hv; injection hv with h3; rw [ha] at h3; cases h3
  · rcases h.2 with ⟨h2, h3, _⟩ | ⟨b, cap, cs, h2, _, h4, _⟩
    · rw [h2] at hv; injection hv with _ _ h5; omega
    · rw [h2] at hv; injection hv with _ _ h5; omega
theorem own_ints1 {v : Value} {l : List Int} {d : Int} {B : List (Nat × Obj)} (h : Rt.Own v 3 1 (0 + l.length + 1) ([] ++ (l.map fun x => [Value.int .i64 x]).flatten ++ [[Value.int .i64 d]].flatten) B) : Rt.Own v 3 1 (l ++ [d]).length (iv (l ++ [d])) B := by
  rw [flat_ints] at h
  simpa [Nat.add_comm] using h
theorem own_el {v : Value} {ws : List Value} {u : Value} {NB : List (Nat × Obj)} {g : List (List Int)} {x : List Int} (h : Rt.Own v 37 1 (g.length + 1) (ws ++ [[u]].flatten) NB) : Rt.Own v 37 1 (g ++ [x]).length (ws ++ [u]) NB := by simpa using h
theorem yd_slice {P : Program} {a : Act} {o : Oper} {w : World} {x y : Option Addr} {l c : Nat} (h : x = y) (hy : Yd P a o w (.slice x l c)) : Yd P a o w (.slice y l c) := h ▸ hy
theorem sl_own_ints {w0 : World} {L : List (Nat × Obj)} {i b n : Nat} {t : TypeId} {cs : List Value} {l : List Int} (hi : L[i]? = some (b, blk t cs)) (hn : l.length = n) (h : cs.take (n * 1) = iv l) : Sl w0 L (some ⟨b, 0, none⟩) 1 (l.map fun x => [Value.int .i64 x]) :=
  sl_own hi (by intro row hr; obtain ⟨f, _, rfl⟩ := List.mem_map.1 hr; rfl) (by rw [List.length_map, flat_ints, hn]; exact h)
theorem el_more {w0 : World} {B E : List (Nat × Obj)} {ws : List Value} {g : List (List Int)} {a : Option Addr} {c : Nat} {l : List Int} (h : EL w0 E ws g) (hs : Sl w0 B a 1 (l.map fun x => [Value.int .i64 x])) (hn : a = none → c = 0) : EL w0 (B ++ E) (ws ++ [.slice a l.length c]) (g ++ [l]) := h.app.snoc hs.top hn
theorem kp_own {w0 w : World} {F : List (Nat × Obj)} {x a : Nat × Obj} (h : St w0 w (x :: (a :: F))) : St w0 w (x :: F) := (h.perm (perm_mid [x] [a] F)).tail
theorem kp_opq {w0 w : World} {Y F : List (Nat × Obj)} {x : Nat × Obj} (h : St w0 w (x :: (Y ++ F))) : St w0 w (x :: F) := (h.perm (perm_mid [x] Y F)).drop
theorem kq_own {w0 w : World} {B F : List (Nat × Obj)} {a : Nat × Obj} (h : St w0 w (B ++ (a :: F))) : St w0 w (B ++ F) := (h.perm (perm_mid B [a] F)).tail
theorem kq_opq {w0 w : World} {B Y F : List (Nat × Obj)} (h : St w0 w (B ++ (Y ++ F))) : St w0 w (B ++ F) := (h.perm (perm_mid B Y F)).drop
theorem dec_start (l : List Int) : l.take l.length ++ (List.replicate l.length (0 : Int)).drop l.length = (l.take 0).map (· - 1) ++ l.drop 0 := by simp
theorem dec_step {l : List Int} {i : Nat} (h : i < l.length) : ((l.take i).map (· - 1) ++ l.drop i).set i (((l.take i).map (· - 1) ++ l.drop i).getD i 0 - 1) = (l.take (i + 1)).map (· - 1) ++ l.drop (i + 1) := by
  have hl : ((l.take i).map (· - 1)).length = i := by simp; omega
  have hg : ((l.take i).map (· - 1) ++ l.drop i).getD i 0 = l[i] := by
    simp only [List.getD]; rw [List.getElem?_append_right (by omega), hl, Nat.sub_self, List.getElem?_drop]; simp [h]
  rw [hg, List.set_append_right i _ (by omega), hl, Nat.sub_self, List.drop_eq_getElem_cons h, List.set_cons_zero, List.take_succ_eq_append_getElem h, List.map_append, List.append_assoc]; rfl
theorem dec_end (l : List Int) : (l.take l.length).map (· - 1) ++ l.drop l.length = l.map (· - 1) := by simp
theorem dec_len (l : List Int) (i : Nat) : ((l.take i).map (· - 1) ++ l.drop i).length = l.length := by simp; omega
theorem dec_get {l : List Int} (n : Nat) {b : Nat} (h : l = listL b n) (i : Nat) (hn : n ≤ 40) : -50 ≤ ((l.take i).map (· - 1) ++ l.drop i).getD i 0 ∧ ((l.take i).map (· - 1) ++ l.drop i).getD i 0 ≤ 50 := by
  have hm : ∀ z ∈ l, 0 ≤ z ∧ z ≤ 40 := by
    have key : ∀ n, n ≤ 40 → ∀ z ∈ listL b n, 0 ≤ z ∧ z ≤ 40 := by
      intro n
      induction n with
      | zero => intro _ z hz; simp [listL] at hz
      | succ n ih =>
        intro hn z hz
        simp only [listL, List.mem_append] at hz
        rcases hz with hz | hz
        · exact ih (by omega) z hz
        · split at hz <;> simp at hz
          omega
    subst h
    exact key n hn
  generalize hL : (l.take i).map (· - 1) ++ l.drop i = L
  by_cases hi : i < L.length
  · simp only [List.getD, List.getElem?_eq_getElem hi, Option.getD_some]
    have h0 := List.getElem_mem hi
    generalize L[i] = x at h0 ⊢
    rw [← hL] at h0
    rcases List.mem_append.1 h0 with h1 | h1
    · obtain ⟨y, hy, he⟩ := List.mem_map.1 h1
      have h2 := hm y (List.mem_of_mem_take hy)
      omega
    · have h2 := hm _ (List.mem_of_mem_drop h1); omega
  · simp [List.getD, List.getElem?_eq_none (by omega : L.length ≤ i)]
theorem keep_two {w0 w : World} {B1 B2 M F : List (Nat × Obj)} {x y : Nat × Obj} (h : St w0 w (B1 ++ (B2 ++ (M ++ (x :: y :: F))))) : St w0 w ((B1 ++ B2) ++ F) := by
  rw [← List.append_assoc] at h
  exact kq_own (kq_own (kq_opq h))
theorem c23 {w0 w : World} {F : List (Nat × Obj)} (l : Lot) (p : At3) (hm : LIn w0 F l p) (b : Int) (hs : St w0 w F) :
  Con Try.prog 23 [.agg (l.cells p).toArray, .int .i64 b] w fun v w' => ∃ B a c, v = .tuple #[.slice a (gradeP l b).1.length c, .int .i64 (gradeP l b).2] ∧ Sl w0 B a 1 ((gradeP l b).1.map fun x => [Value.int .i64 x]) ∧ St w0 w' (B ++ F) := by
  refine con_of_wc (n := 57) Try.func23 rfl rfl (Nat.le_of_ble_eq_true rfl) ?_
  have hlb0 := hm.lb
  refine w_seq (fun K2 hK1 => ?_)
  refine w_region ?_
  refine w_box (v := .agg #[.slice _ _ _, .slice _ _ _, .slice _ _ _]) (cs := [_, _, _]) want_none rfl rfl rfl hs (fun b3 w4 hs5 => ?_)
  refine w_pure want_none (y_assign (v := _) rfl rfl) rfl ?_
  refine w_pure want_none (y_assign (v := _) rfl rfl) rfl ?_
  refine w_nil ?_
  refine q_then (hK1 _ _ ?_)
  refine w_seq (fun K7 hK6 => ?_)
  refine w_draw [] [(0, 1), (1, 0), (2, 0), (3, 1), (4, 0), (5, 2), (6, 2), (7, 0), (8, 0), (9, 0), (10, 0), (11, 0)] Try_mo (by kernel_rfl) hs5 (fun w8 hs9 => ?_)
  refine d_take rfl want_none rfl hs9 (fun _ hq => (y_loadN (vs := [_, _, _]) Try.isAgg26 Try.sizeOf26 hq rfl rfl (ats_own (i := 0) (vs := [_, _, _]) rfl rfl))) ?_
  refine d_any rfl want_none rfl (fun _ => (y_move (v := .int _ _) rfl rfl)) ?_
  refine d_any rfl want_none rfl (fun _ => (y_fieldAddr (o := 1) (i := 1) Try.underlying26 rfl Try.sizeOf23 rfl rfl rfl)) ?_
  refine d_take rfl want_none rfl hs9 (fun _ hq => (y_load1 Try.isAgg23 hq rfl rfl (ats_own (i := 0) (vs := [_]) rfl rfl))) ?_
  refine d_any rfl want_none rfl (fun _ => (y_lenS Try.underlying23 rfl rfl)) ?_
  refine d_eff rfl ?_
  refine w_call want_none Try.call70 rfl rfl rfl rfl (c70 _ _ hs9) ?_
  rintro _ w11 ⟨bb, bn, rfl, hs12⟩
  refine w_nil ?_
  refine qn ⟨hs12.tail.tail, ?_⟩
  refine d_eff rfl ?_
  refine w_call want_none Try.call69 rfl rfl rfl rfl (c69 l p hm.cons.cons.cons (.func (.func 105) #[] #[.pointer (some ⟨bb, 0, none⟩), .pointer (some ⟨bn, 0, none⟩)]) (idxE b l.bunches.length) (fun X w hs => fcon_fn Try.call105 (c105 b l.bunches.length _ _ (by omega) (Ats.app (ats_own (i := 0) (vs := [_]) rfl rfl)) (Ats.app (ats_own (i := 1) (vs := [_]) rfl rfl)) hs)) hs12) ?_
  rintro _ w14 (⟨hee, rfl, hs15⟩ | ⟨hee, lb, mm, M, rfl, hM, hs15⟩)
  ·
   refine w_nil ?_
   refine qn ⟨hs15.tail.tail, ?_⟩
   refine d_any rfl want_none rfl (fun _ => (y_move (v := .tuple _) rfl rfl)) ?_
   refine d_any rfl want_none rfl (fun _ => (y_extract (v := .pointer _) rfl rfl rfl)) ?_
   refine d_any rfl want_none rfl (fun _ => (y_extract (v := .int _ _) rfl rfl rfl)) ?_
   refine d_any rfl want_none rfl (fun _ => (y_assign (v := .pointer _) rfl rfl)) ?_
   refine d_any rfl want_none rfl (fun _ => (y_assign (v := .int _ _) rfl rfl)) ?_
   refine d_nil ?_
   refine q_then (hK6 _ _ ?_)
   refine w_seq (fun K17 hK16 => ?_)
   refine w_seq (fun K19 hK18 => ?_)
   refine w_region ?_
   refine w_pure want_none (y_move (v := .int _ _) rfl rfl) rfl ?_
   refine w_pure want_none (y_neq rfl rfl rfl rfl) rfl ?_
   refine w_nil ?_
   refine q_then (hK18 _ _ ?_)
   refine w_cond rfl rfl (fun h20 => ?_) (fun h20 => ?_)
   ·
    try simp only [Bool.not_eq_true', Bool.not_eq_false', decide_eq_true_eq, decide_eq_false_iff_not, Int.not_lt, Int.not_le] at h20
    refine w_seq (fun K22 hK21 => ?_)
    refine w_region ?_
    refine w_pure want_none (y_move (v := .int _ _) rfl rfl) rfl ?_
    refine w_pure want_none (y_assign (v := _) rfl rfl) rfl ?_
    refine w_pure want_none (y_assign (v := .int _ _) rfl rfl) rfl ?_
    refine w_nil ?_
    refine q_then (hK21 _ _ ?_)
    refine w_ret ?_
    refine q_then_ret ?_
    refine q_ret (l := [.tmp 4, .tmp 5]) (vs := [_, _]) rfl ⟨⟨rfl, show _ = (.slice _ _ _ : Value) from rfl⟩, ⟨rfl, show _ = (.int _ _ : Value) from rfl⟩, trivial⟩ ?_
    have hq : gradeP l b = ([], enterE l (idxE b l.bunches.length)) := by unfold gradeP; rw [if_pos hee]
    exact ⟨[], none, 0, by rw [hq]; rfl, by rw [hq]; exact Sl.nil _ _, hs15.tail.tail.tail⟩
   ·
    exfalso
    try simp only [Bool.not_eq_true', Bool.not_eq_false', decide_eq_true_eq, decide_eq_false_iff_not, Int.not_lt, Int.not_le] at h20
    first | exact hee h20 | exact h20 hee
  ·
   replace hs15 := (show St _ _ (M ++ (_ :: _ :: _ :: _ :: F)) from hs15)
   have hk := lk_new hs15 hm.cons.cons.cons (enterE_zero hee).1
   have hew := enterE_zero hee
   have hbt := hk.bt
   have hlg := hk.ok.lg
   have hlb := hk.ok.lb
   have hlc := hk.ok.lc
   refine w_nil ?_
   refine qn ⟨hs15.drop.tail.tail.tail, ?_⟩
   refine d_any rfl want_none rfl (fun _ => (y_move (v := .tuple _) rfl rfl)) ?_
   refine d_any rfl want_none rfl (fun _ => (y_extract (v := .pointer _) rfl rfl rfl)) ?_
   refine d_any rfl want_none rfl (fun _ => (y_extract (v := .int _ _) rfl rfl rfl)) ?_
   refine d_any rfl want_none rfl (fun _ => (y_assign (v := .pointer _) rfl rfl)) ?_
   refine d_any rfl want_none rfl (fun _ => (y_assign (v := .int _ _) rfl rfl)) ?_
   refine d_nil ?_
   refine q_then (hK6 _ _ ?_)
   refine w_seq (fun K24 hK23 => ?_)
   refine w_seq (fun K26 hK25 => ?_)
   refine w_region ?_
   refine w_pure want_none (y_move (v := .int _ _) rfl rfl) rfl ?_
   refine w_pure want_none (y_neq rfl rfl rfl rfl) rfl ?_
   refine w_nil ?_
   refine q_then (hK25 _ _ ?_)
   refine w_condF rfl rfl ?_
   refine w_skip ?_
   refine q_then (hK23 _ _ ?_)
   refine w_seq (fun K28 hK27 => ?_)
   refine w_region ?_
   refine w_pure want_none (y_move (v := .pointer _) rfl rfl) rfl ?_
   refine w_pure want_none (y_move (v := .int _ _) rfl rfl) rfl ?_
   refine w_call want_none Try.call71 rfl rfl rfl rfl (bounds_at (X := []) l _ 0 lb mm hk b (idxE_zero hew.2.1) hM hs15) ?_
   rintro _ w30 ⟨rfl, M32, hM32, hs31⟩
   replace hs31 := (show St _ _ (M32 ++ (_ :: _ :: _ :: _ :: F)) from hs31)
   have hs33 := hs31.drop
   refine w_pure want_none (y_move (v := .tuple _) rfl rfl) rfl ?_
   refine w_pure want_none (y_extract (v := .agg _) rfl rfl rfl) rfl ?_
   refine w_pure want_none (y_extract (v := .int _ _) rfl rfl rfl) rfl ?_
   refine w_alloc (cs := [_, _]) want_none Try.zeroValue34 rfl hs33 (fun b34 w35 hs36 => ?_)
   refine w_store (i := 0) (v := .agg #[.int _ _, .int _ _]) (vs := [_, _]) want_none Try.sizeOf34 rfl rfl rfl rfl rfl (by simp [Value.oneCell']) hs36 rfl (Nat.le_of_ble_eq_true rfl) (fun w37 hs38 => ?_)
   refine w_pure want_none (y_assign (v := .int _ _) rfl rfl) rfl ?_
   refine w_nil ?_
   refine q_then (hK27 _ _ ?_)
   refine w_seq (fun K40 hK39 => ?_)
   refine w_region ?_
   refine w_pure want_none (y_move (v := .int _ _) rfl rfl) rfl ?_
   refine w_pure want_none (y_fieldAddr (o := 0) (i := 0) Try.underlying26 rfl Try.sizeOf22 rfl rfl rfl) rfl ?_
   refine w_pure want_none (y_load1 Try.isAgg22 hs38 rfl rfl (ats_own (i := 4) (vs := [_]) rfl rfl)) rfl ?_
   refine w_pure want_none (y_lenS Try.underlying22 rfl rfl) rfl ?_
   refine w_pure want_none (yd_cast (z' := ((l.grades.length + 1 : Nat) : Int)) (by omega) (y_add rfl rfl rfl rfl (by omega) (by omega))) rfl ?_
   refine w_call want_none Try.call75 rfl rfl rfl rfl (c75 _ _ (by have := setW_lt hk.ok b.toNat (Ha.ways l 0); omega) (by omega) hs38) ?_
   rintro _ w42 ⟨B, hown, hs43⟩
   replace hs43 := (show St _ _ (B ++ (_ :: _ :: _ :: _ :: _ :: F)) from hs43)
   obtain ⟨aL, cL, rfl, hslL, hnL, hcL⟩ := own_ints (w0 := w0) hown
   have hll := listL_le (setW l b.toNat (Ha.ways l 0)) (l.grades.length + 1)
   refine w_pure want_none (y_assign (v := .slice _ _ _) rfl rfl) rfl ?_
   refine w_nil ?_
   refine q_then (hK39 _ _ ?_)
   refine w_seq (fun K45 hK44 => ?_)
   refine w_region ?_
   refine w_pure want_none (y_move (v := .slice _ _ _) rfl rfl) rfl ?_
   refine w_pure want_none (y_lenS Try.underlying37 rfl rfl) rfl ?_
   refine w_makeInts (k := (listL (setW l b.toNat (Ha.ways l 0)) (l.grades.length + 1)).length) want_none Try.underlying37 Try_info3 rfl rfl (by omega) rfl rfl rfl rfl rfl hs43 (fun b46 w47 hs48 => ?_)
   refine w_pure want_none (y_assign (v := .slice _ _ _) rfl rfl) rfl ?_
   refine w_nil ?_
   refine q_then (hK44 _ _ ?_)
   refine w_seq (fun K50 hK49 => ?_)
   refine w_region ?_
   refine w_pure want_none (y_move (v := .slice _ _ _) rfl rfl) rfl ?_
   refine w_pure want_none (y_move (v := .slice _ _ _) rfl rfl) rfl ?_
   refine w_copyI (i := 0) want_none Try.underlying37 Try.sizeOf3 rfl rfl rfl rfl hs48 rfl hslL.top.cons (by first | omega | rfl | (simp only [dec_len, List.length_map, List.length_set, List.length_append, List.length_take, List.length_drop, List.length_replicate, List.length_cons, List.length_nil] <;> omega)) (by first | omega | rfl | (simp only [dec_len, List.length_map, List.length_set, List.length_append, List.length_take, List.length_drop, List.length_replicate, List.length_cons, List.length_nil] <;> omega)) (fun w51 hs52 => ?_)
   refine w_nil ?_
   refine q_then (hK49 _ _ ?_)
   refine w_seq (fun K54 hK53 => ?_)
   refine w_seq (fun K56 hK55 => ?_)
   refine w_region ?_
   refine w_pure want_none (y_move (v := .slice _ _ _) rfl rfl) rfl ?_
   refine w_pure want_none (y_lenS Try.underlying37 rfl rfl) rfl ?_
   refine w_pure want_none (y_move (v := _) rfl rfl) rfl ?_
   refine w_nil ?_
   refine q_then (hK55 _ _ ?_)
   refine w_block ?_
   refine w_loop [12, 46, 47, 48, 49, 50, 51, 52, 53, 54, 55] [46] (fun k vs w => ∃ (i : Nat), vs = [.int .i64 i] ∧ i ≤ (listL (setW l b.toNat (Ha.ways l 0)) (l.grades.length + 1)).length ∧ k = (listL (setW l b.toNat (Ha.ways l 0)) (l.grades.length + 1)).length - i ∧ St w0 w ((b46, blk 3 (iv (((listL (setW l b.toNat (Ha.ways l 0)) (l.grades.length + 1)).take i).map (· - 1) ++ (listL (setW l b.toNat (Ha.ways l 0)) (l.grades.length + 1)).drop i))) :: F)) ((listL (setW l b.toNat (Ha.ways l 0)) (l.grades.length + 1)).length) ?_ ?_
   ·
    exact ⟨0, rfl, by omega, by omega, by rw [← dec_start]; exact (kp_own (kp_own (kp_own (kp_own (kp_own (kp_opq hs52))))))⟩
   ·
    intro k vs μ w59 hI K58 hN57
    obtain ⟨i, rfl, hia, rfl, hs⟩ := hI
    refine w_seq (fun K61 hK60 => ?_)
    refine w_region ?_
    refine w_pure want_none (y_lss rfl rfl rfl rfl) rfl ?_
    refine w_nil ?_
    refine q_then (hK60 _ _ ?_)
    refine w_seq (fun K63 hK62 => ?_)
    refine w_cond rfl rfl (fun h64 => ?_) (fun h64 => ?_)
    ·
     try simp only [Bool.not_eq_true', Bool.not_eq_false', decide_eq_true_eq, decide_eq_false_iff_not, Int.not_lt, Int.not_le] at h64
     refine w_skip ?_
     refine q_then (hK62 _ _ ?_)
     refine w_seq (fun K66 hK65 => ?_)
     refine w_block ?_
     refine w_seq (fun K68 hK67 => ?_)
     refine w_region ?_
     refine w_pure want_none (y_move (v := .int _ _) rfl rfl) rfl ?_
     refine w_pure want_none (y_assign (v := .int _ _) rfl rfl) rfl ?_
     refine w_nil ?_
     refine q_then (hK67 _ _ ?_)
     have hi2 : i < (listL (setW l b.toNat (Ha.ways l 0)) (l.grades.length + 1)).length := by omega
     have hdg := dec_get (l := (listL (setW l b.toNat (Ha.ways l 0)) (l.grades.length + 1))) _ rfl i (by omega)
     refine w_region ?_
     refine w_pure want_none (y_move (v := .slice _ _ _) rfl rfl) rfl ?_
     refine w_pure want_none (y_move (v := .int _ _) rfl rfl) rfl ?_
     refine w_pure want_none (y_indexS Try.underlying37 Try.sizeOf3 rfl rfl rfl rfl (i := i) rfl (by omega)) rfl ?_
     refine w_pure want_none (y_load1 Try.isAgg3 hs rfl rfl (ats_ints (i := 0) (j := i) rfl (by first | omega | rfl | (simp only [dec_len, List.length_map, List.length_set, List.length_append, List.length_take, List.length_drop, List.length_replicate, List.length_cons, List.length_nil] <;> omega)))) rfl ?_
     refine w_pure want_none (y_sub rfl rfl rfl rfl (by omega) (by omega)) rfl ?_
     refine w_pure want_none (y_indexS Try.underlying37 Try.sizeOf3 rfl rfl rfl rfl (i := i) rfl (by omega)) rfl ?_
     refine w_storeAtI (i := 0) (j := i) want_none Try.sizeOf3 rfl rfl rfl rfl hs rfl (by first | omega | rfl | (simp only [dec_len, List.length_map, List.length_set, List.length_append, List.length_take, List.length_drop, List.length_replicate, List.length_cons, List.length_nil] <;> omega)) (fun w69 hs70 => ?_)
     refine w_nil ?_
     refine q_blk_normal ?_
     refine q_then (hK65 _ _ ?_)
     refine w_region ?_
     refine w_pure want_none (y_add rfl rfl rfl rfl (by omega) (by omega)) rfl ?_
     refine w_pure want_none (y_move (v := .int _ _) rfl rfl) rfl ?_
     refine w_nil ?_
     refine q_then (hN57 _ _ (Nx.intro ((listL (setW l b.toNat (Ha.ways l 0)) (l.grades.length + 1)).length - (i + 1)) (by omega) (by repeat (first | exact agree_mix | refine agree_upd rfl ?_ | refine agree_updL rfl ?_ _ | refine agree_mixin rfl ?_)) ?_))
     exact ⟨i + 1, rfl, by omega, rfl, by rw [← dec_step hi2]; exact hs70⟩
    ·
     try simp only [Bool.not_eq_true', Bool.not_eq_false', decide_eq_true_eq, decide_eq_false_iff_not, Int.not_lt, Int.not_le] at h64
     refine w_exit ?_
     refine q_then_exit ?_
     refine q_then_exit ?_
     refine q_blk_this ?_
     refine q_then (hK53 _ _ ?_)
     refine w_seq (fun K72 hK71 => ?_)
     refine w_region ?_
     refine w_pure want_none (y_move (v := .slice _ _ _) rfl rfl) rfl ?_
     refine w_pure want_none (y_assign (v := .slice _ _ _) rfl rfl) rfl ?_
     refine w_pure want_none (y_assign (v := _) rfl rfl) rfl ?_
     refine w_nil ?_
     refine q_then (hK71 _ _ ?_)
     refine w_ret ?_
     refine q_ret (l := [.tmp 4, .tmp 5]) (vs := [_, _]) rfl ⟨⟨rfl, show _ = (.slice _ _ _ : Value) from rfl⟩, ⟨rfl, show _ = (.int _ _ : Value) from rfl⟩, trivial⟩ ?_
     have hil : i = (listL (setW l b.toNat (Ha.ways l 0)) (l.grades.length + 1)).length := by omega
     subst hil
     have hq : gradeP l b = ((listL (setW l b.toNat (Ha.ways l 0)) (l.grades.length + 1)).map (· - 1), 0) := by unfold gradeP; rw [if_neg (by simp [hee])]
     rw [dec_end] at hs
     exact ⟨[_], some ⟨_, 0, none⟩, _, by rw [hq, List.length_map]; rfl, by rw [hq]; exact sl_ints_own (i := 0) rfl, hs⟩

theorem sure_yes {l : Lot} {ws : List (List Int)} {i : Nat} (h : ((setW l i ws : Nat) : Int) = 1) : sureTo l ws (i + 1) = sureTo l ws i ++ [(i : Int)] := by simp only [sureTo]; rw [if_pos (by omega)]
theorem sure_no {l : Lot} {ws : List (List Int)} {i : Nat} (h : ¬ ((setW l i ws : Nat) : Int) = 1) : sureTo l ws (i + 1) = sureTo l ws i := by simp only [sureTo]; rw [if_neg (by omega), List.append_nil]
theorem may_yes {l : Lot} {ws : List (List Int)} {i : Nat} (h : ((setW l i ws &&& 1 : Nat) : Int) = 1) : mayTo l ws (i + 1) = mayTo l ws i ++ [(i : Int)] := by simp only [mayTo]; rw [if_pos (by omega)]
theorem may_no {l : Lot} {ws : List (List Int)} {i : Nat} (h : ¬ ((setW l i ws &&& 1 : Nat) : Int) = 1) : mayTo l ws (i + 1) = mayTo l ws i := by simp only [mayTo]; rw [if_neg (by omega), List.append_nil]
theorem sure_len (l : Lot) (ws : List (List Int)) : ∀ n, (sureTo l ws n).length ≤ n
  | 0 => by simp [sureTo]
  | n + 1 => by have := sure_len l ws n; simp only [sureTo, List.length_append]; split <;> simp <;> omega
theorem may_len (l : Lot) (ws : List (List Int)) : ∀ n, (mayTo l ws n).length ≤ n
  | 0 => by simp [mayTo]
  | n + 1 => by have := may_len l ws n; simp only [mayTo, List.length_append]; split <;> simp <;> omega
theorem own_both {w0 w : World} {v1 v2 : Value} {l1 l2 : List Int} {B1 B2 F : List (Nat × Obj)} (h1 : Rt.Own v1 3 1 l1.length (iv l1) B1) (h2 : Rt.Own v2 3 1 l2.length (iv l2) B2) (hs : St w0 w ((B1 ++ B2) ++ F)) (e : Int) :
    ∃ B a1 c1 a2 c2, Value.tuple #[v1, v2, .int .i64 e] = .tuple #[.slice a1 l1.length c1, .slice a2 l2.length c2, .int .i64 e] ∧ Sl w0 B a1 1 (l1.map fun x => [Value.int .i64 x]) ∧ Sl w0 B a2 1 (l2.map fun x => [Value.int .i64 x]) ∧ St w0 w (B ++ F) := by
  obtain ⟨a1, c1, rfl, hs1, _⟩ := own_ints (w0 := w0) h1
  obtain ⟨a2, c2, rfl, hs2, _⟩ := own_ints (w0 := w0) h2
  exact ⟨B1 ++ B2, a1, c1, a2, c2, rfl, hs1.mono fun _ h => h.front, hs2.app, hs⟩
theorem c28 {w0 w : World} {F : List (Nat × Obj)} (l : Lot) (p : At3) (hm : LIn w0 F l p)  (hs : St w0 w F) :
  Con Try.prog 28 [.agg (l.cells p).toArray] w fun v w' => ∃ B a1 c1 a2 c2, v = .tuple #[.slice a1 (refusedP l).1.length c1, .slice a2 (refusedP l).2.1.length c2, .int .i64 (refusedP l).2.2] ∧ Sl w0 B a1 1 ((refusedP l).1.map fun x => [Value.int .i64 x]) ∧ Sl w0 B a2 1 ((refusedP l).2.1.map fun x => [Value.int .i64 x]) ∧ St w0 w' (B ++ F) := by
  refine con_of_wc (n := 45) Try.func28 rfl rfl (Nat.le_of_ble_eq_true rfl) ?_
  have hlb0 := hm.lb
  refine w_seq (fun K2 hK1 => ?_)
  refine w_region ?_
  refine w_box (v := .agg #[.slice _ _ _, .slice _ _ _, .slice _ _ _]) (cs := [_, _, _]) want_none rfl rfl rfl hs (fun b3 w4 hs5 => ?_)
  refine w_pure want_none (y_assign (v := _) rfl rfl) rfl ?_
  refine w_pure want_none (y_assign (v := _) rfl rfl) rfl ?_
  refine w_pure want_none (y_assign (v := _) rfl rfl) rfl ?_
  refine w_nil ?_
  refine q_then (hK1 _ _ ?_)
  refine w_seq (fun K7 hK6 => ?_)
  refine w_region ?_
  refine w_pure want_none (y_loadN (vs := [_, _, _]) Try.isAgg26 Try.sizeOf26 hs5 rfl rfl (ats_own (i := 0) (vs := [_, _, _]) rfl rfl)) rfl ?_
  refine w_call want_none Try.call69 rfl rfl rfl rfl (c69 l p hm.cons (.func (.func 82) #[] #[]) 0 (fun X w hs => fcon_fn Try.call82 (c82 hs)) hs5) ?_
  rintro _ w9 (⟨hee, rfl, hs10⟩ | ⟨hee, lb, mm, M, rfl, hM, hs10⟩)
  ·
   refine w_pure want_none (y_move (v := .tuple _) rfl rfl) rfl ?_
   refine w_pure want_none (y_extract (v := .pointer _) rfl rfl rfl) rfl ?_
   refine w_pure want_none (y_extract (v := .int _ _) rfl rfl rfl) rfl ?_
   refine w_pure want_none (y_assign (v := .pointer _) rfl rfl) rfl ?_
   refine w_pure want_none (y_assign (v := .int _ _) rfl rfl) rfl ?_
   refine w_nil ?_
   refine q_then (hK6 _ _ ?_)
   refine w_seq (fun K12 hK11 => ?_)
   refine w_seq (fun K14 hK13 => ?_)
   refine w_region ?_
   refine w_pure want_none (y_move (v := .int _ _) rfl rfl) rfl ?_
   refine w_pure want_none (y_neq rfl rfl rfl rfl) rfl ?_
   refine w_nil ?_
   refine q_then (hK13 _ _ ?_)
   refine w_cond rfl rfl (fun h15 => ?_) (fun h15 => ?_)
   ·
    try simp only [Bool.not_eq_true', Bool.not_eq_false', decide_eq_true_eq, decide_eq_false_iff_not, Int.not_lt, Int.not_le] at h15
    refine w_seq (fun K17 hK16 => ?_)
    refine w_region ?_
    refine w_pure want_none (y_move (v := .int _ _) rfl rfl) rfl ?_
    refine w_pure want_none (y_assign (v := _) rfl rfl) rfl ?_
    refine w_pure want_none (y_assign (v := _) rfl rfl) rfl ?_
    refine w_pure want_none (y_assign (v := .int _ _) rfl rfl) rfl ?_
    refine w_nil ?_
    refine q_then (hK16 _ _ ?_)
    refine w_ret ?_
    refine q_then_ret ?_
    refine q_ret (l := [.tmp 2, .tmp 3, .tmp 4]) (vs := [_, _, _]) rfl ⟨⟨rfl, show _ = (.slice _ _ _ : Value) from rfl⟩, ⟨rfl, show _ = (.slice _ _ _ : Value) from rfl⟩, ⟨rfl, show _ = (.int _ _ : Value) from rfl⟩, trivial⟩ ?_
    have hq : refusedP l = ([], [], enterE l 0) := by unfold refusedP; rw [if_pos hee]
    exact ⟨[], none, 0, none, 0, by rw [hq]; rfl, by rw [hq]; exact Sl.nil _ _, by rw [hq]; exact Sl.nil _ _, hs10.tail⟩
   ·
    exfalso
    try simp only [Bool.not_eq_true', Bool.not_eq_false', decide_eq_true_eq, decide_eq_false_iff_not, Int.not_lt, Int.not_le] at h15
    first | exact hee h15 | exact h15 hee
  ·
   replace hs10 := (show St _ _ (M ++ (_ :: _ :: F)) from hs10)
   have hk := lk_new hs10 hm.cons (enterE_zero hee).1
   have hew := enterE_zero hee
   have hbt := hk.bt
   have hlg := hk.ok.lg
   have hlb := hk.ok.lb
   have hlc := hk.ok.lc
   refine w_pure want_none (y_move (v := .tuple _) rfl rfl) rfl ?_
   refine w_pure want_none (y_extract (v := .pointer _) rfl rfl rfl) rfl ?_
   refine w_pure want_none (y_extract (v := .int _ _) rfl rfl rfl) rfl ?_
   refine w_pure want_none (y_assign (v := .pointer _) rfl rfl) rfl ?_
   refine w_pure want_none (y_assign (v := .int _ _) rfl rfl) rfl ?_
   refine w_nil ?_
   refine q_then (hK6 _ _ ?_)
   refine w_seq (fun K19 hK18 => ?_)
   refine w_seq (fun K21 hK20 => ?_)
   refine w_region ?_
   refine w_pure want_none (y_move (v := .int _ _) rfl rfl) rfl ?_
   refine w_pure want_none (y_neq rfl rfl rfl rfl) rfl ?_
   refine w_nil ?_
   refine q_then (hK20 _ _ ?_)
   refine w_condF rfl rfl ?_
   refine w_skip ?_
   refine q_then (hK18 _ _ ?_)
   refine w_seq (fun K23 hK22 => ?_)
   refine w_seq (fun K25 hK24 => ?_)
   have hbx : Ats w0 ((lb, blk 145 [.slice p.ag l.grades.length p.cg, .slice p.ab l.bunches.length p.cb, .slice p.ac l.counts.length p.cc, .int .i64 ((0 : Nat) : Int), .map (some mm)]) :: (b3, blk 26 (l.cells p)) :: F) b3 0 (l.cells p) := ats_own (i := 1) rfl rfl
   refine w_region ?_
   refine w_pure want_none (y_fieldAddr (o := 1) (i := 1) Try.underlying26 rfl Try.sizeOf23 rfl rfl rfl) rfl ?_
   refine w_pure want_none (y_load1 Try.isAgg23 hs10.drop rfl rfl (show Ats _ _ _ _ [_] from Ats.part hbx 1 1)) rfl ?_
   refine w_pure want_none (y_lenS Try.underlying23 rfl rfl) rfl ?_
   refine w_pure want_none (y_move (v := _) rfl rfl) rfl ?_
   refine w_nil ?_
   refine q_then (hK24 _ _ ?_)
   refine w_block ?_
   refine w_loop [2, 3, 6, 7, 8, 20, 21, 22, 23, 24, 25, 26, 27, 28, 29, 30, 31, 32, 33, 34, 35, 36, 37, 38, 39, 40, 41, 42] [2, 3, 20] (fun k vs w => ∃ (i : Nat) (v1 v2 : Value) (B1 B2 M : List (Nat × Obj)), vs = [v1, v2, .int .i64 i] ∧ i ≤ l.bunches.length ∧ k = l.bunches.length - i ∧ Rt.Own v1 3 1 (sureTo l (Ha.ways l 0) i).length (iv (sureTo l (Ha.ways l 0) i)) B1 ∧ Rt.Own v2 3 1 (mayTo l (Ha.ways l 0) i).length (iv (mayTo l (Ha.ways l 0) i)) B2 ∧ Memo l mm M ∧ St w0 w (B1 ++ (B2 ++ (M ++ ((lb, blk 145 [.slice p.ag l.grades.length p.cg, .slice p.ab l.bunches.length p.cb, .slice p.ac l.counts.length p.cc, .int .i64 ((0 : Nat) : Int), .map (some mm)]) :: (b3, blk 26 (l.cells p)) :: F))))) (l.bunches.length) ?_ ?_
   ·
    exact ⟨0, _, _, [], [], M, rfl, by omega, by omega, own_nil 3 1, own_nil 3 1, hM, hs10⟩
   ·
    intro k vs μ w28 hI K27 hN26
    obtain ⟨i, v1, v2, B1, B2, M, rfl, hia, rfl, hown1, hown2, hM, hs⟩ := hI
    refine w_seq (fun K30 hK29 => ?_)
    refine w_region ?_
    refine w_pure want_none (y_lss rfl rfl rfl rfl) rfl ?_
    refine w_nil ?_
    refine q_then (hK29 _ _ ?_)
    refine w_seq (fun K32 hK31 => ?_)
    refine w_cond rfl rfl (fun h33 => ?_) (fun h33 => ?_)
    ·
     try simp only [Bool.not_eq_true', Bool.not_eq_false', decide_eq_true_eq, decide_eq_false_iff_not, Int.not_lt, Int.not_le] at h33
     refine w_skip ?_
     refine q_then (hK31 _ _ ?_)
     refine w_seq (fun K35 hK34 => ?_)
     refine w_block ?_
     refine w_seq (fun K37 hK36 => ?_)
     refine w_region ?_
     refine w_pure want_none (y_move (v := .int _ _) rfl rfl) rfl ?_
     refine w_pure want_none (y_assign (v := .int _ _) rfl rfl) rfl ?_
     refine w_nil ?_
     refine q_then (hK36 _ _ ?_)
     refine w_seq (fun K39 hK38 => ?_)
     have hi2 : i < l.bunches.length := by omega
     have hsl := sure_len l (Ha.ways l 0) i
     have hml := may_len l (Ha.ways l 0) i
     have hsw := setW_lt hk.ok i (Ha.ways l 0)
     refine w_region ?_
     refine w_pure want_none (y_move (v := .pointer _) rfl rfl) rfl ?_
     refine w_pure want_none (y_move (v := .int _ _) rfl rfl) rfl ?_
     refine w_call want_none Try.call71 rfl rfl rfl rfl (c71 (X := (B1 ++ (B2))) l _ 0 lb mm hk i hi2 hM (St.cast (by simp only [List.append_assoc, List.cons_append] <;> rfl) hs)) ?_
     rintro _ w41 ⟨rfl, M43, hM43, hs42⟩
     replace hs42 : St _ _ (B1 ++ (B2 ++ (M43 ++ (_ :: _ :: F)))) := St.cast (by simp only [List.append_assoc, List.cons_append] <;> rfl) hs42
     refine w_pure want_none (y_move (v := .tuple _) rfl rfl) rfl ?_
     refine w_pure want_none (y_extract (v := .agg _) rfl rfl rfl) rfl ?_
     refine w_pure want_none (y_extract (v := .int _ _) rfl rfl rfl) rfl ?_
     refine w_alloc (cs := [_, _]) want_none Try.zeroValue34 rfl hs42 (fun b44 w45 hs46 => ?_)
     refine w_store (i := 0) (v := .agg #[.int _ _, .int _ _]) (vs := [_, _]) want_none Try.sizeOf34 rfl rfl rfl rfl rfl (by simp [Value.oneCell']) hs46 rfl (Nat.le_of_ble_eq_true rfl) (fun w47 hs48 => ?_)
     refine w_pure want_none (y_assign (v := .int _ _) rfl rfl) rfl ?_
     refine w_nil ?_
     refine q_then (hK38 _ _ ?_)
     refine w_seq (fun K50 hK49 => ?_)
     refine w_seq (fun K52 hK51 => ?_)
     refine w_region ?_
     refine w_pure want_none (y_move (v := .int _ _) rfl rfl) rfl ?_
     refine w_pure want_none (y_eql rfl rfl rfl rfl) rfl ?_
     refine w_nil ?_
     refine q_then (hK51 _ _ ?_)
     refine w_cond rfl rfl (fun h53 => ?_) (fun h53 => ?_)
     ·
      try simp only [Bool.not_eq_true', Bool.not_eq_false', decide_eq_true_eq, decide_eq_false_iff_not, Int.not_lt, Int.not_le] at h53
      refine w_region ?_
      refine w_pure want_none (y_move (v := v1) rfl rfl) rfl ?_
      refine w_pure want_none (y_move (v := .int _ _) rfl rfl) rfl ?_
      refine w_bslice (ps := [(0, _)]) (pv := [(0, .int _ _)]) (cs := [_]) want_none rfl rfl (fun w => Try_L_fb2 _ w) hs48 (fun b54 w55 hs56 => ?_)
      refine w_append (X := (_ :: _ :: [])) (B := B1) (rows := [[_]]) (sz := 1) (bytes := 8) want_none Try.underlying37 Try_info3 rfl rfl rfl rfl rfl rfl rfl rfl rfl hs56 hown1 (sl_own (i := 0) rfl (by simp) rfl) rfl (by simp) (by simp [Value.oneCell']) (by simp only [maxLen]; omega) (by omega) (fun v57 w58 B59 ho60 hs61 => ?_)
      replace hs61 := (show St _ _ (_ :: _ :: B59 ++ (B2 ++ (M43 ++ (_ :: _ :: F)))) from hs61)
      refine w_pure want_none (y_assign (v := v57) rfl rfl) rfl ?_
      refine w_nil ?_
      refine q_then (hK49 _ _ ?_)
      refine w_seq (fun K63 hK62 => ?_)
      refine w_region ?_
      refine w_pure want_none (y_move (v := .int _ _) rfl rfl) rfl ?_
      refine w_pure want_none (y_and (x := setW l i (Ha.ways l 0)) (y := 1) rfl rfl rfl rfl (by first | rfl | omega) rfl (by first | omega | exact shr_lt (by omega)) (by first | omega | exact shr_lt (by omega))) rfl ?_
      refine w_pure want_none (y_eql rfl rfl rfl rfl) rfl ?_
      refine w_nil ?_
      refine q_then (hK62 _ _ ?_)
      refine w_cond rfl rfl (fun h64 => ?_) (fun h64 => ?_)
      ·
       try simp only [Bool.not_eq_true', Bool.not_eq_false', decide_eq_true_eq, decide_eq_false_iff_not, Int.not_lt, Int.not_le] at h64
       refine w_region ?_
       refine w_pure want_none (y_move (v := v2) rfl rfl) rfl ?_
       refine w_pure want_none (y_move (v := .int _ _) rfl rfl) rfl ?_
       refine w_bslice (ps := [(0, _)]) (pv := [(0, .int _ _)]) (cs := [_]) want_none rfl rfl (fun w => Try_L_fb2 _ w) hs61 (fun b65 w66 hs67 => ?_)
       refine w_append (X := (_ :: _ :: _ :: B59)) (B := B2) (rows := [[_]]) (sz := 1) (bytes := 8) want_none Try.underlying37 Try_info3 rfl rfl rfl rfl rfl rfl rfl rfl rfl hs67 hown2 (sl_own (i := 0) rfl (by simp) rfl) rfl (by simp) (by simp [Value.oneCell']) (by simp only [maxLen]; omega) (by omega) (fun v68 w69 B70 ho71 hs72 => ?_)
       replace hs72 := (show St _ _ (_ :: _ :: _ :: B59 ++ (B70 ++ (M43 ++ (_ :: _ :: F)))) from hs72)
       refine w_pure want_none (y_assign (v := v68) rfl rfl) rfl ?_
       refine w_nil ?_
       refine q_blk_normal ?_
       refine q_then (hK34 _ _ ?_)
       refine w_region ?_
       refine w_pure want_none (y_add rfl rfl rfl rfl (by omega) (by omega)) rfl ?_
       refine w_pure want_none (y_move (v := .int _ _) rfl rfl) rfl ?_
       refine w_nil ?_
       refine q_then (hN26 _ _ (Nx.intro (l.bunches.length - (i + 1)) (by omega) (by repeat (first | exact agree_mix | refine agree_upd rfl ?_ | refine agree_updL rfl ?_ _ | refine agree_mixin rfl ?_)) ?_))
       exact ⟨i + 1, _, _, B59, B70, M43, rfl, by omega, rfl, by rw [sure_yes (by assumption)]; exact own_snoc ho60, by rw [may_yes (by assumption)]; exact own_snoc ho71, hM43, hs72.tail.tail.tail⟩
      ·
       try simp only [Bool.not_eq_true', Bool.not_eq_false', decide_eq_true_eq, decide_eq_false_iff_not, Int.not_lt, Int.not_le] at h64
       refine w_skip ?_
       refine q_blk_normal ?_
       refine q_then (hK34 _ _ ?_)
       refine w_region ?_
       refine w_pure want_none (y_add rfl rfl rfl rfl (by omega) (by omega)) rfl ?_
       refine w_pure want_none (y_move (v := .int _ _) rfl rfl) rfl ?_
       refine w_nil ?_
       refine q_then (hN26 _ _ (Nx.intro (l.bunches.length - (i + 1)) (by omega) (by repeat (first | exact agree_mix | refine agree_upd rfl ?_ | refine agree_updL rfl ?_ _ | refine agree_mixin rfl ?_)) ?_))
       exact ⟨i + 1, _, _, B59, B2, M43, rfl, by omega, rfl, by rw [sure_yes (by assumption)]; exact own_snoc ho60, by rw [may_no (by assumption)]; exact hown2, hM43, hs61.tail.tail⟩
     ·
      try simp only [Bool.not_eq_true', Bool.not_eq_false', decide_eq_true_eq, decide_eq_false_iff_not, Int.not_lt, Int.not_le] at h53
      refine w_skip ?_
      refine q_then (hK49 _ _ ?_)
      refine w_seq (fun K74 hK73 => ?_)
      refine w_region ?_
      refine w_pure want_none (y_move (v := .int _ _) rfl rfl) rfl ?_
      refine w_pure want_none (y_and (x := setW l i (Ha.ways l 0)) (y := 1) rfl rfl rfl rfl (by first | rfl | omega) rfl (by first | omega | exact shr_lt (by omega)) (by first | omega | exact shr_lt (by omega))) rfl ?_
      refine w_pure want_none (y_eql rfl rfl rfl rfl) rfl ?_
      refine w_nil ?_
      refine q_then (hK73 _ _ ?_)
      refine w_cond rfl rfl (fun h75 => ?_) (fun h75 => ?_)
      ·
       try simp only [Bool.not_eq_true', Bool.not_eq_false', decide_eq_true_eq, decide_eq_false_iff_not, Int.not_lt, Int.not_le] at h75
       refine w_region ?_
       refine w_pure want_none (y_move (v := v2) rfl rfl) rfl ?_
       refine w_pure want_none (y_move (v := .int _ _) rfl rfl) rfl ?_
       refine w_bslice (ps := [(0, _)]) (pv := [(0, .int _ _)]) (cs := [_]) want_none rfl rfl (fun w => Try_L_fb2 _ w) hs48 (fun b76 w77 hs78 => ?_)
       refine w_append (X := (_ :: _ :: B1)) (B := B2) (rows := [[_]]) (sz := 1) (bytes := 8) want_none Try.underlying37 Try_info3 rfl rfl rfl rfl rfl rfl rfl rfl rfl hs78 hown2 (sl_own (i := 0) rfl (by simp) rfl) rfl (by simp) (by simp [Value.oneCell']) (by simp only [maxLen]; omega) (by omega) (fun v79 w80 B81 ho82 hs83 => ?_)
       replace hs83 := (show St _ _ (_ :: _ :: B1 ++ (B81 ++ (M43 ++ (_ :: _ :: F)))) from hs83)
       refine w_pure want_none (y_assign (v := v79) rfl rfl) rfl ?_
       refine w_nil ?_
       refine q_blk_normal ?_
       refine q_then (hK34 _ _ ?_)
       refine w_region ?_
       refine w_pure want_none (y_add rfl rfl rfl rfl (by omega) (by omega)) rfl ?_
       refine w_pure want_none (y_move (v := .int _ _) rfl rfl) rfl ?_
       refine w_nil ?_
       refine q_then (hN26 _ _ (Nx.intro (l.bunches.length - (i + 1)) (by omega) (by repeat (first | exact agree_mix | refine agree_upd rfl ?_ | refine agree_updL rfl ?_ _ | refine agree_mixin rfl ?_)) ?_))
       exact ⟨i + 1, _, _, B1, B81, M43, rfl, by omega, rfl, by rw [sure_no (by assumption)]; exact hown1, by rw [may_yes (by assumption)]; exact own_snoc ho82, hM43, hs83.tail.tail⟩
      ·
       try simp only [Bool.not_eq_true', Bool.not_eq_false', decide_eq_true_eq, decide_eq_false_iff_not, Int.not_lt, Int.not_le] at h75
       refine w_skip ?_
       refine q_blk_normal ?_
       refine q_then (hK34 _ _ ?_)
       refine w_region ?_
       refine w_pure want_none (y_add rfl rfl rfl rfl (by omega) (by omega)) rfl ?_
       refine w_pure want_none (y_move (v := .int _ _) rfl rfl) rfl ?_
       refine w_nil ?_
       refine q_then (hN26 _ _ (Nx.intro (l.bunches.length - (i + 1)) (by omega) (by repeat (first | exact agree_mix | refine agree_upd rfl ?_ | refine agree_updL rfl ?_ _ | refine agree_mixin rfl ?_)) ?_))
       exact ⟨i + 1, _, _, B1, B2, M43, rfl, by omega, rfl, by rw [sure_no (by assumption)]; exact hown1, by rw [may_no (by assumption)]; exact hown2, hM43, hs48.tail⟩
    ·
     try simp only [Bool.not_eq_true', Bool.not_eq_false', decide_eq_true_eq, decide_eq_false_iff_not, Int.not_lt, Int.not_le] at h33
     refine w_exit ?_
     refine q_then_exit ?_
     refine q_then_exit ?_
     refine q_blk_this ?_
     refine q_then (hK22 _ _ ?_)
     refine w_seq (fun K85 hK84 => ?_)
     refine w_region ?_
     refine w_pure want_none (y_move (v := v1) rfl rfl) rfl ?_
     refine w_pure want_none (y_move (v := v2) rfl rfl) rfl ?_
     refine w_pure want_none (y_assign (v := v1) rfl rfl) rfl ?_
     refine w_pure want_none (y_assign (v := v2) rfl rfl) rfl ?_
     refine w_pure want_none (y_assign (v := _) rfl rfl) rfl ?_
     refine w_nil ?_
     refine q_then (hK84 _ _ ?_)
     refine w_ret ?_
     refine q_ret (l := [.tmp 2, .tmp 3, .tmp 4]) (vs := [_, _, _]) rfl ⟨⟨rfl, show _ = (v1 : Value) from rfl⟩, ⟨rfl, show _ = (v2 : Value) from rfl⟩, ⟨rfl, show _ = (.int _ _ : Value) from rfl⟩, trivial⟩ ?_
     have hil : i = l.bunches.length := by omega
     subst hil
     have hq : refusedP l = (sureTo l (Ha.ways l 0) l.bunches.length, mayTo l (Ha.ways l 0) l.bunches.length, 0) := by unfold refusedP; rw [if_neg (by simp [hee])]
     rw [hq]
     exact own_both hown1 hown2 (keep_two hs) 0

end Go.Proofs
/- The walking engine, part 15: loops that hold ranges over functions: the marks pile up. No conditions. -/
set_option linter.unusedSimpArgs false
set_option linter.unusedVariables false
namespace Go.Rt
open Go.RowKit
variable {r : Option Nat} {P : Program} {ops : Array Oper} {Q : Exit → Act → World → Prop} {rest : List Oper} {n : Nat} {ρ : Nat → Value} {ds : List Deferred} {w w0 : World} {L : List (Nat × Obj)}
/-- Marks, and the blocks that they name. -/
def mks (bs : List Nat) : List Deferred := bs.map mk
def dfs (bs : List Nat) : List (Nat × Obj) := bs.map fun b => (b, .deferred (some []))
def NxD (n : Nat) (D S : List Nat) (ρ : Nat → Value) (I : Nat → List Value → List Nat → World → Prop) (k : Nat) (a : Act) (w : World) : Prop :=
  ∃ ρ' k' bs', a = A n ρ' (mks bs') ∧ Agree D ρ ρ' ∧ k' < k ∧ I k' (S.map ρ') bs' w
theorem NxD.intro {D S : List Nat} {I : Nat → List Value → List Nat → World → Prop} {k : Nat} {ρ' : Nat → Value} (bs' : List Nat) (k' : Nat) (hk : k' < k) (ha : Agree D ρ ρ') (hI : I k' (S.map ρ') bs' w) : NxD n D S ρ I k (A n ρ' (mks bs')) w :=
  ⟨ρ', k', bs', rfl, ha, hk, hI⟩
open Classical in
theorem w_loopD {c : Code} (D S : List Nat) (I : Nat → List Value → List Nat → World → Prop) (k0 : Nat) (bs0 : List Nat) (h0 : I k0 (S.map ρ) bs0 w)
    (round : ∀ k vs μ bs w, I k vs bs w → ∀ K : Act → World → Prop, (∀ a w, NxD n D S ρ I k a w → K a w) → WC r P c (Exit.then K Q) (A n (updL (mix D ρ μ) S vs) (mks bs)) w) :
    WC r P (.loop c) Q (A n ρ (mks bs0)) w := by
  let J : Nat → Act → World → Prop := fun k a w => ∃ vs μ bs, a = A n (updL (mix D ρ μ) S vs) (mks bs) ∧ I k vs bs w
  refine wpIn_loop (fun a w => ∃ k, J k a w) (fun a w => leastOf fun k => J k a w) ⟨k0, S.map ρ, ρ, bs0, by rw [mixL_self S agree_refl], h0⟩ ?_
  intro a w hI
  obtain ⟨vs, μ, bs, ha, hi⟩ := (leastOf_spec hI).1
  subst ha
  refine wpIn_mono (round _ vs μ bs w hi _ fun _ _ h => h) ?_
  intro e a' w' hq
  cases e with
  | normal =>
    obtain ⟨ρ', k', bs', rfl, hag, hlt, hI'⟩ := hq
    have hJ : J k' (A n ρ' (mks bs')) w' := ⟨S.map ρ', ρ', bs', by rw [mixL_self S hag], hI'⟩
    exact show (∃ k, J k (A n ρ' (mks bs')) w') ∧ leastOf (fun k => J k (A n ρ' (mks bs')) w') < leastOf (fun k => J k _ w) from ⟨⟨k', hJ⟩, Nat.lt_of_le_of_lt ((leastOf_spec ⟨k', hJ⟩).2 k' hJ) hlt⟩
  | exit id => exact hq
  | goto l => exact hq
  | ret => exact hq
  | panic ch => exact hq
  | outgrown => exact hq
theorem leavesMM {fn : Func} {l : List ResultVar} {vs : List Value} {R : Value → World → Prop} (hl : fn.results = l.toArray) : ∀ (bs : List Nat) (w : World), St w0 w (dfs bs ++ L) → (∀ w', St w0 w' L → RVs P ρ n w' l vs ∧ R (retV vs) w') →
    LeavesInM (FW none) 0 P fn (fa n ρ) (fun e w' => ∃ v, e = .returned v ∧ R v w') (mks bs) .returning w
  | [], w, hst, h => by
    obtain ⟨h1, h2⟩ := h _ hst
    exact ⟨_, results_A hl h1, _, rfl, h2⟩
  | bd :: bs, w, hst, h => by
    have hst1 : St w0 w ((bd, .deferred (some [])) :: (dfs bs ++ L)) := hst
    exact ⟨by simp, .inl ⟨bd, _, rfl, run_takeDeferred (hst1.get (i := 0) rfl), leavesMM hl bs _ (hst1.putObj (i := 0) rfl _).tail h⟩⟩
theorem q_retMM {fn : Func} {l : List ResultVar} {vs : List Value} {R : Value → World → Prop} {bs : List Nat} (hst : St w0 w (dfs bs ++ L)) (hl : fn.results = l.toArray)
    (h : ∀ w', St w0 w' L → RVs P ρ n w' l vs ∧ R (retV vs) w') :
    bodyPostM (FW none) 0 P fn (fun e w' => ∃ v, e = .returned v ∧ R v w') .ret (A n ρ (mks bs)) w := leavesMM hl bs w hst h
end Go.Rt
