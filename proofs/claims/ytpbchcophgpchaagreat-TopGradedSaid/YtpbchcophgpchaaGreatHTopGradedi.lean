/- Own texts of this claim, joined. No conditions. -/
import Derived.Test.YtpbchcophgpchaaGreatHTopGradeda
import Derived.Test.YtpbchcophgpchaaGreatHTopGradedb
import Derived.Test.YtpbchcophgpchaaGreatHTopGradedc
import Derived.Test.YtpbchcophgpchaaGreatHTopGradedd
import Derived.Test.YtpbchcophgpchaaGreatHTopGradede
import Derived.Test.YtpbchcophgpchaaGreatHTopGradedf
import Derived.Test.YtpbchcophgpchaaGreatHTopGradedg
import Derived.Test.YtpbchcophgpchaaGreatHTopGradedh
set_option linter.unusedVariables false
set_option linter.unusedSimpArgs false
set_option maxRecDepth 20000
namespace Go.Proofs.Cb
open Go.Proofs.Tryz
open Go.Rt Go.Rt.Ca
attribute [local irreducible] WL WC Con Yd At Ats Sl Agree DW
theorem zC9 : Tryz.prog.info? 3 = some Tryz.t3 := by kernel_rfl
theorem drop_plan {w0 w : World} {b6 bq b5 pb b1 : Nat × Obj} {M F : List (Nat × Obj)} (h : St w0 w (b6 :: (M ++ (bq :: b5 :: pb :: b1 :: F)))) : St w0 w F := h.tail.drop.tail.tail.tail.tail
theorem drop_plan2 {w0 w : World} {bs b6 bq b5 pb b1 : Nat × Obj} {M F : List (Nat × Obj)} (h : St w0 w (bs :: b6 :: (M ++ (bq :: b5 :: pb :: b1 :: F)))) : St w0 w (bs :: F) := by
  have e : bs :: b6 :: (M ++ (bq :: b5 :: pb :: b1 :: F)) = bs :: ((b6 :: (M ++ [bq, b5, pb, b1])) ++ F) := by simp
  rw [e] at h
  exact keep_front h
theorem c11 {w0 w : World} {F : List (Nat × Obj)} (p : Port) (a : Option Addr) (c : Nat) (hl3 : p.farms.length ≤ 9223372036854775807) (hc : p.farms.length ≤ c) (ha : Sl w0 F a 6 (rows p.farms)) (hnm : ∀ f ∈ p.farms, f.name.size ≤ 9223372036854775807)  (hs : St w0 w F) :
  Con Tryz.prog 11 [.agg (p.cells a c).toArray] w fun v w' => ∃ B aq cq, v = .tuple #[.slice aq (planL p).length cq, .int .i64 (planV p), .int .i64 (planE p)] ∧ Sl w0 (B ++ F) aq 1 ((planL p).map fun x => [Value.int .i64 x]) ∧ St w0 w' (B ++ F) := by
  refine zAw (n := 39) func11 rfl rfl (Nat.le_of_ble_eq_true rfl) ?_
  refine zAg (fun K2 hK1 => ?_)
  refine zAb (zB3 (v := .agg #[.int _ _, .int _ _, .int _ _, .slice _ _ _]) (cs := [_, _, _, _]) zAa rfl rfl rfl hs (fun b3 w4 hs5 => ?_))
  refine w_p (zAc (v := _) rfl rfl) rfl ?_
  refine w_p (zAc (v := _) rfl rfl) rfl ?_
  refine w_p (zAc (v := _) rfl rfl) rfl ?_
  refine zAf (zAd (hK1 _ _ ?_))
  refine zAg (fun K7 hK6 => ?_)
  refine zAg (fun K9 hK8 => ?_)
  refine zAb (w_p (zA6 (vs := [_, _, _, _]) isAgg31 sizeOf31 hs5 rfl rfl (zAj (i := 0) (vs := [_, _, _, _]) rfl rfl)) rfl ?_)
  refine zAt zAa call48 rfl rfl rfl rfl (c48 p _ _ (by omega) (by omega) ha.cons hnm hs5) ?_
  rintro _ w11 ⟨rfl, hs12⟩
  refine w_p (zAe (v := .tuple _) rfl rfl) rfl ?_
  refine w_p (zAq (v := .int _ _) rfl rfl rfl) rfl ?_
  refine w_p (zAq (v := .int _ _) rfl rfl rfl) rfl ?_
  refine w_p (zAq (v := .int _ _) rfl rfl rfl) rfl ?_
  refine w_p (zAc (v := .int _ _) rfl rfl) rfl ?_
  refine zAf (zAd (hK8 _ _ ?_))
  refine zAg (fun K14 hK13 => ?_)
  refine zAb (w_p (zAe (v := .int _ _) rfl rfl) rfl ?_)
  refine w_p (zCc rfl rfl rfl rfl) rfl ?_
  refine zAf (zAd (hK13 _ _ ?_))
  refine zAz rfl rfl (fun h15 => ?_) (fun h15 => ?_)
  ·
   try simp only [zS] at h15
   refine zAg (fun K17 hK16 => ?_)
   refine zAb (w_p (zAe (v := .int _ _) rfl rfl) rfl ?_)
   refine w_p (zAc (v := _) rfl rfl) rfl ?_
   refine w_p (zAc (v := _) rfl rfl) rfl ?_
   refine w_p (zAc (v := .int _ _) rfl rfl) rfl ?_
   refine zAf (zAd (hK16 _ _ ?_))
   refine zA2 (zAm (zA3 (l := [.tmp 2, .tmp 3, .tmp 4]) (vs := [_, _, _]) rfl ⟨⟨rfl, show _ = (.slice _ _ _ : Value) from rfl⟩, ⟨rfl, (rfl : _ = Value.int _ _)⟩, ⟨rfl, (rfl : _ = Value.int _ _)⟩, trivial⟩ ?_))
   first
     | (obtain ⟨e1, e2, e3⟩ := plan_e1 (p := p) (by assumption)
        refine ⟨[], none, 0, ?_, ?_, hs12.tail⟩
        · rw [e1, e2, e3]; rfl
        · rw [e1]; exact Sl.nil _ _)
     | (obtain ⟨e1, e2, e3⟩ := plan_e2 (p := p) (by assumption) (by assumption)
        refine ⟨[], none, 0, ?_, ?_, drop_plan hs12⟩
        · rw [e1, e2, e3]; rfl
        · rw [e1]; exact Sl.nil _ _)
     | (obtain ⟨hpl, e2, e3⟩ := plan_ok (p := p) (by assumption) (by assumption)
        have hlp : (planL p).length = p.farms.length := by rw [hpl, List.length_take]; omega
        have hcs : (best p (doP p)).b.take p.farms.length ++ (List.replicate p.farms.length 0).drop 3 = planL p := by rw [hpl, List.drop_of_length_le (by simp; omega), List.append_nil]
        have hfin := drop_plan2 hs12
        rw [hcs] at hfin
        refine ⟨[_], _, p.farms.length, ?_, zDh (i := 0) rfl, hfin⟩
        rw [hlp, e2, e3]; rfl)
  try simp only [zS] at h15
  refine zAx (zAd (hK6 _ _ ?_))
  refine zAg (fun K19 hK18 => ?_)
  have hok := check_ok (by assumption)
  have hlen3 := hok.len
  refine zAb (w_p (zA6 (vs := [_, _, _, _]) isAgg31 sizeOf31 hs12 rfl rfl (zAj (i := 0) (vs := [_, _, _, _]) rfl rfl)) rfl ?_)
  refine zAt zAa call49 rfl rfl rfl rfl (c49 p _ _ hs12) ?_
  rintro _ w21 ⟨m, pb, rfl, hs22⟩
  refine zA9 (cs := [_]) zAa zeroValue103 rfl hs22 (fun b23 w24 hs25 => ?_)
  refine zA5 (i := 0) (v := .pointer _) (vs := [_]) zAa sizeOf103 rfl rfl rfl rfl rfl (by simp [Value.oneCell']) hs25 rfl (Nat.le_of_ble_eq_true rfl) (fun w26 hs27 => ?_)
  refine zAf (zAd (hK18 _ _ ?_))
  refine zAg (fun K29 hK28 => ?_)
  refine zAb (w_p (zAk isAgg103 hs27 rfl rfl (zAj (i := 0) (vs := [_]) rfl rfl)) rfl ?_)
  refine zAt zAa call51 rfl rfl rfl rfl (c51 _ hs27) ?_
  rintro _ w31 ⟨bq, rfl, hs32⟩
  refine w_p (zB9 (fv := []) (cv := [_]) rfl rfl rfl rfl) rfl ?_
  refine zAt zAa call50 rfl rfl rfl rfl (c50 (X := []) (M := [_]) (F := ((bq, blk 103 [.pointer (some ⟨pb, 0, none⟩)]) :: (b23, blk 103 [.pointer (some ⟨pb, 0, none⟩)]) :: (pb, blk 151 [.int .i64 p.hold, .int .i64 p.clo, .int .i64 p.chi, .slice a p.farms.length c, .map (some m)]) :: (b3, blk 31 (p.cells a c)) :: F)) p _ c m pb (zAj (i := 2) (vs := [_, _, _, _, _]) rfl rfl) ha.cons.cons.cons.cons hok bq b23 (zAj (i := 0) (vs := [_]) rfl rfl) (zAj (i := 1) (vs := [_]) rfl rfl) (memo_new _ _ _) (hs32.perm (zBe [_, _] [_] _))) ?_
  rintro _ w34 ⟨rfl, M1, hM1, hs35⟩
  have hb1 : Ats w0 ((bq, blk 103 [.pointer (some ⟨pb, 0, none⟩)]) :: (b23, blk 103 [.pointer (some ⟨pb, 0, none⟩)]) :: (pb, blk 151 [.int .i64 p.hold, .int .i64 p.clo, .int .i64 p.chi, .slice a p.farms.length c, .map (some m)]) :: (b3, blk 31 (p.cells a c)) :: F) b3 0 (p.cells a c) := zAj (i := 3) (vs := p.cells a c) rfl rfl
  have hb5 : Ats w0 ((bq, blk 103 [.pointer (some ⟨pb, 0, none⟩)]) :: (b23, blk 103 [.pointer (some ⟨pb, 0, none⟩)]) :: (pb, blk 151 [.int .i64 p.hold, .int .i64 p.clo, .int .i64 p.chi, .slice a p.farms.length c, .map (some m)]) :: (b3, blk 31 (p.cells a c)) :: F) b23 0 [.pointer (some ⟨pb, 0, none⟩)] := zAj (i := 1) (vs := [_]) rfl rfl
  have hpx : Ats w0 ((bq, blk 103 [.pointer (some ⟨pb, 0, none⟩)]) :: (b23, blk 103 [.pointer (some ⟨pb, 0, none⟩)]) :: (pb, blk 151 [.int .i64 p.hold, .int .i64 p.clo, .int .i64 p.chi, .slice a p.farms.length c, .map (some m)]) :: (b3, blk 31 (p.cells a c)) :: F) pb 0 [.int .i64 p.hold, .int .i64 p.clo, .int .i64 p.chi, .slice a p.farms.length c, .map (some m)] := zAj (i := 2) (vs := [_, _, _, _, _]) rfl rfl
  replace hs35 := (show St _ _ (M1 ++ (_ :: _ :: _ :: _ :: F)) from hs35)
  have hb3 := best_len (p := p) (doP_len (p := p)) (doP p).length
  have hbi := best_in (p := p) (doP_in (p := p)) (doP p).length
  rw [bestUpto_all (Nat.le_refl _)] at hb3 hbi
  refine w_p (zAe (v := .tuple _) rfl rfl) rfl ?_
  refine w_p (zAq (v := (ia _)) rfl rfl rfl) rfl ?_
  refine w_p (zAq (v := .bool _) rfl rfl rfl) rfl ?_
  refine zA9 (cs := iv [0, 0, 0]) zAa zeroValue106 rfl hs35 (fun b36 w37 hs38 => ?_)
  refine zCa (i := 0) (l := _) zAa sizeOf106 (by first | omega | rfl | (simp only [hb3, List.length_map, List.length_set, List.length_append, List.length_take, List.length_drop, List.length_replicate, List.length_cons, List.length_nil] <;> omega)) rfl rfl rfl rfl rfl hs38 rfl (by first | omega | rfl | (simp only [hb3, List.length_map, List.length_set, List.length_append, List.length_take, List.length_drop, List.length_replicate, List.length_cons, List.length_nil] <;> omega)) (fun w39 hs40 => ?_)
  refine w_p (zAc (v := .bool _) rfl rfl) rfl ?_
  refine zAf (zAd (hK28 _ _ ?_))
  refine zAg (fun K42 hK41 => ?_)
  refine zAg (fun K44 hK43 => ?_)
  refine zAb (w_p (zAe (v := .bool _) rfl rfl) rfl ?_)
  refine w_p (zDc rfl rfl) rfl ?_
  refine zAf (zAd (hK43 _ _ ?_))
  refine zAz rfl rfl (fun h45 => ?_) (fun h45 => ?_)
  ·
   try simp only [zS] at h45
   refine zAg (fun K47 hK46 => ?_)
   refine zAb (w_p (zAc (v := _) rfl rfl) rfl ?_)
   refine w_p (zAc (v := _) rfl rfl) rfl ?_
   refine w_p (zAc (v := _) rfl rfl) rfl ?_
   refine zAf (zAd (hK46 _ _ ?_))
   refine zA2 (zAm (zA3 (l := [.tmp 2, .tmp 3, .tmp 4]) (vs := [_, _, _]) rfl ⟨⟨rfl, show _ = (.slice _ _ _ : Value) from rfl⟩, ⟨rfl, (rfl : _ = Value.int _ _)⟩, ⟨rfl, (rfl : _ = Value.int _ _)⟩, trivial⟩ ?_))
   first
     | (obtain ⟨e1, e2, e3⟩ := plan_e1 (p := p) (by assumption)
        refine ⟨[], none, 0, ?_, ?_, hs40.tail.drop.tail.tail.tail.tail⟩
        · rw [e1, e2, e3]; rfl
        · rw [e1]; exact Sl.nil _ _)
     | (obtain ⟨e1, e2, e3⟩ := plan_e2 (p := p) (by assumption) (by assumption)
        refine ⟨[], none, 0, ?_, ?_, drop_plan hs40⟩
        · rw [e1, e2, e3]; rfl
        · rw [e1]; exact Sl.nil _ _)
     | (obtain ⟨hpl, e2, e3⟩ := plan_ok (p := p) (by assumption) (by assumption)
        have hlp : (planL p).length = p.farms.length := by rw [hpl, List.length_take]; omega
        have hcs : (best p (doP p)).b.take p.farms.length ++ (List.replicate p.farms.length 0).drop 3 = planL p := by rw [hpl, List.drop_of_length_le (by simp; omega), List.append_nil]
        have hfin := drop_plan2 hs40
        rw [hcs] at hfin
        refine ⟨[_], _, p.farms.length, ?_, zDh (i := 0) rfl, hfin⟩
        rw [hlp, e2, e3]; rfl)
  try simp only [zS] at h45
  refine zAx (zAd (hK41 _ _ ?_))
  refine zAg (fun K49 hK48 => ?_)
  refine zAb (w_p (zAh (o := 3) (i := 2) underlying31 rfl sizeOf29 rfl rfl rfl) rfl ?_)
  refine w_p (zAk isAgg29 hs40.tail.drop rfl rfl (show Ats _ _ _ _ [_] from Ats.part hb1 3 1)) rfl ?_
  refine w_p (zBd underlying29 rfl rfl) rfl ?_
  refine w_makeInts (k := p.farms.length) zAa underlying43 zC9 rfl rfl (by omega) rfl rfl rfl rfl rfl hs40 (fun b50 w51 hs52 => ?_)
  refine w_p (zAc (v := .slice _ _ _) rfl rfl) rfl ?_
  refine zAf (zAd (hK48 _ _ ?_))
  refine zAg (fun K54 hK53 => ?_)
  refine zAb (w_p (zAe (v := .slice _ _ _) rfl rfl) rfl ?_)
  refine w_p (y_sliceA underlying106 sizeOf3 rfl rfl) rfl ?_
  refine w_copyI (i := 0) zAa underlying43 sizeOf3 rfl rfl rfl rfl hs52 rfl (zDh (i := 1) rfl) (by first | omega | rfl | (simp only [hb3, List.length_map, List.length_set, List.length_append, List.length_take, List.length_drop, List.length_replicate, List.length_cons, List.length_nil] <;> omega)) (by first | omega | rfl | (simp only [hb3, List.length_map, List.length_set, List.length_append, List.length_take, List.length_drop, List.length_replicate, List.length_cons, List.length_nil] <;> omega)) (fun w55 hs56 => ?_)
  refine zAf (zAd (hK53 _ _ ?_))
  refine zAg (fun K58 hK57 => ?_)
  refine zAb (w_p (zAe (v := .slice _ _ _) rfl rfl) rfl ?_)
  refine w_p (zAk isAgg103 hs56.tail.tail.drop rfl rfl hb5) rfl ?_
  refine w_p (zB4 (i := 1) isAgg106 sizeOf106 (by first | omega | rfl | (simp only [hb3, List.length_map, List.length_set, List.length_append, List.length_take, List.length_drop, List.length_replicate, List.length_cons, List.length_nil] <;> omega)) hs56 rfl rfl rfl) rfl ?_
  refine zAt zAa call53 rfl rfl rfl rfl (c53 (X := [_, _]) (F := ((bq, blk 103 [.pointer (some ⟨pb, 0, none⟩)]) :: (b23, blk 103 [.pointer (some ⟨pb, 0, none⟩)]) :: (pb, blk 151 [.int .i64 p.hold, .int .i64 p.clo, .int .i64 p.chi, .slice a p.farms.length c, .map (some m)]) :: (b3, blk 31 (p.cells a c)) :: F)) p _ c m pb hpx ha.cons.cons.cons.cons hok _ hb3 hbi hM1 hs56) ?_
  rintro _ w60 ⟨rfl, M2, hM2, hs61⟩
  replace hs61 := (show St _ _ (_ :: _ :: M2 ++ (_ :: _ :: _ :: _ :: F)) from hs61)
  refine w_p (zAc (v := .slice _ _ _) rfl rfl) rfl ?_
  refine w_p (zAc (v := .int _ _) rfl rfl) rfl ?_
  refine w_p (zAc (v := _) rfl rfl) rfl ?_
  refine zAf (zAd (hK57 _ _ ?_))
  refine zA2 (zA3 (l := [.tmp 2, .tmp 3, .tmp 4]) (vs := [_, _, _]) rfl ⟨⟨rfl, show _ = (.slice _ _ _ : Value) from rfl⟩, ⟨rfl, (rfl : _ = Value.int _ _)⟩, ⟨rfl, (rfl : _ = Value.int _ _)⟩, trivial⟩ ?_)
  first
    | (obtain ⟨e1, e2, e3⟩ := plan_e1 (p := p) (by assumption)
       refine ⟨[], none, 0, ?_, ?_, hs61.tail.tail.drop.tail.tail.tail.tail⟩
       · rw [e1, e2, e3]; rfl
       · rw [e1]; exact Sl.nil _ _)
    | (obtain ⟨e1, e2, e3⟩ := plan_e2 (p := p) (by assumption) (by assumption)
       refine ⟨[], none, 0, ?_, ?_, drop_plan hs61⟩
       · rw [e1, e2, e3]; rfl
       · rw [e1]; exact Sl.nil _ _)
    | (obtain ⟨hpl, e2, e3⟩ := plan_ok (p := p) (by assumption) (by assumption)
       have hlp : (planL p).length = p.farms.length := by rw [hpl, List.length_take]; omega
       have hcs : (best p (doP p)).b.take p.farms.length ++ (List.replicate p.farms.length 0).drop 3 = planL p := by rw [hpl, List.drop_of_length_le (by simp; omega), List.append_nil]
       have hfin := drop_plan2 hs61
       rw [hcs] at hfin
       refine ⟨[_], _, p.farms.length, ?_, zDh (i := 0) rfl, hfin⟩
       rw [hlp, e2, e3]; rfl)

end Go.Proofs.Cb
set_option maxRecDepth 20000
namespace Go.Proofs.Cb
open Go.Proofs.Tryz
open Go.Rt Go.Rt.Ca
attribute [local irreducible] WL WC Con Yd At Ats Sl Agree DW
theorem Try_CP_fb8 (x0 : Int) (w : World) : (Instr.buildSlice 43 1 [(0, .int .i64 x0)].toArray).run Tryz.prog w = .ok (.slice (some ⟨w.heap.size, 0, none⟩) 1 1) (w.alloc (Go.Rt.blk 3 [.int .i64 x0])) := by kernel_rfl
theorem held_e1 {p : Port} {z : Int} (h : ¬ (check p).2.2 = 0) : heldD p z = 0 ∧ heldE p z = (check p).2.2 := by
  unfold heldD heldE
  rw [if_neg (fun hh => h hh.1), if_neg h]; exact ⟨rfl, rfl⟩
theorem held_e2 {p : Port} {z : Int} (h : (check p).2.2 = 0) (h2 : [z].any (out 0 (p.farms.length - 1)) = true) : heldD p z = 0 ∧ heldE p z = 4 := by
  simp only [List.any_cons, List.any_nil, Bool.or_false] at h2
  unfold heldD heldE
  rw [h2]; simp [h]
theorem held_fi {p : Port} {z : Int} (h2 : [z].any (out 0 (p.farms.length - 1)) = false) : ∃ f : Nat, z = f ∧ f < p.farms.length ∧ out 0 (p.farms.length - 1) z = false := by
  simp only [List.any_cons, List.any_nil, Bool.or_false] at h2
  have := (out_iff _ _ _).1 h2
  exact ⟨z.toNat, by omega, by omega, h2⟩
theorem held_never {p : Port} {f : Nat} (h : (check p).2.2 = 0) (h2 : out 0 (p.farms.length - 1) (f : Int) = false) (h3 : ((doP p).any fun l => decide (l.getD f 0 = -1)) = true) (hne : 0 < (doC p).length) : heldD p f = -1 ∧ heldE p f = 0 := by
  unfold heldD heldE
  rw [h2, Int.toNat_natCast, h3]
  have : doC p ≠ [] := fun e => by rw [e] at hne; simp at hne
  simp [h, this]
theorem held_some {p : Port} {f : Nat} (h : (check p).2.2 = 0) (h2 : out 0 (p.farms.length - 1) (f : Int) = false) (h3 : ((doP p).any fun l => decide (l.getD f 0 = -1)) = false) (hne : 0 < (doC p).length) : heldD p f = held p f ∧ heldE p f = 0 := by
  unfold heldD heldE
  rw [h2, Int.toNat_natCast, h3]
  have : doC p ≠ [] := fun e => by rw [e] at hne; simp at hne
  simp [h, this]
theorem held_down {p : Port} {f : Nat} (h : (check p).2.2 = 0) (h2 : out 0 (p.farms.length - 1) (f : Int) = false) (h3 : (doC p).length = 0) : heldD p f = 0 ∧ heldE p f = 9 := by
  have h4 : doC p = [] := List.length_eq_zero_iff.1 h3
  unfold heldD heldE held doP
  rw [h2, h4]; simp [h]
theorem c37 {w0 w : World} {F : List (Nat × Obj)} (p : Port) (a : Option Addr) (c : Nat) (hl3 : p.farms.length ≤ 9223372036854775807) (hc : p.farms.length ≤ c) (ha : Sl w0 F a 6 (rows p.farms)) (hnm : ∀ f ∈ p.farms, f.name.size ≤ 9223372036854775807) (z : Int) (hs : St w0 w F) :
  Con Tryz.prog 37 [.agg (p.cells a c).toArray, .int .i64 z] w fun v w' => v = .tuple #[.int .i64 (heldD p z), .int .i64 (heldE p z)] ∧ St w0 w' F := by
  refine zDe (n := 46) func37 rfl rfl (Nat.le_of_ble_eq_true rfl) ?_
  refine zAg (fun K2 hK1 => ?_)
  refine zAb (zB3 (v := .agg #[.int _ _, .int _ _, .int _ _, .slice _ _ _]) (cs := [_, _, _, _]) zAa rfl rfl rfl hs (fun b3 w4 hs5 => ?_))
  refine zB3 (v := .int _ _) (cs := [_]) zAa rfl rfl rfl hs5 (fun b6 w7 hs8 => ?_)
  refine zA9 (cs := [_]) zAa zeroValue3 rfl hs8 (fun b9 w10 hs11 => ?_)
  refine zA9 (cs := [_]) zAa zeroValue36 rfl hs11 (fun b12 w13 hs14 => ?_)
  refine zAf (zAd (hK1 _ _ ?_))
  refine zAg (fun K16 hK15 => ?_)
  refine zAb (w_p (zA6 (vs := [_, _, _, _]) isAgg31 sizeOf31 hs14 rfl rfl (zAj (i := 3) (vs := [_, _, _, _]) rfl rfl)) rfl ?_)
  refine zAt zAa call48 rfl rfl rfl rfl (c48 p _ _ (by omega) (by omega) ha.cons.cons.cons.cons hnm hs14) ?_
  rintro _ w18 ⟨rfl, hs19⟩
  refine w_p (zAe (v := .tuple _) rfl rfl) rfl ?_
  refine w_p (zAq (v := .int _ _) rfl rfl rfl) rfl ?_
  refine w_p (zAq (v := .int _ _) rfl rfl rfl) rfl ?_
  refine w_p (zAq (v := .int _ _) rfl rfl rfl) rfl ?_
  refine w_p (zAc (v := .int _ _) rfl rfl) rfl ?_
  refine w_p (zAc (v := .int _ _) rfl rfl) rfl ?_
  refine w_p (zAc (v := .int _ _) rfl rfl) rfl ?_
  refine zAf (zAd (hK15 _ _ ?_))
  refine zAg (fun K21 hK20 => ?_)
  refine zAy ?_
  refine zAg (fun K23 hK22 => ?_)
  refine zAb (w_p (zAe (v := .int _ _) rfl rfl) rfl ?_)
  refine w_p (zCc rfl rfl rfl rfl) rfl ?_
  refine w_p (zAc (v := .bool _) rfl rfl) rfl ?_
  refine zAf (zAd (hK22 _ _ ?_))
  refine zAz rfl rfl (fun h24 => ?_) (fun h24 => ?_)
  ·
   try simp only [zS] at h24
   refine zAg (fun K26 hK25 => ?_)
   refine zAb (w_p (zAe (v := .int _ _) rfl rfl) rfl ?_)
   refine zA5 (i := 1) (v := .int _ _) (vs := [_]) zAa sizeOf3 rfl rfl rfl rfl rfl (by simp [Value.oneCell']) hs19 rfl (Nat.le_of_ble_eq_true rfl) (fun w27 hs28 => ?_)
   refine zA5 (i := 0) (v := .int _ _) (vs := [_]) zAa sizeOf36 rfl rfl rfl rfl rfl (by simp [Value.oneCell']) hs28 rfl (Nat.le_of_ble_eq_true rfl) (fun w29 hs30 => ?_)
   refine zAf (zAd (hK25 _ _ ?_))
   refine zA2 (zA1 (zAm (q_retM0 (l := [.cell 4 3, .cell 5 36]) (vs := [_, _]) rfl ⟨⟨rfl, _, rfl, zBo isAgg3 hs30 (zAj (i := 1) (vs := [_]) rfl rfl)⟩, ⟨rfl, _, rfl, zBo isAgg36 hs30 (zAj (i := 0) (vs := [_]) rfl rfl)⟩, trivial⟩ ?_)))
   first
     | (obtain ⟨e1, e2⟩ := held_e1 (p := p) (z := z) (by assumption); rw [e1, e2]; exact ⟨rfl, hs30.tail.tail.tail.tail⟩)
     | (obtain ⟨e1, e2⟩ := held_e2 (p := p) (z := z) (by assumption) (by assumption); rw [e1, e2]; exact ⟨rfl, hs30.tail.tail.tail.tail⟩)
     | (obtain ⟨e1, e2⟩ := held_never (p := p) (f := f) (by assumption) hfo hnv hdc; rw [e1, e2]; exact ⟨rfl, hs30.tail.tail.tail.tail⟩)
     | (obtain ⟨e1, e2⟩ := held_down (p := p) (f := f) (by assumption) hfo (by omega); rw [e1, e2]; exact ⟨rfl, hs30.tail.tail.tail.tail⟩)
     | (rw [anyNever_all (by simp [doP])] at hnv; obtain ⟨e1, e2⟩ := held_some (p := p) (f := f) (by assumption) hfo hnv (by omega); rw [e1, e2, ← heldUpto_all (i := (doC p).length) (by simp [doP])]; exact ⟨rfl, hs30.tail.tail.tail.tail⟩)
  try simp only [zS] at h24
  refine zAg (fun K32 hK31 => ?_)
  have hok := check_ok (by assumption)
  have hlen3 := hok.len
  refine zAb (w_p (zAh (o := 3) (i := 2) underlying31 rfl sizeOf29 rfl rfl rfl) rfl ?_)
  refine w_p (zAk isAgg29 hs19 rfl rfl (zAj (i := 3) (vs := [_]) rfl rfl)) rfl ?_
  refine w_p (zBd underlying29 rfl rfl) rfl ?_
  refine w_p (y_sub rfl rfl rfl rfl (by omega) (by omega)) rfl ?_
  refine w_p (zAk isAgg3 hs19 rfl rfl (zAj (i := 2) (vs := [_]) rfl rfl)) rfl ?_
  refine zBh (ps := [(0, _)]) (pv := [(0, .int _ _)]) (cs := [_]) zAa rfl rfl (fun w => Try_CP_fb8 _ w) hs19 (fun b33 w34 hs35 => ?_)
  refine zAt zAa call73 rfl rfl rfl rfl (c73 _ _ _ [_] _ (by simp) (zBr (i := 0) (rows := [[_]]) rfl (by simp) rfl) hs35) ?_
  rintro _ w37 ⟨rfl, hs38⟩
  refine w_p (zAc (v := .bool _) rfl rfl) rfl ?_
  refine zAf (zAd (hK31 _ _ ?_))
  refine zAz rfl rfl (fun h39 => ?_) (fun h39 => ?_)
  ·
   try simp only [zS] at h39
   refine zAg (fun K41 hK40 => ?_)
   refine zAb (zA5 (i := 2) (v := .int _ _) (vs := [_]) zAa sizeOf3 rfl rfl rfl rfl rfl (by simp [Value.oneCell']) hs38 rfl (Nat.le_of_ble_eq_true rfl) (fun w42 hs43 => ?_))
   refine zA5 (i := 1) (v := .int _ _) (vs := [_]) zAa sizeOf36 rfl rfl rfl rfl rfl (by simp [Value.oneCell']) hs43 rfl (Nat.le_of_ble_eq_true rfl) (fun w44 hs45 => ?_)
   refine zAf (zAd (hK40 _ _ ?_))
   refine zA2 (zA1 (zAm (q_retM0 (l := [.cell 4 3, .cell 5 36]) (vs := [_, _]) rfl ⟨⟨rfl, _, rfl, zBo isAgg3 hs45 (zAj (i := 2) (vs := [_]) rfl rfl)⟩, ⟨rfl, _, rfl, zBo isAgg36 hs45 (zAj (i := 1) (vs := [_]) rfl rfl)⟩, trivial⟩ ?_)))
   first
     | (obtain ⟨e1, e2⟩ := held_e1 (p := p) (z := z) (by assumption); rw [e1, e2]; exact ⟨rfl, hs45.tail.tail.tail.tail.tail⟩)
     | (obtain ⟨e1, e2⟩ := held_e2 (p := p) (z := z) (by assumption) (by assumption); rw [e1, e2]; exact ⟨rfl, hs45.tail.tail.tail.tail.tail⟩)
     | (obtain ⟨e1, e2⟩ := held_never (p := p) (f := f) (by assumption) hfo hnv hdc; rw [e1, e2]; exact ⟨rfl, hs45.tail.tail.tail.tail.tail⟩)
     | (obtain ⟨e1, e2⟩ := held_down (p := p) (f := f) (by assumption) hfo (by omega); rw [e1, e2]; exact ⟨rfl, hs45.tail.tail.tail.tail.tail⟩)
     | (rw [anyNever_all (by simp [doP])] at hnv; obtain ⟨e1, e2⟩ := held_some (p := p) (f := f) (by assumption) hfo hnv (by omega); rw [e1, e2, ← heldUpto_all (i := (doC p).length) (by simp [doP])]; exact ⟨rfl, hs45.tail.tail.tail.tail.tail⟩)
  try simp only [zS] at h39
  refine zAx (zAl (zAd (hK20 _ _ ?_)))
  refine zAg (fun K47 hK46 => ?_)
  have hs48 := hs38.tail
  obtain ⟨f, rfl, hfl, hfo⟩ := held_fi (p := p) (by assumption)
  refine zAb (zA9 (cs := [_]) zAa zeroValue3 rfl hs48 (fun b49 w50 hs51 => ?_))
  refine zA9 (cs := [_]) zAa zeroValue4 rfl hs51 (fun b52 w53 hs54 => ?_)
  refine zA5 (i := 1) (v := .int _ _) (vs := [_]) zAa sizeOf3 rfl rfl rfl rfl rfl (by simp [Value.oneCell']) hs54 rfl (Nat.le_of_ble_eq_true rfl) (fun w55 hs56 => ?_)
  refine zA5 (i := 0) (v := .bool _) (vs := [_]) zAa sizeOf4 rfl rfl rfl rfl rfl (by simp [Value.oneCell']) hs56 rfl (Nat.le_of_ble_eq_true rfl) (fun w57 hs58 => ?_)
  refine zAf (zAd (hK46 _ _ ?_))
  refine zAg (fun K60 hK59 => ?_)
  refine zAg (fun K62 hK61 => ?_)
  refine zAb (w_p (zA6 (vs := [_, _, _, _]) isAgg31 sizeOf31 hs58 rfl rfl (zAj (i := 5) (vs := [_, _, _, _]) rfl rfl)) rfl ?_)
  refine zAt zAa call49 rfl rfl rfl rfl (c49 p _ _ hs58) ?_
  rintro _ w64 ⟨m, pb, rfl, hs65⟩
  refine zAt zAa call51 rfl rfl rfl rfl (c51 _ hs65) ?_
  rintro _ w67 ⟨bq, rfl, hs68⟩
  refine zAf (zAd (hK61 _ _ ?_))
  refine zAy ?_
  refine w_range ([_, _, _, _]) (fun i Bx => Bx = [(b52, blk 4 [.bool (decide (0 < i))]), (b49, blk 3 [.int .i64 (heldUpto p f i)]), (b12, blk 36 [.int .i64 0]), (b9, blk 3 [.int .i64 0])] ∧ anyNever p f i = false) (fun cd Bx => cd = .ret ∧ (∃ x y, Bx = [(b52, blk 4 [.bool x]), (b49, blk 3 [.int .i64 y]), (b12, blk 36 [.int .i64 0]), (b9, blk 3 [.int .i64 (-1)])]) ∧ ((doP p).any fun l => decide (l.getD f 0 = -1)) = true ∧ 0 < (doC p).length) rfl rfl rfl call87 (does_iter (F := ((bq, blk 103 [.pointer (some ⟨pb, 0, none⟩)]) :: (m, .map #[] 0) :: (pb, blk 151 [.int .i64 p.hold, .int .i64 p.clo, .int .i64 p.chi, .slice a p.farms.length c, .map (some m)]) :: (b6, blk 3 [.int .i64 (f : Int)]) :: (b3, blk 31 (p.cells a c)) :: F)) p a c m pb (zAj (i := 2) (vs := [_, _, _, _, _]) rfl rfl) ha.cons.cons.cons.cons.cons hok bq (zAj (i := 0) (vs := [_]) rfl rfl)) hs68 (zBe [_, _, _] [_, _, _, _] _) ⟨rfl, rfl⟩ ?_ ?_ ?_
  ·
   intro lp i hi Bx Xr Xr2 w70 hJ hs K hK69
   obtain ⟨rfl, hnv⟩ := hJ
   have hi2 : i < (doP p).length := by simpa [doP] using hi
   have hi3 : i < (doC p).length := by simpa using hi
   rw [List.getElem_map, show ((doC p).map pad)[i]'(by simpa [doP] using hi2) = (doP p)[i] from rfl]
   have hlen := doP_len _ (List.getElem_mem hi2)
   have hl1 := doP_in _ (List.getElem_mem hi2)
   obtain ⟨l, hl⟩ : ∃ l, l = (doP p)[i] := ⟨_, rfl⟩
   rw [← hl] at hlen hl1 ⊢
   replace hs := (show St _ _ (_ :: _ :: _ :: _ :: (Xr ++ (_ :: _ :: _ :: _ :: _ :: F))) from hs)
   have hb3 : Ats w0 ((bq, blk 103 [.pointer (some ⟨pb, 0, none⟩)]) :: (m, .map #[] 0) :: (pb, blk 151 [.int .i64 p.hold, .int .i64 p.clo, .int .i64 p.chi, .slice a p.farms.length c, .map (some m)]) :: (b6, blk 3 [.int .i64 (f : Int)]) :: (b3, blk 31 (p.cells a c)) :: F) b6 0 [.int .i64 (f : Int)] := zAj (i := 3) (vs := [_]) rfl rfl
   refine zAb (zA9 (cs := iv [0, 0, 0]) zAa zeroValue106 rfl hs (fun b71 w72 hs73 => ?_))
   refine zCa (i := 0) (l := _) zAa sizeOf106 (by first | omega | rfl | (simp only [List.length_map, List.length_set, List.length_append, List.length_take, List.length_drop, List.length_replicate, List.length_cons, List.length_nil] <;> omega)) rfl rfl rfl rfl rfl hs73 rfl (by first | omega | rfl | (simp only [List.length_map, List.length_set, List.length_append, List.length_take, List.length_drop, List.length_replicate, List.length_cons, List.length_nil] <;> omega)) (fun w74 hs75 => ?_)
   refine zAf (zAd (hK69 _ _ (_ :: _ :: _ :: _ :: _ :: []) hs75 (fun w76 hs77 => ?_)))
   replace hs77 := (show St _ _ (_ :: _ :: _ :: _ :: _ :: Xr2 ++ (_ :: _ :: _ :: _ :: _ :: F)) from hs77)
   refine zAy ?_
   refine zAg (fun K79 hK78 => ?_)
   refine zAg (fun K81 hK80 => ?_)
   refine zAb (zA5 (i := 1) (v := .bool _) (vs := [_]) zAa sizeOf4 rfl rfl rfl rfl rfl (by simp [Value.oneCell']) hs77 rfl (Nat.le_of_ble_eq_true rfl) (fun w82 hs83 => ?_))
   refine zAf (zAd (hK80 _ _ ?_))
   refine zAg (fun K85 hK84 => ?_)
   refine zAb (w_p (zAk isAgg3 hs83.tail.tail.tail.tail.tail.drop rfl rfl hb3) rfl ?_)
   refine w_p (zB2 underlying106 sizeOf3 rfl rfl rfl rfl (i := f) (by first | rfl | omega) (by omega)) rfl ?_
   refine w_p (zAk isAgg3 hs83 rfl rfl (zCb (i := 0) (j := f) rfl (by first | omega | rfl | (simp only [List.length_map, List.length_set, List.length_append, List.length_take, List.length_drop, List.length_replicate, List.length_cons, List.length_nil] <;> omega)))) rfl ?_
   refine w_p (zBy rfl rfl rfl rfl) rfl ?_
   refine zAf (zAd (hK84 _ _ ?_))
   refine zAz rfl rfl (fun h86 => ?_) (fun h86 => ?_)
   ·
    try simp only [zS] at h86
    refine zAg (fun K88 hK87 => ?_)
    refine zAb (zA5 (i := 4) (v := .int _ _) (vs := [_]) zAa sizeOf3 rfl rfl rfl rfl rfl (by simp [Value.oneCell']) hs83 rfl (Nat.le_of_ble_eq_true rfl) (fun w89 hs90 => ?_))
    refine zA5 (i := 3) (v := .int _ _) (vs := [_]) zAa sizeOf36 rfl rfl rfl rfl rfl (by simp [Value.oneCell']) hs90 rfl (Nat.le_of_ble_eq_true rfl) (fun w91 hs92 => ?_)
    refine zAf (zAd (hK87 _ _ ?_))
    refine zA2 (zAm (zA1 (rd_ret (_ :: _ :: _ :: _ :: []) hs92.tail ?_)))
    exact ⟨rfl, ⟨_, _, rfl⟩, anyNever_true (i := i + 1) (by rw [anyNever_succ hi2, hnv, ← hl, Bool.false_or]; exact decide_eq_true (by assumption)), by omega⟩
   try simp only [zS] at h86
   refine zAx (zAd (hK78 _ _ ?_))
   refine zB7 [5] [(0, 1), (1, 1), (2, 0), (3, 1), (4, 0), (5, 3)] zBu (by kernel_rfl) hs83 (fun w93 hs94 => ?_)
   refine zBa rfl zAa rfl hs94 (fun _ hq => (zAk isAgg3 hq rfl rfl (zAj (i := 2) (vs := [_]) rfl rfl))) ?_
   refine zBa rfl zAa rfl hs94 (fun _ hq => (zAk isAgg3 hq.tail.tail.tail.tail.tail.drop rfl rfl hb3)) ?_
   refine zAp rfl zAa rfl (fun _ => (zB2 underlying106 sizeOf3 rfl rfl rfl rfl (i := f) (by first | rfl | omega) (by omega))) ?_
   refine zBa rfl zAa rfl hs94 (fun _ hq => (zAk isAgg3 hq rfl rfl (zCb (i := 0) (j := f) rfl (by first | omega | rfl | (simp only [List.length_map, List.length_set, List.length_append, List.length_take, List.length_drop, List.length_replicate, List.length_cons, List.length_nil] <;> omega))))) ?_
   refine zAp rfl zAa rfl (fun _ => (y_max2 rfl rfl rfl rfl)) ?_
   refine zC8 rfl ?_
   refine zA5 (i := 2) (v := .int _ _) (vs := [_]) zAa sizeOf3 rfl rfl rfl rfl rfl (by simp [Value.oneCell']) hs94 rfl (Nat.le_of_ble_eq_true rfl) (fun w95 hs96 => ?_)
   refine zAf (qn ?_)
   refine zB1 ?_
   refine zAl (zCr (_ :: _ :: _ :: _ :: []) hs96.tail ?_)
   exact ⟨by rw [heldUpto_succ hi2, ← hl]; rfl, by rw [anyNever_succ hi2, hnv, ← hl, Bool.false_or]; exact decide_eq_false (by assumption)⟩
  ·
   intro bd Bx w97 hJ hs
   obtain ⟨rfl, hnv⟩ := hJ
   rw [List.length_map, List.length_map] at *
   replace hs := (show St _ _ (_ :: _ :: _ :: _ :: _ :: _ :: _ :: _ :: _ :: _ :: F) from hs)
   refine zAl (zAd (hK59 _ _ ?_))
   refine zAg (fun K99 hK98 => ?_)
   refine zAg (fun K101 hK100 => ?_)
   refine zAb (w_p (zAk isAgg4 hs rfl rfl (zAj (i := 1) (vs := [_]) rfl rfl)) rfl ?_)
   refine w_p (zDc rfl rfl) rfl ?_
   refine zAf (zAd (hK100 _ _ ?_))
   refine zAz rfl rfl (fun h102 => ?_) (fun h102 => ?_)
   ·
    try simp only [zS] at h102
    refine zAg (fun K104 hK103 => ?_)
    refine zAb (zA5 (i := 4) (v := .int _ _) (vs := [_]) zAa sizeOf3 rfl rfl rfl rfl rfl (by simp [Value.oneCell']) hs rfl (Nat.le_of_ble_eq_true rfl) (fun w105 hs106 => ?_))
    refine zA5 (i := 3) (v := .int _ _) (vs := [_]) zAa sizeOf36 rfl rfl rfl rfl rfl (by simp [Value.oneCell']) hs106 rfl (Nat.le_of_ble_eq_true rfl) (fun w107 hs108 => ?_)
    refine zAf (zAd (hK103 _ _ ?_))
    refine zA2 (zAm (q_retM (i := 0) (l := [.cell 4 3, .cell 5 36]) (vs := [_, _]) hs108 rfl rfl (fun w109 hs110 => ⟨⟨⟨rfl, _, rfl, zBo isAgg3 hs110 (zAj (i := 4) (vs := [_]) rfl rfl)⟩, ⟨rfl, _, rfl, zBo isAgg36 hs110 (zAj (i := 3) (vs := [_]) rfl rfl)⟩, trivial⟩, ?_⟩)))
    first
      | (obtain ⟨e1, e2⟩ := held_e1 (p := p) (z := z) (by assumption); rw [e1, e2]; exact ⟨rfl, hs110.tail.tail.tail.tail.tail.tail.tail.tail.tail.tail⟩)
      | (obtain ⟨e1, e2⟩ := held_e2 (p := p) (z := z) (by assumption) (by assumption); rw [e1, e2]; exact ⟨rfl, hs110.tail.tail.tail.tail.tail.tail.tail.tail.tail.tail⟩)
      | (obtain ⟨e1, e2⟩ := held_never (p := p) (f := f) (by assumption) hfo hnv hdc; rw [e1, e2]; exact ⟨rfl, hs110.tail.tail.tail.tail.tail.tail.tail.tail.tail.tail⟩)
      | (obtain ⟨e1, e2⟩ := held_down (p := p) (f := f) (by assumption) hfo (by omega); rw [e1, e2]; exact ⟨rfl, hs110.tail.tail.tail.tail.tail.tail.tail.tail.tail.tail⟩)
      | (rw [anyNever_all (by simp [doP])] at hnv; obtain ⟨e1, e2⟩ := held_some (p := p) (f := f) (by assumption) hfo hnv (by omega); rw [e1, e2, ← heldUpto_all (i := (doC p).length) (by simp [doP])]; exact ⟨rfl, hs110.tail.tail.tail.tail.tail.tail.tail.tail.tail.tail⟩)
   try simp only [zS] at h102
   refine zAx (zAd (hK98 _ _ ?_))
   refine zAg (fun K112 hK111 => ?_)
   refine zAb (w_p (zAk isAgg3 hs rfl rfl (zAj (i := 2) (vs := [_]) rfl rfl)) rfl ?_)
   refine zA5 (i := 4) (v := .int _ _) (vs := [_]) zAa sizeOf3 rfl rfl rfl rfl rfl (by simp [Value.oneCell']) hs rfl (Nat.le_of_ble_eq_true rfl) (fun w113 hs114 => ?_)
   refine zA5 (i := 3) (v := .int _ _) (vs := [_]) zAa sizeOf36 rfl rfl rfl rfl rfl (by simp [Value.oneCell']) hs114 rfl (Nat.le_of_ble_eq_true rfl) (fun w115 hs116 => ?_)
   refine zAf (zAd (hK111 _ _ ?_))
   refine zA2 (q_retM (i := 0) (l := [.cell 4 3, .cell 5 36]) (vs := [_, _]) hs116 rfl rfl (fun w117 hs118 => ⟨⟨⟨rfl, _, rfl, zBo isAgg3 hs118 (zAj (i := 4) (vs := [_]) rfl rfl)⟩, ⟨rfl, _, rfl, zBo isAgg36 hs118 (zAj (i := 3) (vs := [_]) rfl rfl)⟩, trivial⟩, ?_⟩))
   first
     | (obtain ⟨e1, e2⟩ := held_e1 (p := p) (z := z) (by assumption); rw [e1, e2]; exact ⟨rfl, hs118.tail.tail.tail.tail.tail.tail.tail.tail.tail.tail⟩)
     | (obtain ⟨e1, e2⟩ := held_e2 (p := p) (z := z) (by assumption) (by assumption); rw [e1, e2]; exact ⟨rfl, hs118.tail.tail.tail.tail.tail.tail.tail.tail.tail.tail⟩)
     | (obtain ⟨e1, e2⟩ := held_never (p := p) (f := f) (by assumption) hfo hnv hdc; rw [e1, e2]; exact ⟨rfl, hs118.tail.tail.tail.tail.tail.tail.tail.tail.tail.tail⟩)
     | (obtain ⟨e1, e2⟩ := held_down (p := p) (f := f) (by assumption) hfo (by omega); rw [e1, e2]; exact ⟨rfl, hs118.tail.tail.tail.tail.tail.tail.tail.tail.tail.tail⟩)
     | (rw [anyNever_all (by simp [doP])] at hnv; obtain ⟨e1, e2⟩ := held_some (p := p) (f := f) (by assumption) hfo hnv (by omega); rw [e1, e2, ← heldUpto_all (i := (doC p).length) (by simp [doP])]; exact ⟨rfl, hs118.tail.tail.tail.tail.tail.tail.tail.tail.tail.tail⟩)
  intro bd c Bx w119 hJ hs
  obtain ⟨rfl, ⟨x, y, rfl⟩, hnv, hdc⟩ := hJ
  replace hs := (show St _ _ (_ :: _ :: _ :: _ :: _ :: _ :: _ :: _ :: _ :: _ :: F) from hs)
  refine zA2 (zA1 (zAm (q_retM (i := 0) (l := [.cell 4 3, .cell 5 36]) (vs := [_, _]) hs rfl rfl (fun w120 hs121 => ⟨⟨⟨rfl, _, rfl, zBo isAgg3 hs121 (zAj (i := 4) (vs := [_]) rfl rfl)⟩, ⟨rfl, _, rfl, zBo isAgg36 hs121 (zAj (i := 3) (vs := [_]) rfl rfl)⟩, trivial⟩, ?_⟩))))
  first
    | (obtain ⟨e1, e2⟩ := held_e1 (p := p) (z := z) (by assumption); rw [e1, e2]; exact ⟨rfl, hs121.tail.tail.tail.tail.tail.tail.tail.tail.tail.tail⟩)
    | (obtain ⟨e1, e2⟩ := held_e2 (p := p) (z := z) (by assumption) (by assumption); rw [e1, e2]; exact ⟨rfl, hs121.tail.tail.tail.tail.tail.tail.tail.tail.tail.tail⟩)
    | (obtain ⟨e1, e2⟩ := held_never (p := p) (f := f) (by assumption) hfo hnv hdc; rw [e1, e2]; exact ⟨rfl, hs121.tail.tail.tail.tail.tail.tail.tail.tail.tail.tail⟩)
    | (obtain ⟨e1, e2⟩ := held_down (p := p) (f := f) (by assumption) hfo (by omega); rw [e1, e2]; exact ⟨rfl, hs121.tail.tail.tail.tail.tail.tail.tail.tail.tail.tail⟩)
    | (rw [anyNever_all (by simp [doP])] at hnv; obtain ⟨e1, e2⟩ := held_some (p := p) (f := f) (by assumption) hfo hnv (by omega); rw [e1, e2, ← heldUpto_all (i := (doC p).length) (by simp [doP])]; exact ⟨rfl, hs121.tail.tail.tail.tail.tail.tail.tail.tail.tail.tail⟩)

theorem told_e1 {p : Port} {z : Int} (h : ¬ (check p).2.2 = 0) : toldD p z = 0 ∧ toldE p z = (check p).2.2 := by
  unfold toldD toldE
  rw [if_neg (fun hh => h hh.1), if_neg h]; exact ⟨rfl, rfl⟩
theorem told_e2 {p : Port} {z : Int} (h : (check p).2.2 = 0) (h2 : [z].any (out 0 10) = true) : toldD p z = 0 ∧ toldE p z = 7 := by
  simp only [List.any_cons, List.any_nil, Bool.or_false] at h2
  unfold toldD toldE
  rw [h2]; simp [h]
theorem told_d {z : Int} (h2 : [z].any (out 0 10) = false) : ∃ d : Nat, z = d ∧ d ≤ 10 ∧ out 0 10 z = false := by
  simp only [List.any_cons, List.any_nil, Bool.or_false] at h2
  have := (out_iff _ _ _).1 h2
  exact ⟨z.toNat, by omega, by omega, h2⟩
theorem told_e3 {p : Port} {d : Nat} (h : (check p).2.2 = 0) (h2 : out 0 10 (d : Int) = false) (h3 : told p d < 0) : toldD p d = 0 ∧ toldE p d = 9 := by
  unfold toldD toldE
  rw [h2, Int.toNat_natCast]; simp [h, h3]; omega
theorem told_ok {p : Port} {d : Nat} (h : (check p).2.2 = 0) (h2 : out 0 10 (d : Int) = false) (h3 : 0 ≤ told p d) : toldD p d = told p d ∧ toldE p d = 0 := by
  unfold toldD toldE
  rw [h2, Int.toNat_natCast]; simp [h, h3]
theorem c39 {w0 w : World} {F : List (Nat × Obj)} (p : Port) (a : Option Addr) (c : Nat) (hl3 : p.farms.length ≤ 9223372036854775807) (hc : p.farms.length ≤ c) (ha : Sl w0 F a 6 (rows p.farms)) (hnm : ∀ f ∈ p.farms, f.name.size ≤ 9223372036854775807) (z : Int) (hs : St w0 w F) :
  Con Tryz.prog 39 [.agg (p.cells a c).toArray, .int .i64 z] w fun v w' => v = .tuple #[.int .i64 (toldD p z), .int .i64 (toldE p z)] ∧ St w0 w' F := by
  refine zDe (n := 52) func39 rfl rfl (Nat.le_of_ble_eq_true rfl) ?_
  refine zAg (fun K2 hK1 => ?_)
  refine zAb (zB3 (v := .agg #[.int _ _, .int _ _, .int _ _, .slice _ _ _]) (cs := [_, _, _, _]) zAa rfl rfl rfl hs (fun b3 w4 hs5 => ?_))
  refine zB3 (v := .int _ _) (cs := [_]) zAa rfl rfl rfl hs5 (fun b6 w7 hs8 => ?_)
  refine w_p (zAc (v := _) rfl rfl) rfl ?_
  refine w_p (zAc (v := _) rfl rfl) rfl ?_
  refine zAf (zAd (hK1 _ _ ?_))
  refine zAg (fun K10 hK9 => ?_)
  refine zAb (w_p (zA6 (vs := [_, _, _, _]) isAgg31 sizeOf31 hs8 rfl rfl (zAj (i := 1) (vs := [_, _, _, _]) rfl rfl)) rfl ?_)
  refine zAt zAa call48 rfl rfl rfl rfl (c48 p _ _ (by omega) (by omega) ha.cons.cons hnm hs8) ?_
  rintro _ w12 ⟨rfl, hs13⟩
  refine w_p (zAe (v := .tuple _) rfl rfl) rfl ?_
  refine w_p (zAq (v := .int _ _) rfl rfl rfl) rfl ?_
  refine w_p (zAq (v := .int _ _) rfl rfl rfl) rfl ?_
  refine w_p (zAq (v := .int _ _) rfl rfl rfl) rfl ?_
  refine w_p (zAc (v := .int _ _) rfl rfl) rfl ?_
  refine w_p (zAc (v := .int _ _) rfl rfl) rfl ?_
  refine w_p (zAc (v := .int _ _) rfl rfl) rfl ?_
  refine zAf (zAd (hK9 _ _ ?_))
  refine zAg (fun K15 hK14 => ?_)
  refine zAy ?_
  refine zAg (fun K17 hK16 => ?_)
  refine zAb (w_p (zAe (v := .int _ _) rfl rfl) rfl ?_)
  refine w_p (zCc rfl rfl rfl rfl) rfl ?_
  refine w_p (zAc (v := .bool _) rfl rfl) rfl ?_
  refine zAf (zAd (hK16 _ _ ?_))
  refine zAz rfl rfl (fun h18 => ?_) (fun h18 => ?_)
  ·
   try simp only [zS] at h18
   refine zAg (fun K20 hK19 => ?_)
   refine zAb (w_p (zAe (v := .int _ _) rfl rfl) rfl ?_)
   refine w_p (zAc (v := _) rfl rfl) rfl ?_
   refine w_p (zAc (v := .int _ _) rfl rfl) rfl ?_
   refine zAf (zAd (hK19 _ _ ?_))
   refine zA2 (zA1 (zAm (q_retM0 (l := [.tmp 4, .tmp 5]) (vs := [_, _]) rfl ⟨⟨rfl, (rfl : _ = Value.int _ _)⟩, ⟨rfl, (rfl : _ = Value.int _ _)⟩, trivial⟩ ?_)))
   first
     | (obtain ⟨e1, e2⟩ := told_e1 (p := p) (z := z) (by assumption); rw [e1, e2]; exact ⟨rfl, hs13.tail.tail⟩)
     | (obtain ⟨e1, e2⟩ := told_e2 (p := p) (z := z) (by assumption) (by assumption); rw [e1, e2]; exact ⟨rfl, hs13.tail.tail⟩)
     | (have hall := zDa (p := p) (d := d) (i := (((allC d p.farms.length).map pad).map ia).length) (by simp); obtain ⟨e1, e2⟩ := told_e3 (p := p) (d := d) (by assumption) hdo (by omega); rw [e1, e2]; exact ⟨rfl, hs13.tail.tail⟩)
     | (have hall := zDa (p := p) (d := d) (i := (((allC d p.farms.length).map pad).map ia).length) (by simp); obtain ⟨e1, e2⟩ := told_ok (p := p) (d := d) (by assumption) hdo (by omega); rw [e1, e2, ← hall]; exact ⟨rfl, hs13.tail.tail⟩)
  try simp only [zS] at h18
  refine zAg (fun K22 hK21 => ?_)
  have hok := check_ok (by assumption)
  have hlen3 := hok.len
  refine zAb (w_p (zAk isAgg3 hs13 rfl rfl (zAj (i := 0) (vs := [_]) rfl rfl)) rfl ?_)
  refine zBh (ps := [(0, _)]) (pv := [(0, .int _ _)]) (cs := [_]) zAa rfl rfl (fun w => Try_CP_fb8 _ w) hs13 (fun b23 w24 hs25 => ?_)
  refine zAt zAa call73 rfl rfl rfl rfl (c73 _ _ _ [_] _ (by simp) (zBr (i := 0) (rows := [[_]]) rfl (by simp) rfl) hs25) ?_
  rintro _ w27 ⟨rfl, hs28⟩
  refine w_p (zAc (v := .bool _) rfl rfl) rfl ?_
  refine zAf (zAd (hK21 _ _ ?_))
  refine zAz rfl rfl (fun h29 => ?_) (fun h29 => ?_)
  ·
   try simp only [zS] at h29
   refine zAg (fun K31 hK30 => ?_)
   refine zAb (w_p (zAc (v := _) rfl rfl) rfl ?_)
   refine w_p (zAc (v := _) rfl rfl) rfl ?_
   refine zAf (zAd (hK30 _ _ ?_))
   refine zA2 (zA1 (zAm (q_retM0 (l := [.tmp 4, .tmp 5]) (vs := [_, _]) rfl ⟨⟨rfl, (rfl : _ = Value.int _ _)⟩, ⟨rfl, (rfl : _ = Value.int _ _)⟩, trivial⟩ ?_)))
   first
     | (obtain ⟨e1, e2⟩ := told_e1 (p := p) (z := z) (by assumption); rw [e1, e2]; exact ⟨rfl, hs28.tail.tail.tail⟩)
     | (obtain ⟨e1, e2⟩ := told_e2 (p := p) (z := z) (by assumption) (by assumption); rw [e1, e2]; exact ⟨rfl, hs28.tail.tail.tail⟩)
     | (have hall := zDa (p := p) (d := d) (i := (((allC d p.farms.length).map pad).map ia).length) (by simp); obtain ⟨e1, e2⟩ := told_e3 (p := p) (d := d) (by assumption) hdo (by omega); rw [e1, e2]; exact ⟨rfl, hs28.tail.tail.tail⟩)
     | (have hall := zDa (p := p) (d := d) (i := (((allC d p.farms.length).map pad).map ia).length) (by simp); obtain ⟨e1, e2⟩ := told_ok (p := p) (d := d) (by assumption) hdo (by omega); rw [e1, e2, ← hall]; exact ⟨rfl, hs28.tail.tail.tail⟩)
  try simp only [zS] at h29
  refine zAx (zAl (zAd (hK14 _ _ ?_)))
  refine zAg (fun K33 hK32 => ?_)
  have hs34 := hs28.tail
  obtain ⟨d, rfl, hd10, hdo⟩ := told_d (by assumption)
  refine zAb (w_p (zA6 (vs := [_, _, _, _]) isAgg31 sizeOf31 hs34 rfl rfl (zAj (i := 1) (vs := [_, _, _, _]) rfl rfl)) rfl ?_)
  refine zAt zAa call49 rfl rfl rfl rfl (c49 p _ _ hs34) ?_
  rintro _ w36 ⟨m, pb, rfl, hs37⟩
  refine zA9 (cs := [_]) zAa zeroValue103 rfl hs37 (fun b38 w39 hs40 => ?_)
  refine zA5 (i := 0) (v := .pointer _) (vs := [_]) zAa sizeOf103 rfl rfl rfl rfl rfl (by simp [Value.oneCell']) hs40 rfl (Nat.le_of_ble_eq_true rfl) (fun w41 hs42 => ?_)
  refine zAf (zAd (hK32 _ _ ?_))
  refine zAg (fun K44 hK43 => ?_)
  refine zAb (zA9 (cs := [_]) zAa zeroValue3 rfl hs42 (fun b45 w46 hs47 => ?_))
  refine zA5 (i := 0) (v := .int _ _) (vs := [_]) zAa sizeOf3 rfl rfl rfl rfl rfl (by simp [Value.oneCell']) hs47 rfl (Nat.le_of_ble_eq_true rfl) (fun w48 hs49 => ?_)
  refine zAf (zAd (hK43 _ _ ?_))
  refine zAg (fun K51 hK50 => ?_)
  refine zAg (fun K53 hK52 => ?_)
  refine zAb (w_p (zAk isAgg103 hs49 rfl rfl (zAj (i := 1) (vs := [_]) rfl rfl)) rfl ?_)
  refine w_p (zAk isAgg3 hs49 rfl rfl (zAj (i := 4) (vs := [_]) rfl rfl)) rfl ?_
  refine zAt zAa call76 rfl rfl rfl rfl (c76 _ _ hs49) ?_
  rintro _ w55 ⟨bp, bb, rfl, hs56⟩
  refine zAf (zAd (hK52 _ _ ?_))
  refine zAy ?_
  refine w_range ([_]) (fun i Bx => Bx = [(b45, blk 3 [.int .i64 (toldUpto p d i)])]) (fun _ _ => False) rfl rfl rfl call99 (all_iter (F := ((bb, blk 3 [.int .i64 (d : Int)]) :: (bp, blk 103 [.pointer (some ⟨pb, 0, none⟩)]) :: (b38, blk 103 [.pointer (some ⟨pb, 0, none⟩)]) :: (m, .map #[] 0) :: (pb, blk 151 [.int .i64 p.hold, .int .i64 p.clo, .int .i64 p.chi, .slice a p.farms.length c, .map (some m)]) :: (b6, blk 3 [.int .i64 (d : Int)]) :: (b3, blk 31 (p.cells a c)) :: F)) p a c m pb (zAj (i := 4) (vs := [_, _, _, _, _]) rfl rfl) ha.cons.cons.cons.cons.cons.cons.cons hok d bp bb (by omega) (zAj (i := 1) (vs := [_]) rfl rfl) (zAj (i := 0) (vs := [_]) rfl rfl)) hs56 (zBe [_, _] [_] _) rfl ?_ ?_ ?_
  ·
   intro lp i hi Bx Xr Xr2 w58 hJ hs K hK57
   subst hJ
   have hi2 : i < ((allC d p.farms.length).map pad).length := by simpa using hi
   rw [List.getElem_map]
   have hlen : (((allC d p.farms.length).map pad)[i]).length = 3 := by rw [List.getElem_map]; exact zCp _
   have hl1 : ∀ y ∈ ((allC d p.farms.length).map pad)[i], -1 ≤ y ∧ y ≤ 10 := by rw [List.getElem_map]; exact allpad_in (by omega) _
   obtain ⟨l, hl⟩ : ∃ l, l = ((allC d p.farms.length).map pad)[i] := ⟨_, rfl⟩
   rw [← hl] at hlen hl1 ⊢
   replace hs := (show St _ _ (_ :: (Xr ++ (_ :: _ :: _ :: _ :: _ :: _ :: _ :: F))) from hs)
   have hb3 : Ats w0 ((bb, blk 3 [.int .i64 (d : Int)]) :: (bp, blk 103 [.pointer (some ⟨pb, 0, none⟩)]) :: (b38, blk 103 [.pointer (some ⟨pb, 0, none⟩)]) :: (m, .map #[] 0) :: (pb, blk 151 [.int .i64 p.hold, .int .i64 p.clo, .int .i64 p.chi, .slice a p.farms.length c, .map (some m)]) :: (b6, blk 3 [.int .i64 (d : Int)]) :: (b3, blk 31 (p.cells a c)) :: F) b6 0 [.int .i64 (d : Int)] := zAj (i := 5) (vs := [_]) rfl rfl
   have hb9 : Ats w0 ((bb, blk 3 [.int .i64 (d : Int)]) :: (bp, blk 103 [.pointer (some ⟨pb, 0, none⟩)]) :: (b38, blk 103 [.pointer (some ⟨pb, 0, none⟩)]) :: (m, .map #[] 0) :: (pb, blk 151 [.int .i64 p.hold, .int .i64 p.clo, .int .i64 p.chi, .slice a p.farms.length c, .map (some m)]) :: (b6, blk 3 [.int .i64 (d : Int)]) :: (b3, blk 31 (p.cells a c)) :: F) b38 0 [.pointer (some ⟨pb, 0, none⟩)] := zAj (i := 2) (vs := [_]) rfl rfl
   refine zAb (zA9 (cs := iv [0, 0, 0]) zAa zeroValue106 rfl hs (fun b59 w60 hs61 => ?_))
   refine zCa (i := 0) (l := _) zAa sizeOf106 (by first | omega | rfl | (simp only [List.length_map, List.length_set, List.length_append, List.length_take, List.length_drop, List.length_replicate, List.length_cons, List.length_nil] <;> omega)) rfl rfl rfl rfl rfl hs61 rfl (by first | omega | rfl | (simp only [List.length_map, List.length_set, List.length_append, List.length_take, List.length_drop, List.length_replicate, List.length_cons, List.length_nil] <;> omega)) (fun w62 hs63 => ?_)
   refine zAf (zAd (hK57 _ _ (_ :: _ :: []) hs63 (fun w64 hs65 => ?_)))
   replace hs65 := (show St _ _ (_ :: _ :: Xr2 ++ (_ :: _ :: _ :: _ :: _ :: _ :: _ :: F)) from hs65)
   refine zAy ?_
   refine zAg (fun K67 hK66 => ?_)
   refine zAb (w_p (zAk isAgg103 hs65.tail.tail.drop rfl rfl hb9) rfl ?_)
   refine w_p (zB4 (i := 0) isAgg106 sizeOf106 (by first | omega | rfl | (simp only [List.length_map, List.length_set, List.length_append, List.length_take, List.length_drop, List.length_replicate, List.length_cons, List.length_nil] <;> omega)) hs65 rfl rfl rfl) rfl ?_
   refine w_p (zAk isAgg3 hs65.tail.tail.drop rfl rfl hb3) rfl ?_
   refine zAt zAa call77 rfl rfl rfl rfl (c77 (F := _ :: _ :: (Xr2 ++ ((bb, blk 3 [.int .i64 (d : Int)]) :: (bp, blk 103 [.pointer (some ⟨pb, 0, none⟩)]) :: (b38, blk 103 [.pointer (some ⟨pb, 0, none⟩)]) :: (m, .map #[] 0) :: (pb, blk 151 [.int .i64 p.hold, .int .i64 p.clo, .int .i64 p.chi, .slice a p.farms.length c, .map (some m)]) :: (b6, blk 3 [.int .i64 (d : Int)]) :: (b3, blk 31 (p.cells a c)) :: F))) p _ c m pb (zAj (i := 4) (vs := [_, _, _, _, _]) rfl rfl).app.cons.cons ha.cons.cons.cons.cons.cons.cons.cons.app.cons.cons hok l hlen hl1 _ (by omega) (by omega) hs65) ?_
   rintro _ w69 ⟨rfl, hs70⟩
   refine w_p (zAc (v := .int _ _) rfl rfl) rfl ?_
   refine zAf (zAd (hK66 _ _ ?_))
   refine zAg (fun K72 hK71 => ?_)
   refine zAb (w_p (zAe (v := .int _ _) rfl rfl) rfl ?_)
   refine w_p (y_geq rfl rfl rfl rfl) rfl ?_
   refine w_p (zAe (v := .bool _) rfl rfl) rfl ?_
   refine zBi (fun h73 => ?_) (fun h73 => ?_)
   ·
    try simp only [zS] at h73
    refine w_y rfl rfl rfl (zAk isAgg3 hs70 rfl rfl (zAj (i := 1) (vs := [_]) rfl rfl)) rfl ?_
    refine w_y rfl rfl rfl (zBt rfl rfl rfl rfl) rfl ?_
    refine w_y rfl rfl rfl (zAe (v := .bool _) rfl rfl) rfl ?_
    refine zBi (fun h74 => ?_) (fun h74 => ?_)
    ·
     try simp only [zS] at h74
     refine zAi rfl rfl rfl ?_
     refine zAi rfl rfl rfl ?_
     refine zAi rfl rfl rfl ?_
     refine w_y rfl rfl rfl (zA0 (v := _) rfl rfl rfl rfl) rfl ?_
     refine w_p (zA0 (v := .bool _) rfl rfl rfl rfl) rfl ?_
     refine zAf (zAd (hK71 _ _ ?_))
     refine zCg rfl rfl ?_
     refine zAb (w_p (zAe (v := .int _ _) rfl rfl) rfl ?_)
     refine zA5 (i := 1) (v := .int _ _) (vs := [_]) zAa sizeOf3 rfl rfl rfl rfl rfl (by simp [Value.oneCell']) hs70 rfl (Nat.le_of_ble_eq_true rfl) (fun w75 hs76 => ?_)
     refine zAf (zAl (zCr (_ :: []) hs76.tail ?_))
     first
       | (show [_] = [_]; rw [zCx hi2, ← hl, ← told_yes (p := p) (l := l) (day := (d : Int)) (n := toldUpto p d i) (by assumption) (by omega)]; rfl)
       | (show [_] = [_]; rw [zCx hi2, ← hl, ← told_no (p := p) (l := l) (day := (d : Int)) (n := toldUpto p d i) (by omega)])
    try simp only [zS] at h74
    refine w_y rfl rfl rfl (zAe (v := .int _ _) rfl rfl) rfl ?_
    refine w_y rfl rfl rfl (zAk isAgg3 hs70 rfl rfl (zAj (i := 1) (vs := [_]) rfl rfl)) rfl ?_
    refine w_y rfl rfl rfl (zBt rfl rfl rfl rfl) rfl ?_
    refine w_y rfl rfl rfl (zBb (v := .bool _) rfl rfl rfl rfl) rfl ?_
    refine w_p (zA0 (v := .bool _) rfl rfl rfl rfl) rfl ?_
    refine zAf (zAd (hK71 _ _ ?_))
    refine zAz rfl rfl (fun h77 => ?_) (fun h77 => ?_)
    ·
     try simp only [zS] at h77
     refine zAb (w_p (zAe (v := .int _ _) rfl rfl) rfl ?_)
     refine zA5 (i := 1) (v := .int _ _) (vs := [_]) zAa sizeOf3 rfl rfl rfl rfl rfl (by simp [Value.oneCell']) hs70 rfl (Nat.le_of_ble_eq_true rfl) (fun w78 hs79 => ?_)
     refine zAf (zAl (zCr (_ :: []) hs79.tail ?_))
     first
       | (show [_] = [_]; rw [zCx hi2, ← hl, ← told_yes (p := p) (l := l) (day := (d : Int)) (n := toldUpto p d i) (by assumption) (by omega)]; rfl)
       | (show [_] = [_]; rw [zCx hi2, ← hl, ← told_no (p := p) (l := l) (day := (d : Int)) (n := toldUpto p d i) (by omega)])
    try simp only [zS] at h77
    refine zAx (zAl (zCr (_ :: []) hs70.tail ?_))
    first
      | (show [_] = [_]; rw [zCx hi2, ← hl, ← told_yes (p := p) (l := l) (day := (d : Int)) (n := toldUpto p d i) (by assumption) (by omega)]; rfl)
      | (show [_] = [_]; rw [zCx hi2, ← hl, ← told_no (p := p) (l := l) (day := (d : Int)) (n := toldUpto p d i) (by omega)])
   try simp only [zS] at h73
   refine zAi rfl rfl rfl ?_
   refine zAi rfl rfl rfl ?_
   refine zAi rfl rfl rfl ?_
   refine zBc rfl rfl rfl ?_
   refine zBc rfl rfl rfl ?_
   refine zBc rfl rfl rfl ?_
   refine zAi rfl rfl rfl ?_
   refine w_p (zBb (v := _) rfl rfl rfl rfl) rfl ?_
   refine zAf (zAd (hK71 _ _ ?_))
   refine zB0 rfl rfl ?_
   refine zAx (zAl (zCr (_ :: []) hs70.tail ?_))
   first
     | (show [_] = [_]; rw [zCx hi2, ← hl, ← told_yes (p := p) (l := l) (day := (d : Int)) (n := toldUpto p d i) (by assumption) (by omega)]; rfl)
     | (show [_] = [_]; rw [zCx hi2, ← hl, ← told_no (p := p) (l := l) (day := (d : Int)) (n := toldUpto p d i) (by omega)])
  ·
   intro bd Bx w80 hJ hs
   subst hJ
   replace hs := (show St _ _ (_ :: _ :: _ :: _ :: _ :: _ :: _ :: _ :: _ :: F) from hs)
   refine zAl (zAd (hK50 _ _ ?_))
   refine zAg (fun K82 hK81 => ?_)
   refine zAg (fun K84 hK83 => ?_)
   refine zAb (w_p (zAk isAgg3 hs rfl rfl (zAj (i := 1) (vs := [_]) rfl rfl)) rfl ?_)
   refine w_p (zBt rfl rfl rfl rfl) rfl ?_
   refine zAf (zAd (hK83 _ _ ?_))
   refine zAz rfl rfl (fun h85 => ?_) (fun h85 => ?_)
   ·
    try simp only [zS] at h85
    refine zAg (fun K87 hK86 => ?_)
    refine zAb (w_p (zAc (v := _) rfl rfl) rfl ?_)
    refine w_p (zAc (v := _) rfl rfl) rfl ?_
    refine zAf (zAd (hK86 _ _ ?_))
    refine zA2 (zAm (q_retM (i := 0) (l := [.tmp 4, .tmp 5]) (vs := [_, _]) hs rfl rfl (fun w88 hs89 => ⟨⟨⟨rfl, (rfl : _ = Value.int _ _)⟩, ⟨rfl, (rfl : _ = Value.int _ _)⟩, trivial⟩, ?_⟩)))
    first
      | (obtain ⟨e1, e2⟩ := told_e1 (p := p) (z := z) (by assumption); rw [e1, e2]; exact ⟨rfl, hs89.tail.tail.tail.tail.tail.tail.tail.tail.tail⟩)
      | (obtain ⟨e1, e2⟩ := told_e2 (p := p) (z := z) (by assumption) (by assumption); rw [e1, e2]; exact ⟨rfl, hs89.tail.tail.tail.tail.tail.tail.tail.tail.tail⟩)
      | (have hall := zDa (p := p) (d := d) (i := (((allC d p.farms.length).map pad).map ia).length) (by simp); obtain ⟨e1, e2⟩ := told_e3 (p := p) (d := d) (by assumption) hdo (by omega); rw [e1, e2]; exact ⟨rfl, hs89.tail.tail.tail.tail.tail.tail.tail.tail.tail⟩)
      | (have hall := zDa (p := p) (d := d) (i := (((allC d p.farms.length).map pad).map ia).length) (by simp); obtain ⟨e1, e2⟩ := told_ok (p := p) (d := d) (by assumption) hdo (by omega); rw [e1, e2, ← hall]; exact ⟨rfl, hs89.tail.tail.tail.tail.tail.tail.tail.tail.tail⟩)
   try simp only [zS] at h85
   refine zAx (zAd (hK81 _ _ ?_))
   refine zAg (fun K91 hK90 => ?_)
   refine zAb (w_p (zAk isAgg3 hs rfl rfl (zAj (i := 1) (vs := [_]) rfl rfl)) rfl ?_)
   refine w_p (zAc (v := .int _ _) rfl rfl) rfl ?_
   refine w_p (zAc (v := _) rfl rfl) rfl ?_
   refine zAf (zAd (hK90 _ _ ?_))
   refine zA2 (q_retM (i := 0) (l := [.tmp 4, .tmp 5]) (vs := [_, _]) hs rfl rfl (fun w92 hs93 => ⟨⟨⟨rfl, (rfl : _ = Value.int _ _)⟩, ⟨rfl, (rfl : _ = Value.int _ _)⟩, trivial⟩, ?_⟩))
   first
     | (obtain ⟨e1, e2⟩ := told_e1 (p := p) (z := z) (by assumption); rw [e1, e2]; exact ⟨rfl, hs93.tail.tail.tail.tail.tail.tail.tail.tail.tail⟩)
     | (obtain ⟨e1, e2⟩ := told_e2 (p := p) (z := z) (by assumption) (by assumption); rw [e1, e2]; exact ⟨rfl, hs93.tail.tail.tail.tail.tail.tail.tail.tail.tail⟩)
     | (have hall := zDa (p := p) (d := d) (i := (((allC d p.farms.length).map pad).map ia).length) (by simp); obtain ⟨e1, e2⟩ := told_e3 (p := p) (d := d) (by assumption) hdo (by omega); rw [e1, e2]; exact ⟨rfl, hs93.tail.tail.tail.tail.tail.tail.tail.tail.tail⟩)
     | (have hall := zDa (p := p) (d := d) (i := (((allC d p.farms.length).map pad).map ia).length) (by simp); obtain ⟨e1, e2⟩ := told_ok (p := p) (d := d) (by assumption) hdo (by omega); rw [e1, e2, ← hall]; exact ⟨rfl, hs93.tail.tail.tail.tail.tail.tail.tail.tail.tail⟩)
  intro _ _ _ _ hJ
  exact hJ.elim

end Go.Proofs.Cb
set_option maxRecDepth 20000
namespace Go.Proofs.Cb
open Go.Proofs.Tryz
open Go.Rt Go.Rt.Ca
attribute [local irreducible] WL WC Con Yd At Ats Sl Agree DW

theorem early_e1 {p : Port} (h : ¬ (check p).2.2 = 0) : earlyD p = (0, 0, (check p).2.2) := by unfold earlyD; rw [if_neg h]
theorem early_e2 {p : Port} (h : (check p).2.2 = 0) (h2 : (doC p).isEmpty = false) : earlyD p = (0, 0, 2) := by unfold earlyD; rw [if_pos h, if_neg (by rw [h2]; simp)]
theorem early_go {p : Port} (h : (check p).2.2 = 0) (h2 : (doC p).isEmpty = true) : earlyD p = earlyFrom p 0 (p.farms.drop 0) := by
  unfold earlyD; rw [if_pos h, if_pos h2]; rfl
theorem earlyK_yes {p : Port} {i n : Nat} {k : Int} (h : (doC (kept p i k)).isEmpty = false) : earlyK p i k (n + 1) = some k := by
  rw [earlyK, if_pos (by unfold canAt; rw [h]; rfl)]
theorem earlyK_no {p : Port} {i n : Nat} {k : Int} (h : (doC (kept p i k)).isEmpty = true) : earlyK p i k (n + 1) = earlyK p i (k + 1) n := by
  rw [earlyK]; rw [if_neg (by unfold canAt; rw [h]; simp)]
theorem own_some {t : TypeId} {sz n : Nat} {v : Value} {xs : List Value} {B : List (Nat × Obj)} (h : Rt.Own v t sz n xs B) (hn : 0 < n) : ∃ b cap cs, v = .slice (some ⟨b, 0, none⟩) n cap ∧ B = [(b, blk t cs)] ∧ n ≤ cap ∧ cs.length = cap * sz ∧ cs.take (n * sz) = xs := by
  rcases h.2 with ⟨_, h0, _⟩ | ⟨b, cap, cs, h1, h2, h3, _, h5, h6⟩
  · omega
  · exact ⟨b, cap, cs, h1, h2, h3, h5, h6⟩
theorem sl_own_rows {w0 : World} {L : List (Nat × Obj)} {i b n : Nat} {t : TypeId} {cs : List Value} {l : List Farm} (hi : L[i]? = some (b, blk t cs)) (hn : l.length = n) (h : cs.take (n * 6) = (rows l).flatten) : Sl w0 L (some ⟨b, 0, none⟩) 6 (rows l) :=
  zBr hi (by intro row hr; obtain ⟨f, _, rfl⟩ := List.mem_map.1 hr; rfl) (by simpa [rows, hn] using h)
theorem c38 {w0 w : World} {F : List (Nat × Obj)} (p : Port) (a : Option Addr) (c : Nat) (hl3 : p.farms.length ≤ 9223372036854775807) (hc : p.farms.length ≤ c) (ha : Sl w0 F a 6 (rows p.farms)) (hnm : ∀ f ∈ p.farms, f.name.size ≤ 9223372036854775807)  (hs : St w0 w F) :
  Con Tryz.prog 38 [.agg (p.cells a c).toArray] w fun v w' => v = .tuple #[.int .i64 (earlyD p).1, .int .i64 (earlyD p).2.1, .int .i64 (earlyD p).2.2] ∧ St w0 w' F := by
  refine zAw (n := 65) func38 rfl rfl (Nat.le_of_ble_eq_true rfl) ?_
  refine zAg (fun K2 hK1 => ?_)
  refine zAb (zB3 (v := .agg #[.int _ _, .int _ _, .int _ _, .slice _ _ _]) (cs := [_, _, _, _]) zAa rfl rfl rfl hs (fun b3 w4 hs5 => ?_))
  refine w_p (zAc (v := _) rfl rfl) rfl ?_
  refine w_p (zAc (v := _) rfl rfl) rfl ?_
  refine w_p (zAc (v := _) rfl rfl) rfl ?_
  refine zAf (zAd (hK1 _ _ ?_))
  refine zAg (fun K7 hK6 => ?_)
  refine zAb (w_p (zA6 (vs := [_, _, _, _]) isAgg31 sizeOf31 hs5 rfl rfl (zAj (i := 0) (vs := [_, _, _, _]) rfl rfl)) rfl ?_)
  refine zAt zAa call48 rfl rfl rfl rfl (c48 p _ _ (by omega) (by omega) ha.cons hnm hs5) ?_
  rintro _ w9 ⟨rfl, hs10⟩
  refine w_p (zAe (v := .tuple _) rfl rfl) rfl ?_
  refine w_p (zAq (v := .int _ _) rfl rfl rfl) rfl ?_
  refine w_p (zAq (v := .int _ _) rfl rfl rfl) rfl ?_
  refine w_p (zAq (v := .int _ _) rfl rfl rfl) rfl ?_
  refine w_p (zAc (v := .int _ _) rfl rfl) rfl ?_
  refine zAf (zAd (hK6 _ _ ?_))
  refine zAg (fun K12 hK11 => ?_)
  refine zAy ?_
  refine zAg (fun K14 hK13 => ?_)
  refine zAb (w_p (zAe (v := .int _ _) rfl rfl) rfl ?_)
  refine w_p (zCc rfl rfl rfl rfl) rfl ?_
  refine w_p (zAc (v := .bool _) rfl rfl) rfl ?_
  refine zAf (zAd (hK13 _ _ ?_))
  refine zAz rfl rfl (fun h15 => ?_) (fun h15 => ?_)
  ·
   try simp only [zS] at h15
   refine zAg (fun K17 hK16 => ?_)
   refine zAb (w_p (zAe (v := .int _ _) rfl rfl) rfl ?_)
   refine w_p (zAc (v := _) rfl rfl) rfl ?_
   refine w_p (zAc (v := _) rfl rfl) rfl ?_
   refine w_p (zAc (v := .int _ _) rfl rfl) rfl ?_
   refine zAf (zAd (hK16 _ _ ?_))
   refine zA2 (zA1 (zAm (zA3 (l := [.tmp 2, .tmp 3, .tmp 4]) (vs := [_, _, _]) rfl ⟨⟨rfl, (rfl : _ = Value.int _ _)⟩, ⟨rfl, (rfl : _ = Value.int _ _)⟩, ⟨rfl, (rfl : _ = Value.int _ _)⟩, trivial⟩ ?_)))
   first
     | exact ⟨tup3 (early_e1 (by assumption)), hs10.tail⟩
     | exact ⟨tup3 (early_e2 (by assumption) (by assumption)), hs10.tail⟩
     | exact ⟨tup3 (hinv.trans (by rw [List.drop_of_length_le (by omega)]; rfl)), hs10.tail⟩
     | exact ⟨tup3 (hinv.trans (by rw [early_here hi2, hk, show (9 - kk).toNat = (9 - (kk + 1)).toNat + 1 by omega, earlyK_yes (by assumption)])), hs10.tail⟩
  try simp only [zS] at h15
  refine zAg (fun K19 hK18 => ?_)
  have hok := check_ok (by assumption)
  have hlen3 := hok.len
  refine zAb (w_p (zA6 (vs := [_, _, _, _]) isAgg31 sizeOf31 hs10 rfl rfl (zAj (i := 0) (vs := [_, _, _, _]) rfl rfl)) rfl ?_)
  refine zAt zAa call49 rfl rfl rfl rfl (c49 p _ _ hs10) ?_
  rintro _ w21 ⟨m, pb, rfl, hs22⟩
  refine zAt zAa call74 rfl rfl rfl rfl (c74 (F := _ :: _ :: _ :: F) p _ _ m pb (zAj (i := 1) (vs := [_, _, _, _, _]) rfl rfl) ha.cons.cons.cons hok hs22) ?_
  rintro _ w24 ⟨rfl, hs25⟩
  refine w_p (zAc (v := .bool _) rfl rfl) rfl ?_
  refine zAf (zAd (hK18 _ _ ?_))
  refine zAz rfl rfl (fun h26 => ?_) (fun h26 => ?_)
  ·
   try simp only [zS] at h26
   refine zAg (fun K28 hK27 => ?_)
   refine zAb (w_p (zAc (v := _) rfl rfl) rfl ?_)
   refine w_p (zAc (v := _) rfl rfl) rfl ?_
   refine w_p (zAc (v := _) rfl rfl) rfl ?_
   refine zAf (zAd (hK27 _ _ ?_))
   refine zA2 (zA1 (zAm (zA3 (l := [.tmp 2, .tmp 3, .tmp 4]) (vs := [_, _, _]) rfl ⟨⟨rfl, (rfl : _ = Value.int _ _)⟩, ⟨rfl, (rfl : _ = Value.int _ _)⟩, ⟨rfl, (rfl : _ = Value.int _ _)⟩, trivial⟩ ?_)))
   first
     | exact ⟨tup3 (early_e1 (by assumption)), hs25.tail.tail.tail⟩
     | exact ⟨tup3 (early_e2 (by assumption) (by assumption)), hs25.tail.tail.tail⟩
     | exact ⟨tup3 (hinv.trans (by rw [List.drop_of_length_le (by omega)]; rfl)), hs25.tail.tail.tail⟩
     | exact ⟨tup3 (hinv.trans (by rw [early_here hi2, hk, show (9 - kk).toNat = (9 - (kk + 1)).toNat + 1 by omega, earlyK_yes (by assumption)])), hs25.tail.tail.tail⟩
  try simp only [zS] at h26
  refine zAx (zAl (zAd (hK11 _ _ ?_)))
  refine zAg (fun K30 hK29 => ?_)
  refine zAg (fun K32 hK31 => ?_)
  refine zAb (w_p (zAh (o := 3) (i := 2) underlying31 rfl sizeOf29 rfl rfl rfl) rfl ?_)
  refine w_p (zAk isAgg29 hs25 rfl rfl (zAj (i := 2) (vs := [_]) rfl rfl)) rfl ?_
  refine w_p (zBd underlying29 rfl rfl) rfl ?_
  refine w_p (zAe (v := _) rfl rfl) rfl ?_
  refine zAf (zAd (hK31 _ _ ?_))
  refine zAy ?_
  refine zBp [2, 3, 4, 5, 6, 7, 25, 26, 27, 28, 29, 30, 31, 32, 33, 34, 35, 36, 37, 38, 39, 40, 41, 42, 43, 44, 45, 46, 47, 48, 49, 50, 51, 52, 53, 54, 55, 56, 57, 58, 59, 60, 61, 62, 63, 64] [25] (fun k vs w => ∃ i : Nat, vs = [.int .i64 i] ∧ i ≤ p.farms.length ∧ k = p.farms.length - i ∧ earlyD p = earlyFrom p i (p.farms.drop i) ∧ St w0 w ((b3, blk 31 (p.cells a c)) :: F)) (p.farms.length) ?_ ?_
  ·
   exact ⟨0, rfl, by omega, by omega, early_go (by assumption) (by assumption), hs25.tail.tail⟩
  intro k vs μ w35 hI K34 hN33
  obtain ⟨i, rfl, hia, rfl, hinv, hs⟩ := hI
  refine zAg (fun K37 hK36 => ?_)
  refine zAb (w_p (zBt rfl rfl rfl rfl) rfl ?_)
  refine zAf (zAd (hK36 _ _ ?_))
  refine zAg (fun K39 hK38 => ?_)
  refine zAz rfl rfl (fun h40 => ?_) (fun h40 => ?_)
  ·
   try simp only [zS] at h40
   refine zAx (zAd (hK38 _ _ ?_))
   refine zAg (fun K42 hK41 => ?_)
   refine zAy ?_
   refine zAg (fun K44 hK43 => ?_)
   have hi2 : i < p.farms.length := by omega
   have hfo := hok.farm _ (List.getElem_mem hi2)
   unfold Farm.Ok at hfo
   refine zAb (w_p (zAe (v := .int _ _) rfl rfl) rfl ?_)
   refine w_p (zAc (v := .int _ _) rfl rfl) rfl ?_
   refine zAf (zAd (hK43 _ _ ?_))
   refine zAg (fun K46 hK45 => ?_)
   refine zAb (w_p (zA6 (vs := [_, _, _, _]) isAgg31 sizeOf31 hs rfl rfl (zAj (i := 0) (vs := [_, _, _, _]) rfl rfl)) rfl ?_)
   refine zA9 (cs := [_, _, _, _]) zAa zeroValue31 rfl hs (fun b47 w48 hs49 => ?_)
   refine zA5 (i := 0) (v := .agg #[.int _ _, .int _ _, .int _ _, .slice _ _ _]) (vs := [_, _, _, _]) zAa sizeOf31 rfl rfl rfl rfl rfl (by simp [Value.oneCell']) hs49 rfl (Nat.le_of_ble_eq_true rfl) (fun w50 hs51 => ?_)
   refine zAf (zAd (hK45 _ _ ?_))
   refine zAg (fun K53 hK52 => ?_)
   refine zAb (w_p (zAh (o := 3) (i := 2) underlying31 rfl sizeOf29 rfl rfl rfl) rfl ?_)
   refine w_p (zAk isAgg29 hs51 rfl rfl (zAj (i := 1) (vs := [_]) rfl rfl)) rfl ?_
   refine zAt zAa call75 rfl rfl rfl rfl (c75 _ _ p.farms (by omega) (by omega) ha.cons.cons hs51) ?_
   rintro _ w55 ⟨BC, hown, hs56⟩
   obtain ⟨bc, cap, cs0, rfl, rfl, hcap, hcl0, hcs0⟩ := own_some hown (by omega)
   replace hs56 := (show St _ _ (_ :: _ :: _ :: F) from hs56)
   refine w_p (zAh (o := 3) (i := 2) underlying31 rfl sizeOf29 rfl rfl rfl) rfl ?_
   refine zA5 (i := 1) (v := .slice _ _ _) (vs := [_]) zAa sizeOf29 rfl rfl rfl rfl rfl (by simp [Value.oneCell']) hs56 rfl (Nat.le_of_ble_eq_true rfl) (fun w58 hs59 => ?_)
   refine zAf (zAd (hK52 _ _ ?_))
   refine zAg (fun K61 hK60 => ?_)
   refine zAb (w_p (zAh (o := 3) (i := 2) underlying31 rfl sizeOf29 rfl rfl rfl) rfl ?_)
   refine w_p (zAk isAgg29 hs59 rfl rfl (zAj (i := 1) (vs := [_]) rfl rfl)) rfl ?_
   refine w_p (zAe (v := .int _ _) rfl rfl) rfl ?_
   refine w_p (zA7 underlying29 sizeOf48 rfl rfl rfl rfl (i := _) rfl (by omega)) rfl ?_
   refine w_p (zAc (v := .pointer _) rfl rfl) rfl ?_
   refine zAf (zAd (hK60 _ _ ?_))
   refine zAy ?_
   refine zBp [2, 3, 4, 37, 38, 39, 40, 41, 42, 43, 44, 45, 46, 47, 48, 49, 50, 51, 52, 53, 54, 55, 56, 57, 58, 59, 60, 61, 62, 63] [] (fun k vs w => ∃ (kk : Int) (cs : List Value), vs = [] ∧ p.farms[i].keep ≤ kk ∧ kk ≤ 9 ∧ k = (9 - kk).toNat ∧ cs.length = cap * 6 ∧ cs.take (p.farms.length * 6) = (rows (setKeep p.farms i kk)).flatten ∧ earlyK p i (p.farms[i].keep + 1) (9 - p.farms[i].keep).toNat = earlyK p i (kk + 1) (9 - kk).toNat ∧ St w0 w ((bc, blk 48 cs) :: (b47, blk 31 [.int .i64 p.hold, .int .i64 p.clo, .int .i64 p.chi, .slice (some ⟨bc, 0, none⟩) p.farms.length cap]) :: (b3, blk 31 (p.cells a c)) :: F)) ((9 - p.farms[i].keep).toNat) ?_ ?_
   ·
    exact ⟨p.farms[i].keep, cs0, rfl, by omega, by omega, rfl, hcl0, (by rw [setKeep_same hi2]; exact hcs0), rfl, hs59⟩
   intro k vs μ w64 hI K63 hN62
   obtain ⟨kk, cs, rfl, hk0, hk9, rfl, hcl, hcs, hk, hs⟩ := hI
   have hrow := (sl_farm (sl_own_rows (w0 := w0) (L := (bc, blk 48 cs) :: (b47, blk 31 [.int .i64 p.hold, .int .i64 p.clo, .int .i64 p.chi, .slice (some ⟨bc, 0, none⟩) p.farms.length cap]) :: (b3, blk 31 (p.cells a c)) :: F) (i := 0) rfl (zC2 _ _ _) hcs) (i := i) (by rw [zC2]; exact hi2))
   obtain ⟨bx, ox, hbx, hrow2⟩ := hrow
   cases hbx
   rw [setKeep_cells _ hi2] at hrow2
   refine zAg (fun K66 hK65 => ?_)
   refine zAg (fun K68 hK67 => ?_)
   refine zAb (w_p (zAe (v := .pointer _) rfl rfl) rfl ?_)
   refine w_p (zBk rfl rfl) rfl ?_
   refine w_p (zAh (o := 3) (i := 3) underlying48 rfl sizeOf3 rfl rfl rfl) rfl ?_
   refine w_p (zAk isAgg3 hs rfl rfl (show Ats _ _ _ _ [_] from Ats.part hrow2 3 1)) rfl ?_
   refine w_p (zBt rfl rfl rfl rfl) rfl ?_
   refine zAf (zAd (hK67 _ _ ?_))
   refine zAz rfl rfl (fun h69 => ?_) (fun h69 => ?_)
   ·
    try simp only [zS] at h69
    refine zAx (zAd (hK65 _ _ ?_))
    refine zAy ?_
    refine zAg (fun K71 hK70 => ?_)
    refine zAb (w_p (zAe (v := .pointer _) rfl rfl) rfl ?_)
    refine w_p (zBk rfl rfl) rfl ?_
    refine w_p (zAh (o := 3) (i := 3) underlying48 rfl sizeOf3 rfl rfl rfl) rfl ?_
    refine w_p (zAk isAgg3 hs rfl rfl (show Ats _ _ _ _ [_] from Ats.part hrow2 3 1)) rfl ?_
    refine w_p (zBf rfl rfl rfl rfl (by omega) (by omega)) rfl ?_
    refine w_p (zBk rfl rfl) rfl ?_
    refine w_p (zAh (o := 3) (i := 3) underlying48 rfl sizeOf3 rfl rfl rfl) rfl ?_
    refine zA5 (i := 0) (v := .int _ _) (vs := [_]) zAa sizeOf3 rfl rfl rfl rfl rfl (by simp [Value.oneCell']) hs rfl (show 0 + i * 6 + 3 + 1 ≤ cs.length by omega) (fun w72 hs73 => ?_)
    have hcs2 : (cs.set (i * 6 + 3) (.int .i64 (kk + 1))).take (p.farms.length * 6) = (rows (setKeep p.farms i (kk + 1))).flatten := by rw [← setKeep_set (k := kk)]; exact cells_set (zC2 _ _ _) hcs hi2
    have hcl2 : (cs.set (i * 6 + 3) (.int .i64 (kk + 1))).length = cap * 6 := by rw [List.length_set]; exact hcl
    replace hs73 := (show St _ _ ((bc, blk 48 (cs.set (i * 6 + 3) (.int .i64 (kk + 1)))) :: _ :: _ :: F) from (by have h6 := hs73; simp only [setMany, Nat.zero_add] at h6; exact h6))
    refine zAf (zAd (hK70 _ _ ?_))
    refine zAg (fun K75 hK74 => ?_)
    refine zAb (w_p (zA6 (vs := [_, _, _, _]) isAgg31 sizeOf31 hs73 rfl rfl (zAj (i := 1) (vs := [_, _, _, _]) rfl rfl)) rfl ?_)
    refine zAt zAa call49 rfl rfl rfl rfl (c49 p _ _ hs73) ?_
    rintro _ w77 ⟨m, pb, rfl, hs78⟩
    refine zAt zAa call74 rfl rfl rfl rfl (c74 (F := _ :: _ :: _ :: _ :: _ :: F) (kept p i (kk + 1)) (some ⟨bc, 0, none⟩) cap m pb (show Ats w0 _ pb 0 [.int .i64 p.hold, .int .i64 p.clo, .int .i64 p.chi, .slice _ (setKeep p.farms i (kk + 1)).length cap, .map (some m)] from by rw [zC2]; exact zAj (i := 1) (vs := [_, _, _, _, _]) rfl rfl) (sl_own_rows (i := 2) rfl (zC2 _ _ _) hcs2) (kept_ok hok hi2 (by omega) (by omega)) hs78) ?_
    rintro _ w80 ⟨rfl, hs81⟩
    refine zAf (zAd (hK74 _ _ ?_))
    refine zAz rfl rfl (fun h82 => ?_) (fun h82 => ?_)
    ·
     try simp only [zS] at h82
     refine zAg (fun K84 hK83 => ?_)
     have hrow := (sl_farm (sl_own_rows (w0 := w0) (L := (bc, blk 48 (cs.set (i * 6 + 3) (.int .i64 (kk + 1)))) :: (b47, blk 31 [.int .i64 p.hold, .int .i64 p.clo, .int .i64 p.chi, .slice (some ⟨bc, 0, none⟩) p.farms.length cap]) :: (b3, blk 31 (p.cells a c)) :: F) (i := 0) rfl (zC2 _ _ _) hcs2) (i := i) (by rw [zC2]; exact hi2))
     obtain ⟨bx, ox, hbx, hrow2⟩ := hrow
     cases hbx
     rw [setKeep_cells _ hi2] at hrow2
     obtain ⟨by_, oy, rfl, hfar⟩ := sl_farm ha hi2
     refine zB7 [] [(0, 0), (1, 0), (2, 0), (3, 0), (4, 1), (5, 0), (6, 1), (7, 0), (8, 0), (9, 0), (10, 1), (11, 0), (12, 0), (13, 0), (14, 0)] zBu (by kernel_rfl) hs81 (fun w85 hs86 => ?_)
     refine zAp rfl zAa rfl (fun _ => (zAe (v := .int _ _) rfl rfl)) ?_
     refine zAp rfl zAa rfl (fun _ => (zAe (v := .pointer _) rfl rfl)) ?_
     refine zAp rfl zAa rfl (fun _ => (zBk rfl rfl)) ?_
     refine zAp rfl zAa rfl (fun _ => (zAh (o := 3) (i := 3) underlying48 rfl sizeOf3 rfl rfl rfl)) ?_
     refine zBa rfl zAa rfl hs86 (fun _ hq => (zAk isAgg3 hq.tail.tail rfl rfl (show Ats _ _ _ _ [_] from Ats.part hrow2 3 1))) ?_
     refine zAp rfl zAa rfl (fun _ => (zAh (o := 3) (i := 2) underlying31 rfl sizeOf29 rfl rfl rfl)) ?_
     refine zBa rfl zAa rfl hs86 (fun _ hq => (zAk isAgg29 hq rfl rfl (zAj (i := 4) (vs := [_]) rfl rfl))) ?_
     refine zAp rfl zAa rfl (fun _ => (zAe (v := .int _ _) rfl rfl)) ?_
     refine zAp rfl zAa rfl (fun _ => (zA7 underlying29 sizeOf48 rfl rfl rfl rfl (i := _) rfl (by omega))) ?_
     refine zAp rfl zAa rfl (fun _ => (zAh (o := 3) (i := 3) underlying48 rfl sizeOf3 rfl rfl rfl)) ?_
     refine zBa rfl zAa rfl hs86 (fun _ hq => (zAk isAgg3 hq.tail.tail.tail.tail.tail rfl rfl (show Ats _ _ _ _ [_] from Ats.part hfar 3 1))) ?_
     refine zAp rfl zAa rfl (fun _ => (y_sub rfl rfl rfl rfl (by omega) (by omega))) ?_
     refine zAp rfl zAa rfl (fun _ => (zAc (v := .int _ _) rfl rfl)) ?_
     refine zAp rfl zAa rfl (fun _ => (zAc (v := .int _ _) rfl rfl)) ?_
     refine zAp rfl zAa rfl (fun _ => (zAc (v := _) rfl rfl)) ?_
     refine zB1 ?_
     refine zAd (hK83 _ _ ?_)
     refine zA2 (zA1 (zAm (zA1 (zA1 (zAm (zAm (zA1 (zAm (zA3 (l := [.tmp 2, .tmp 3, .tmp 4]) (vs := [_, _, _]) rfl ⟨⟨rfl, (rfl : _ = Value.int _ _)⟩, ⟨rfl, (rfl : _ = Value.int _ _)⟩, ⟨rfl, (rfl : _ = Value.int _ _)⟩, trivial⟩ ?_)))))))))
     first
       | exact ⟨tup3 (early_e1 (by assumption)), hs86.tail.tail.tail.tail.tail⟩
       | exact ⟨tup3 (early_e2 (by assumption) (by assumption)), hs86.tail.tail.tail.tail.tail⟩
       | exact ⟨tup3 (hinv.trans (by rw [List.drop_of_length_le (by omega)]; rfl)), hs86.tail.tail.tail.tail.tail⟩
       | exact ⟨tup3 (hinv.trans (by rw [early_here hi2, hk, show (9 - kk).toNat = (9 - (kk + 1)).toNat + 1 by omega, earlyK_yes (by assumption)])), hs86.tail.tail.tail.tail.tail⟩
    try simp only [zS] at h82
    refine zAx (zAl (zAd (hN62 _ _ (Nx.intro ((9 - (kk + 1)).toNat) (by omega) (by repeat (first | exact zAv | refine zAu rfl ?_ | refine zAs rfl ?_ _ | refine zAr rfl ?_)) ?_))))
    exact ⟨kk + 1, _, rfl, by omega, by omega, rfl, hcl2, hcs2, (by rw [hk, show (9 - kk).toNat = (9 - (kk + 1)).toNat + 1 by omega]; exact earlyK_no (by assumption)), hs81.tail.tail⟩
   try simp only [zS] at h69
   refine zBl (zAo (zAo (zA4 (zAl (zAd (hK41 _ _ ?_))))))
   refine zAb (w_p (zBf rfl rfl rfl rfl (by omega) (by omega)) rfl ?_)
   refine w_p (zAe (v := .int _ _) rfl rfl) rfl ?_
   refine zAf (zAd (hN33 _ _ (Nx.intro (p.farms.length - (i + 1)) (by omega) (by repeat (first | exact zAv | refine zAu rfl ?_ | refine zAs rfl ?_ _ | refine zAr rfl ?_)) ?_)))
   exact ⟨i + 1, rfl, by omega, rfl, (by rw [hinv, early_here hi2, hk, show (9 - kk).toNat = 0 by omega]; rfl), hs.tail.tail⟩
  try simp only [zS] at h40
  refine zBl (zAo (zAo (zA4 (zAd (hK29 _ _ ?_)))))
  refine zAg (fun K88 hK87 => ?_)
  refine zAb (w_p (zAc (v := _) rfl rfl) rfl ?_)
  refine w_p (zAc (v := _) rfl rfl) rfl ?_
  refine w_p (zAc (v := _) rfl rfl) rfl ?_
  refine zAf (zAd (hK87 _ _ ?_))
  refine zA2 (zA3 (l := [.tmp 2, .tmp 3, .tmp 4]) (vs := [_, _, _]) rfl ⟨⟨rfl, (rfl : _ = Value.int _ _)⟩, ⟨rfl, (rfl : _ = Value.int _ _)⟩, ⟨rfl, (rfl : _ = Value.int _ _)⟩, trivial⟩ ?_)
  first
    | exact ⟨tup3 (early_e1 (by assumption)), hs.tail⟩
    | exact ⟨tup3 (early_e2 (by assumption) (by assumption)), hs.tail⟩
    | exact ⟨tup3 (hinv.trans (by rw [List.drop_of_length_le (by omega)]; rfl)), hs.tail⟩
    | exact ⟨tup3 (hinv.trans (by rw [early_here hi2, hk, show (9 - kk).toNat = (9 - (kk + 1)).toNat + 1 by omega, earlyK_yes (by assumption)])), hs.tail⟩

end Go.Proofs.Cb
set_option maxRecDepth 20000
namespace Go.Proofs.Cb
open Go.Proofs.Tryz
open Go.Rt Go.Rt.Ca
attribute [local irreducible] WL WC Con Yd At Ats Sl Agree DW
theorem Try_CR_fb8 (x0 : Int) (x1 : Int) (w : World) : (Instr.build 28 [(0, .int .i64 x0), (1, .int .i64 x1)].toArray).run Tryz.prog w = .ok (.agg #[.int .i64 x0, .int .i64 x1]) w := by kernel_rfl
theorem Try_CR_fb9 (x0 : ByteArray) (x1 : Int) (x2 : Int) (x3 : Int) (x4 : Int) (x5 : Int) (w : World) : (Instr.build 48 [(0, .string x0), (1, .int .i64 x1), (2, .int .i64 x2), (3, .int .i64 x3), (4, .agg #[.int .i64 x4, .int .i64 x5])].toArray).run Tryz.prog w = .ok (.agg #[.string x0, .int .i64 x1, .int .i64 x2, .int .i64 x3, .int .i64 x4, .int .i64 x5]) w := by kernel_rfl
theorem Try_CR_fb10 (x0 : ByteArray) (x1 : Int) (x2 : Int) (x3 : Int) (x4 : Int) (x5 : Int) (x6 : ByteArray) (x7 : Int) (x8 : Int) (x9 : Int) (x10 : Int) (x11 : Int) (x12 : ByteArray) (x13 : Int) (x14 : Int) (x15 : Int) (x16 : Int) (x17 : Int) (w : World) : (Instr.buildSlice 29 3 [(0, .agg #[.string x0, .int .i64 x1, .int .i64 x2, .int .i64 x3, .int .i64 x4, .int .i64 x5]), (1, .agg #[.string x6, .int .i64 x7, .int .i64 x8, .int .i64 x9, .int .i64 x10, .int .i64 x11]), (2, .agg #[.string x12, .int .i64 x13, .int .i64 x14, .int .i64 x15, .int .i64 x16, .int .i64 x17])].toArray).run Tryz.prog w = .ok (.slice (some ⟨w.heap.size, 0, none⟩) 3 3) (w.alloc (Go.Rt.blk 48 [.string x0, .int .i64 x1, .int .i64 x2, .int .i64 x3, .int .i64 x4, .int .i64 x5, .string x6, .int .i64 x7, .int .i64 x8, .int .i64 x9, .int .i64 x10, .int .i64 x11, .string x12, .int .i64 x13, .int .i64 x14, .int .i64 x15, .int .i64 x16, .int .i64 x17])) := by kernel_rfl
theorem Try_CR_fb11 (x0 : Int) (x1 : Int) (x2 : Int) (x3 : Option Addr) (l3 c3 : Nat) (w : World) : (Instr.build 31 [(0, .int .i64 x0), (1, .agg #[.int .i64 x1, .int .i64 x2]), (2, .slice x3 l3 c3)].toArray).run Tryz.prog w = .ok (.agg #[.int .i64 x0, .int .i64 x1, .int .i64 x2, .slice x3 l3 c3]) w := by kernel_rfl
theorem gen_Z {w0 w : World} {L : List (Nat × Obj)} (hs : St w0 w L) : ∃ Z, Z = L ∧ St w0 w Z := ⟨L, rfl, hs⟩
theorem con_true {k : FuncId} {args : List Value} {w : World} {x : Bool} {S : World → Prop} (h : Con Tryz.prog k args w fun v w' => v = .bool x ∧ S w') (hx : x = true) : Con Tryz.prog k args w fun v w' => v = .bool true ∧ S w' := by subst hx; exact h
theorem c41 {w0 w : World} {F : List (Nat × Obj)} (x y : Int) (hs : St w0 w F) :
  Con Tryz.prog 41 [.int .i64 x, .int .i64 y] w fun v w' => v = .agg #[.int .i64 x, .int .i64 y] ∧ St w0 w' F := by
  refine zAw (n := 8) func41 rfl rfl (Nat.le_of_ble_eq_true rfl) ?_
  refine zAg (fun K2 hK1 => ?_)
  refine zAb (zA9 (cs := [_, _]) zAa zeroValue28 rfl hs (fun b3 w4 hs5 => ?_))
  refine zAf (zAd (hK1 _ _ ?_))
  refine zAg (fun K7 hK6 => ?_)
  refine zAb (w_p (zAe (v := .int _ _) rfl rfl) rfl ?_)
  refine w_p (zAe (v := .int _ _) rfl rfl) rfl ?_
  refine w_p (zBs (ps := [(0, _), (1, _)]) (pv := [(0, .int _ _), (1, .int _ _)]) rfl rfl (fun w => Try_CR_fb8 _ _ w)) rfl ?_
  refine zA5 (i := 0) (v := .agg #[.int _ _, .int _ _]) (vs := [_, _]) zAa sizeOf28 rfl rfl rfl rfl rfl (by simp [Value.oneCell']) hs5 rfl (Nat.le_of_ble_eq_true rfl) (fun w8 hs9 => ?_)
  refine zAf (zAd (hK6 _ _ ?_))
  refine zA2 (zA3 (l := [.cell 4 28]) (vs := [_]) rfl ⟨⟨rfl, _, rfl, zBx (vs := [_, _]) isAgg28 sizeOf28 hs9 (zAj (i := 0) (vs := [_, _]) rfl rfl)⟩, trivial⟩ ?_)
  exact ⟨rfl, hs9.tail⟩

theorem c33 {w0 w : World} {F : List (Nat × Obj)} (x : Int) (n : Nat) (hn : n ≤ 3) (hs : St w0 w F) :
  Con Tryz.prog 33 [.int .i64 x, .int .i64 (n : Int)] w fun v w' => ∃ b, v = .agg #[.int .i64 50, .int .i64 x, .int .i64 8, .slice (some ⟨b, 0, none⟩) n 3] ∧ St w0 w' ((b, blk 48 (rows [fAlto, fBajo, fCima]).flatten) :: F) := by
  refine zAw (n := 19) func33 rfl rfl (Nat.le_of_ble_eq_true rfl) ?_
  refine zAg (fun K2 hK1 => ?_)
  refine zAb (zA9 (cs := [_, _, _, _]) zAa zeroValue31 rfl hs (fun b3 w4 hs5 => ?_))
  refine zAf (zAd (hK1 _ _ ?_))
  refine zAg (fun K7 hK6 => ?_)
  refine zAb (zAt zAa call41 rfl rfl rfl rfl (c41 _ _ hs5) ?_)
  rintro _ w9 ⟨rfl, hs10⟩
  refine w_p (zBs (ps := [(0, _), (1, _), (2, _), (3, _), (4, _)]) (pv := [(0, .string _), (1, .int _ _), (2, .int _ _), (3, .int _ _), (4, .agg #[.int _ _, .int _ _])]) rfl rfl (fun w => Try_CR_fb9 _ _ _ _ _ _ w)) rfl ?_
  refine zAt zAa call41 rfl rfl rfl rfl (c41 _ _ hs10) ?_
  rintro _ w12 ⟨rfl, hs13⟩
  refine w_p (zBs (ps := [(0, _), (1, _), (2, _), (3, _), (4, _)]) (pv := [(0, .string _), (1, .int _ _), (2, .int _ _), (3, .int _ _), (4, .agg #[.int _ _, .int _ _])]) rfl rfl (fun w => Try_CR_fb9 _ _ _ _ _ _ w)) rfl ?_
  refine zAt zAa call41 rfl rfl rfl rfl (c41 _ _ hs13) ?_
  rintro _ w15 ⟨rfl, hs16⟩
  refine w_p (zBs (ps := [(0, _), (1, _), (2, _), (3, _), (4, _)]) (pv := [(0, .string _), (1, .int _ _), (2, .int _ _), (3, .int _ _), (4, .agg #[.int _ _, .int _ _])]) rfl rfl (fun w => Try_CR_fb9 _ _ _ _ _ _ w)) rfl ?_
  refine zBh (ps := [(0, _), (1, _), (2, _)]) (pv := [(0, .agg #[.string _, .int _ _, .int _ _, .int _ _, .int _ _, .int _ _]), (1, .agg #[.string _, .int _ _, .int _ _, .int _ _, .int _ _, .int _ _]), (2, .agg #[.string _, .int _ _, .int _ _, .int _ _, .int _ _, .int _ _])]) (cs := [_, _, _, _, _, _, _, _, _, _, _, _, _, _, _, _, _, _]) zAa rfl rfl (fun w => Try_CR_fb10 _ _ _ _ _ _ _ _ _ _ _ _ _ _ _ _ _ _ w) hs16 (fun b17 w18 hs19 => ?_)
  refine w_p (zAc (v := .slice _ _ _) rfl rfl) rfl ?_
  refine zAf (zAd (hK6 _ _ ?_))
  refine zAg (fun K21 hK20 => ?_)
  refine zB7 [6] [(0, 0), (2, 0), (3, 0), (4, 0), (1, 2), (5, 0), (6, 3)] zBu (by kernel_rfl) hs19 (fun w22 hs23 => ?_)
  refine zAp rfl zAa rfl (fun _ => (zAe (v := .int _ _) rfl rfl)) ?_
  refine zAp rfl zAa rfl (fun _ => (zAe (v := .slice _ _ _) rfl rfl)) ?_
  refine zAp rfl zAa rfl (fun _ => (zAe (v := .int _ _) rfl rfl)) ?_
  refine zAp rfl zAa rfl (fun _ => (y_sliceS (l' := 0) (h' := n) underlying29 sizeOf48 rfl rfl rfl ⟨rfl, _, _, rfl, rfl⟩ (by omega) (by omega))) ?_
  refine zCl rfl ?_
  refine zAt zAa call41 rfl rfl rfl rfl (c41 _ _ hs23) ?_
  rintro _ w25 ⟨rfl, hs26⟩
  refine zAf (qn ⟨hs26, ?_⟩)
  refine zAp rfl zAa rfl (fun _ => (zBs (ps := [(0, _), (1, _), (2, _)]) (pv := [(0, .int _ _), (1, .agg #[.int _ _, .int _ _]), (2, .slice _ _ _)]) rfl rfl (fun w => Try_CR_fb11 _ _ _ _ _ _ w))) ?_
  refine zC8 rfl ?_
  refine zA5 (i := 1) (v := .agg #[.int _ _, .int _ _, .int _ _, .slice _ _ _]) (vs := [_, _, _, _]) zAa sizeOf31 rfl rfl rfl rfl rfl (by simp [Value.oneCell']) hs26 rfl (Nat.le_of_ble_eq_true rfl) (fun w27 hs28 => ?_)
  refine zAf (qn ?_)
  refine zB1 ?_
  refine zAd (hK20 _ _ ?_)
  refine zA2 (zA3 (l := [.cell 4 31]) (vs := [_]) rfl ⟨⟨rfl, _, rfl, zBx (vs := [_, _, _, _]) isAgg31 sizeOf31 hs28 (zAj (i := 1) (vs := [_, _, _, _]) rfl rfl)⟩, trivial⟩ ?_)
  exact ⟨_, rfl, keep_front (Y := [_]) hs28⟩

end Go.Proofs.Cb
set_option maxRecDepth 20000
namespace Go.Proofs.Cb
open Go.Proofs.Tryz
open Go.Rt Go.Rt.Ca
attribute [local irreducible] WL WC Con Yd At Ats Sl Agree DW
theorem Try_CS_fb8 (x0 : Int) (x1 : Int) (x2 : Int) (w : World) : (Instr.buildSlice 43 3 [(0, .int .i64 x0), (1, .int .i64 x1), (2, .int .i64 x2)].toArray).run Tryz.prog w = .ok (.slice (some ⟨w.heap.size, 0, none⟩) 3 3) (w.alloc (Go.Rt.blk 3 [.int .i64 x0, .int .i64 x1, .int .i64 x2])) := by kernel_rfl
theorem Try_CS_fb9 (x0 : Int) (x1 : Int) (x2 : Int) (x3 : Int) (x4 : Int) (x5 : Int) (x6 : Int) (x7 : Int) (w : World) : (Instr.buildSlice 81 4 [(0, .agg #[.int .i64 x0, .int .i64 x1]), (1, .agg #[.int .i64 x2, .int .i64 x3]), (2, .agg #[.int .i64 x4, .int .i64 x5]), (3, .agg #[.int .i64 x6, .int .i64 x7])].toArray).run Tryz.prog w = .ok (.slice (some ⟨w.heap.size, 0, none⟩) 4 4) (w.alloc (Go.Rt.blk 28 [.int .i64 x0, .int .i64 x1, .int .i64 x2, .int .i64 x3, .int .i64 x4, .int .i64 x5, .int .i64 x6, .int .i64 x7])) := by kernel_rfl
theorem c8 {w0 w : World} {F : List (Nat × Obj)}  (hs : St w0 w F) :
  Con Tryz.prog 8 [] w fun v w' => v = .bool true ∧ St w0 w' F := by
  refine zAw (n := 226) func8 rfl rfl (Nat.le_of_ble_eq_true rfl) ?_
  refine zAg (fun K2 hK1 => ?_)
  refine zAb (w_p (zAc (v := _) rfl rfl) rfl ?_)
  refine zAf (zAd (hK1 _ _ ?_))
  refine zAg (fun K4 hK3 => ?_)
  refine zAb (zAt zAa call33 rfl rfl rfl rfl (c33 6 3 (by omega) hs) ?_)
  rintro _ w6 ⟨s1, rfl, hs7⟩
  refine zAt zAa call33 rfl rfl rfl rfl (c33 5 3 (by omega) hs7) ?_
  rintro _ w9 ⟨s2, rfl, hs10⟩
  refine zAt zAa call33 rfl rfl rfl rfl (c33 6 2 (by omega) hs10) ?_
  rintro _ w12 ⟨s3, rfl, hs13⟩
  refine zAt zAa call33 rfl rfl rfl rfl (c33 5 2 (by omega) hs13) ?_
  rintro _ w15 ⟨s4, rfl, hs16⟩
  refine zA9 (cs := [_, _, _, _]) zAa zeroValue31 rfl hs16 (fun b17 w18 hs19 => ?_)
  refine zA9 (cs := [_, _, _, _]) zAa zeroValue31 rfl hs19 (fun b20 w21 hs22 => ?_)
  refine zA9 (cs := [_, _, _, _]) zAa zeroValue31 rfl hs22 (fun b23 w24 hs25 => ?_)
  refine zA9 (cs := [_, _, _, _]) zAa zeroValue31 rfl hs25 (fun b26 w27 hs28 => ?_)
  refine zA5 (i := 3) (v := .agg #[.int _ _, .int _ _, .int _ _, .slice _ _ _]) (vs := [_, _, _, _]) zAa sizeOf31 rfl rfl rfl rfl rfl (by simp [Value.oneCell']) hs28 rfl (Nat.le_of_ble_eq_true rfl) (fun w29 hs30 => ?_)
  refine zA5 (i := 2) (v := .agg #[.int _ _, .int _ _, .int _ _, .slice _ _ _]) (vs := [_, _, _, _]) zAa sizeOf31 rfl rfl rfl rfl rfl (by simp [Value.oneCell']) hs30 rfl (Nat.le_of_ble_eq_true rfl) (fun w31 hs32 => ?_)
  refine zA5 (i := 1) (v := .agg #[.int _ _, .int _ _, .int _ _, .slice _ _ _]) (vs := [_, _, _, _]) zAa sizeOf31 rfl rfl rfl rfl rfl (by simp [Value.oneCell']) hs32 rfl (Nat.le_of_ble_eq_true rfl) (fun w33 hs34 => ?_)
  refine zA5 (i := 0) (v := .agg #[.int _ _, .int _ _, .int _ _, .slice _ _ _]) (vs := [_, _, _, _]) zAa sizeOf31 rfl rfl rfl rfl rfl (by simp [Value.oneCell']) hs34 rfl (Nat.le_of_ble_eq_true rfl) (fun w35 hs36 => ?_)
  refine zAf (zAd (hK3 _ _ ?_))
  refine zAg (fun K38 hK37 => ?_)
  refine zAb (zBh (ps := [(0, _), (1, _), (2, _)]) (pv := [(0, .int _ _), (1, .int _ _), (2, .int _ _)]) (cs := [_, _, _]) zAa rfl rfl (fun w => Try_CS_fb8 _ _ _ w) hs36 (fun b39 w40 hs41 => ?_))
  refine w_p (zAc (v := .slice _ _ _) rfl rfl) rfl ?_
  refine zAf (zAd (hK37 _ _ ?_))
  refine zAg (fun K43 hK42 => ?_)
  obtain ⟨Z, hZ, hsZ⟩ := gen_Z hs41
  have hP1 : Ats w0 Z b17 0 ((exPort 6 3).cells (some ⟨s1, 0, none⟩) 3) := by rw [hZ]; exact zAj (i := 4) (vs := [_, _, _, _]) rfl rfl
  have hS1 : Sl w0 Z (some ⟨s1, 0, none⟩) 6 (rows (exPort 6 3).farms) := by rw [hZ]; exact zBr (i := 8) rfl (by intro row hr; obtain ⟨f, _, rfl⟩ := List.mem_map.1 hr; rfl) rfl
  have hP2 : Ats w0 Z b20 0 ((exPort 5 3).cells (some ⟨s2, 0, none⟩) 3) := by rw [hZ]; exact zAj (i := 3) (vs := [_, _, _, _]) rfl rfl
  have hS2 : Sl w0 Z (some ⟨s2, 0, none⟩) 6 (rows (exPort 5 3).farms) := by rw [hZ]; exact zBr (i := 7) rfl (by intro row hr; obtain ⟨f, _, rfl⟩ := List.mem_map.1 hr; rfl) rfl
  have hP3 : Ats w0 Z b23 0 ((exPort 6 2).cells (some ⟨s3, 0, none⟩) 3) := by rw [hZ]; exact zAj (i := 2) (vs := [_, _, _, _]) rfl rfl
  have hS3 : Sl w0 Z (some ⟨s3, 0, none⟩) 6 (rows (exPort 6 2).farms) := by rw [hZ]; exact zBr (i := 6) rfl (by intro row hr; obtain ⟨f, _, rfl⟩ := List.mem_map.1 hr; rfl) rfl
  have hP4 : Ats w0 Z b26 0 ((exPort 5 2).cells (some ⟨s4, 0, none⟩) 3) := by rw [hZ]; exact zAj (i := 1) (vs := [_, _, _, _]) rfl rfl
  have hS4 : Sl w0 Z (some ⟨s4, 0, none⟩) 6 (rows (exPort 5 2).farms) := by rw [hZ]; exact zBr (i := 5) rfl (by intro row hr; obtain ⟨f, _, rfl⟩ := List.mem_map.1 hr; rfl) rfl
  have hl5 : Sl w0 Z (some ⟨b39, 0, none⟩) 1 (([2, 3, -1] : List Int).map fun x => [Value.int .i64 x]) := by rw [hZ]; exact zBr (i := 0) (rows := [[_], [_], [_]]) rfl (by simp) rfl
  refine zAb (w_p (zA6 (vs := [_, _, _, _]) isAgg31 sizeOf31 hsZ rfl rfl hP2) rfl ?_)
  refine w_p (zAe (v := .slice _ _ _) rfl rfl) rfl ?_
  refine zAt zAa call34 rfl rfl rfl rfl ((c34 (exPort 5 3) (some ⟨s2, 0, none⟩) 3 (by decide) (by decide) hS2 (ex_nm _ _) (some ⟨b39, 0, none⟩) 3 [2, 3, -1] (by decide) hl5 hsZ).mono (fun v w' h => by rw [ex_q5] at h; rw [ex_q5v] at h;  exact h)) ?_
  rintro _ w45 ⟨B1, aq1, cq1, rfl, hq1, hs46⟩
  replace hs46 := (show St _ _ (B1 ++ (Z)) from hs46)
  refine w_p (zAe (v := .tuple _) rfl rfl) rfl ?_
  refine w_p (zAq (v := .slice _ _ _) rfl rfl rfl) rfl ?_
  refine w_p (zAq (v := .int _ _) rfl rfl rfl) rfl ?_
  refine w_p (zAc (v := .slice _ _ _) rfl rfl) rfl ?_
  refine w_p (zAc (v := .int _ _) rfl rfl) rfl ?_
  refine zAf (zAd (hK42 _ _ ?_))
  refine zAg (fun K48 hK47 => ?_)
  refine zAb (w_p (zA6 (vs := [_, _, _, _]) isAgg31 sizeOf31 hs46.drop rfl rfl hP1) rfl ?_)
  refine w_p (zAe (v := .slice _ _ _) rfl rfl) rfl ?_
  refine zAt zAa call35 rfl rfl rfl rfl ((c35 (exPort 6 3) (some ⟨s1, 0, none⟩) 3 (by decide) (by decide) hS1.app (ex_nm _ _) (some ⟨b39, 0, none⟩) 3 [2, 3, -1] (by decide) hl5.app hs46).mono (fun v w' h => by rw [ex_f6] at h; rw [ex_q6] at h;  exact h)) ?_
  rintro _ w50 ⟨rfl, hs51⟩
  refine w_p (zAe (v := .tuple _) rfl rfl) rfl ?_
  refine w_p (zAq (v := .int _ _) rfl rfl rfl) rfl ?_
  refine w_p (zAq (v := .int _ _) rfl rfl rfl) rfl ?_
  refine w_p (zAc (v := .int _ _) rfl rfl) rfl ?_
  refine w_p (zAc (v := .int _ _) rfl rfl) rfl ?_
  refine zAf (zAd (hK47 _ _ ?_))
  refine zAg (fun K53 hK52 => ?_)
  refine zAb (w_p (zA6 (vs := [_, _, _, _]) isAgg31 sizeOf31 hs51.drop rfl rfl hP2) rfl ?_)
  refine w_p (zAe (v := .slice _ _ _) rfl rfl) rfl ?_
  refine zAt zAa call35 rfl rfl rfl rfl ((c35 (exPort 5 3) (some ⟨s2, 0, none⟩) 3 (by decide) (by decide) hS2.app (ex_nm _ _) (some ⟨b39, 0, none⟩) 3 [2, 3, -1] (by decide) hl5.app hs51).mono (fun v w' h => by rw [ex_f5] at h; rw [ex_q5] at h;  exact h)) ?_
  rintro _ w55 ⟨rfl, hs56⟩
  refine w_p (zAe (v := .tuple _) rfl rfl) rfl ?_
  refine w_p (zAq (v := .int _ _) rfl rfl rfl) rfl ?_
  refine w_p (zAq (v := .int _ _) rfl rfl rfl) rfl ?_
  refine w_p (zAc (v := .int _ _) rfl rfl) rfl ?_
  refine w_p (zAc (v := .int _ _) rfl rfl) rfl ?_
  refine zAf (zAd (hK52 _ _ ?_))
  refine zAg (fun K58 hK57 => ?_)
  refine zAb (w_p (zA6 (vs := [_, _, _, _]) isAgg31 sizeOf31 hs56.drop rfl rfl hP2) rfl ?_)
  refine zBh (ps := [(0, _), (1, _), (2, _)]) (pv := [(0, .int _ _), (1, .int _ _), (2, .int _ _)]) (cs := [_, _, _]) zAa rfl rfl (fun w => Try_CS_fb8 _ _ _ w) hs56 (fun b59 w60 hs61 => ?_)
  refine zAt zAa call35 rfl rfl rfl rfl ((c35 (exPort 5 3) (some ⟨s2, 0, none⟩) 3 (by decide) (by decide) hS2.app.cons (ex_nm _ _) (some ⟨b59, 0, none⟩) 3 [-1, -1, 3] (by decide) (zBr (i := 0) (rows := [[_], [_], [_]]) rfl (by simp) rfl) hs61).mono (fun v w' h => by rw [ex_f5b] at h; rw [ex_q5b] at h;  exact h)) ?_
  rintro _ w63 ⟨rfl, hs64⟩
  refine w_p (zAe (v := .tuple _) rfl rfl) rfl ?_
  refine w_p (zAq (v := .int _ _) rfl rfl rfl) rfl ?_
  refine w_p (zAq (v := .int _ _) rfl rfl rfl) rfl ?_
  refine w_p (zAc (v := .int _ _) rfl rfl) rfl ?_
  refine w_p (zAc (v := .int _ _) rfl rfl) rfl ?_
  refine zAf (zAd (hK57 _ _ ?_))
  refine zAg (fun K66 hK65 => ?_)
  refine zAb (w_p (zA6 (vs := [_, _, _, _]) isAgg31 sizeOf31 hs64.tail.drop rfl rfl hP2) rfl ?_)
  refine w_p (zAe (v := .slice _ _ _) rfl rfl) rfl ?_
  refine zAt zAa call36 rfl rfl rfl rfl ((c36 (exPort 5 3) (some ⟨s2, 0, none⟩) 3 (by decide) (by decide) hS2.app.cons (ex_nm _ _) (some ⟨b39, 0, none⟩) 3 [2, 3, -1] (by decide) hl5.app.cons hs64).mono (fun v w' h => by rw [ex_v5] at h; rw [ex_q5] at h;  exact h)) ?_
  rintro _ w68 ⟨rfl, hs69⟩
  refine w_p (zAe (v := .tuple _) rfl rfl) rfl ?_
  refine w_p (zAq (v := .int _ _) rfl rfl rfl) rfl ?_
  refine w_p (zAq (v := .int _ _) rfl rfl rfl) rfl ?_
  refine w_p (zAc (v := .int _ _) rfl rfl) rfl ?_
  refine w_p (zAc (v := .int _ _) rfl rfl) rfl ?_
  refine zAf (zAd (hK65 _ _ ?_))
  refine zAg (fun K71 hK70 => ?_)
  refine zAb (w_p (zA6 (vs := [_, _, _, _]) isAgg31 sizeOf31 hs69.tail.drop rfl rfl hP1) rfl ?_)
  refine zAt zAa call11 rfl rfl rfl rfl ((c11 (exPort 6 3) (some ⟨s1, 0, none⟩) 3 (by decide) (by decide) hS1.app.cons (ex_nm _ _) hs69).mono (fun v w' h => by rw [ex_p6] at h; rw [ex_p6v] at h; rw [ex_p6e] at h;  exact h)) ?_
  rintro _ w73 ⟨B2, aq2, cq2, rfl, hq2, hs74⟩
  replace hs74 := (show St _ _ (B2 ++ (_ :: B1 ++ (Z))) from hs74)
  refine w_p (zAe (v := .tuple _) rfl rfl) rfl ?_
  refine w_p (zAq (v := .slice _ _ _) rfl rfl rfl) rfl ?_
  refine w_p (zAq (v := .int _ _) rfl rfl rfl) rfl ?_
  refine w_p (zAq (v := .int _ _) rfl rfl rfl) rfl ?_
  refine w_p (zAc (v := .slice _ _ _) rfl rfl) rfl ?_
  refine w_p (zAc (v := .int _ _) rfl rfl) rfl ?_
  refine w_p (zAc (v := .int _ _) rfl rfl) rfl ?_
  refine zAf (zAd (hK70 _ _ ?_))
  refine zAg (fun K76 hK75 => ?_)
  refine zAb (w_p (zA6 (vs := [_, _, _, _]) isAgg31 sizeOf31 hs74.drop.tail.drop rfl rfl hP2) rfl ?_)
  refine zAt zAa call11 rfl rfl rfl rfl ((c11 (exPort 5 3) (some ⟨s2, 0, none⟩) 3 (by decide) (by decide) hS2.app.cons.app (ex_nm _ _) hs74).mono (fun v w' h => by rw [ex_p5] at h; rw [ex_p5v] at h; rw [ex_p5e] at h;  exact h)) ?_
  rintro _ w78 ⟨B3, aq3, cq3, rfl, hq3, hs79⟩
  replace hs79 := (show St _ _ (B3 ++ (B2 ++ (_ :: B1 ++ (Z)))) from hs79)
  refine w_p (zAe (v := .tuple _) rfl rfl) rfl ?_
  refine w_p (zAq (v := .slice _ _ _) rfl rfl rfl) rfl ?_
  refine w_p (zAq (v := .int _ _) rfl rfl rfl) rfl ?_
  refine w_p (zAq (v := .int _ _) rfl rfl rfl) rfl ?_
  refine w_p (zAc (v := .slice _ _ _) rfl rfl) rfl ?_
  refine w_p (zAc (v := .int _ _) rfl rfl) rfl ?_
  refine w_p (zAc (v := .int _ _) rfl rfl) rfl ?_
  refine zAf (zAd (hK75 _ _ ?_))
  refine zAg (fun K81 hK80 => ?_)
  refine zAb (w_p (zA6 (vs := [_, _, _, _]) isAgg31 sizeOf31 hs79.drop.drop.tail.drop rfl rfl hP4) rfl ?_)
  refine zAt zAa call11 rfl rfl rfl rfl ((c11 (exPort 5 2) (some ⟨s4, 0, none⟩) 3 (by decide) (by decide) hS4.app.cons.app.app (ex_nm _ _) hs79).mono (fun v w' h => by rw [ex_t5] at h; rw [ex_t5v] at h; rw [ex_t5e] at h;  exact h)) ?_
  rintro _ w83 ⟨B4, aq4, cq4, rfl, hq4, hs84⟩
  replace hs84 := (show St _ _ (B4 ++ (B3 ++ (B2 ++ (_ :: B1 ++ (Z))))) from hs84)
  refine w_p (zAe (v := .tuple _) rfl rfl) rfl ?_
  refine w_p (zAq (v := .slice _ _ _) rfl rfl rfl) rfl ?_
  refine w_p (zAq (v := .int _ _) rfl rfl rfl) rfl ?_
  refine w_p (zAq (v := .int _ _) rfl rfl rfl) rfl ?_
  refine w_p (zAc (v := .slice _ _ _) rfl rfl) rfl ?_
  refine w_p (zAc (v := .int _ _) rfl rfl) rfl ?_
  refine w_p (zAc (v := .int _ _) rfl rfl) rfl ?_
  refine zAf (zAd (hK80 _ _ ?_))
  refine zAg (fun K86 hK85 => ?_)
  refine zAb (w_p (zA6 (vs := [_, _, _, _]) isAgg31 sizeOf31 hs84.drop.drop.drop.tail.drop rfl rfl hP3) rfl ?_)
  refine zAt zAa call37 rfl rfl rfl rfl ((c37 (exPort 6 2) (some ⟨s3, 0, none⟩) 3 (by decide) (by decide) hS3.app.cons.app.app.app (ex_nm _ _) 0 hs84).mono (fun v w' h => by rw [ex_h60] at h; rw [ex_h60e] at h;  exact h)) ?_
  rintro _ w88 ⟨rfl, hs89⟩
  refine w_p (zAe (v := .tuple _) rfl rfl) rfl ?_
  refine w_p (zAq (v := .int _ _) rfl rfl rfl) rfl ?_
  refine w_p (zAq (v := .int _ _) rfl rfl rfl) rfl ?_
  refine w_p (zAc (v := .int _ _) rfl rfl) rfl ?_
  refine w_p (zAc (v := .int _ _) rfl rfl) rfl ?_
  refine zAf (zAd (hK85 _ _ ?_))
  refine zAg (fun K91 hK90 => ?_)
  refine zAb (w_p (zA6 (vs := [_, _, _, _]) isAgg31 sizeOf31 hs89.drop.drop.drop.tail.drop rfl rfl hP4) rfl ?_)
  refine zAt zAa call38 rfl rfl rfl rfl ((c38 (exPort 5 2) (some ⟨s4, 0, none⟩) 3 (by decide) (by decide) hS4.app.cons.app.app.app (ex_nm _ _) hs89).mono (fun v w' h => by rw [ex_e5] at h;  exact h)) ?_
  rintro _ w93 ⟨rfl, hs94⟩
  refine w_p (zAe (v := .tuple _) rfl rfl) rfl ?_
  refine w_p (zAq (v := .int _ _) rfl rfl rfl) rfl ?_
  refine w_p (zAq (v := .int _ _) rfl rfl rfl) rfl ?_
  refine w_p (zAq (v := .int _ _) rfl rfl rfl) rfl ?_
  refine w_p (zAc (v := .int _ _) rfl rfl) rfl ?_
  refine w_p (zAc (v := .int _ _) rfl rfl) rfl ?_
  refine w_p (zAc (v := .int _ _) rfl rfl) rfl ?_
  refine zAf (zAd (hK90 _ _ ?_))
  refine zAg (fun K96 hK95 => ?_)
  refine zAb (w_p (zA6 (vs := [_, _, _, _]) isAgg31 sizeOf31 hs94.drop.drop.drop.tail.drop rfl rfl hP1) rfl ?_)
  refine zAt zAa call38 rfl rfl rfl rfl ((c38 (exPort 6 3) (some ⟨s1, 0, none⟩) 3 (by decide) (by decide) hS1.app.cons.app.app.app (ex_nm _ _) hs94).mono (fun v w' h => by rw [ex_e6] at h;  exact h)) ?_
  rintro _ w98 ⟨rfl, hs99⟩
  refine w_p (zAe (v := .tuple _) rfl rfl) rfl ?_
  refine w_p (zAq (v := .int _ _) rfl rfl rfl) rfl ?_
  refine w_p (zAq (v := .int _ _) rfl rfl rfl) rfl ?_
  refine w_p (zAq (v := .int _ _) rfl rfl rfl) rfl ?_
  refine w_p (zAc (v := .int _ _) rfl rfl) rfl ?_
  refine w_p (zAc (v := .int _ _) rfl rfl) rfl ?_
  refine w_p (zAc (v := .int _ _) rfl rfl) rfl ?_
  refine zAf (zAd (hK95 _ _ ?_))
  refine zAg (fun K101 hK100 => ?_)
  refine zAb (w_p (zA6 (vs := [_, _, _, _]) isAgg31 sizeOf31 hs99.drop.drop.drop.tail.drop rfl rfl hP2) rfl ?_)
  refine zAt zAa call39 rfl rfl rfl rfl ((c39 (exPort 5 3) (some ⟨s2, 0, none⟩) 3 (by decide) (by decide) hS2.app.cons.app.app.app (ex_nm _ _) 3 hs99).mono (fun v w' h => by rw [ex_t3] at h; rw [ex_t3e] at h;  exact h)) ?_
  rintro _ w103 ⟨rfl, hs104⟩
  refine w_p (zAe (v := .tuple _) rfl rfl) rfl ?_
  refine w_p (zAq (v := .int _ _) rfl rfl rfl) rfl ?_
  refine w_p (zAq (v := .int _ _) rfl rfl rfl) rfl ?_
  refine w_p (zAc (v := .int _ _) rfl rfl) rfl ?_
  refine w_p (zAc (v := .int _ _) rfl rfl) rfl ?_
  refine zAf (zAd (hK100 _ _ ?_))
  refine zAg (fun K106 hK105 => ?_)
  refine zAb (w_p (zA6 (vs := [_, _, _, _]) isAgg31 sizeOf31 hs104.drop.drop.drop.tail.drop rfl rfl hP1) rfl ?_)
  refine zAt zAa call37 rfl rfl rfl rfl ((c37 (exPort 6 3) (some ⟨s1, 0, none⟩) 3 (by decide) (by decide) hS1.app.cons.app.app.app (ex_nm _ _) 3 hs104).mono (fun v w' h => by rw [ex_h63] at h; rw [ex_h63e] at h;  exact h)) ?_
  rintro _ w108 ⟨rfl, hs109⟩
  refine w_p (zAe (v := .tuple _) rfl rfl) rfl ?_
  refine w_p (zAq (v := .int _ _) rfl rfl rfl) rfl ?_
  refine w_p (zAq (v := .int _ _) rfl rfl rfl) rfl ?_
  refine w_p (zAc (v := .int _ _) rfl rfl) rfl ?_
  refine w_p (zAc (v := .int _ _) rfl rfl) rfl ?_
  refine zAf (zAd (hK105 _ _ ?_))
  refine zAg (fun K111 hK110 => ?_)
  refine zAb (w_p (zAe (v := .int _ _) rfl rfl) rfl ?_)
  refine w_p (zBy rfl rfl rfl rfl) rfl ?_
  refine w_p (zAe (v := .bool _) rfl rfl) rfl ?_
  refine w_y rfl rfl rfl (zAe (v := .int _ _) rfl rfl) rfl ?_
  refine w_y rfl rfl rfl (zBy rfl rfl rfl rfl) rfl ?_
  refine w_p (zA0 (v := .bool _) rfl rfl rfl rfl) rfl ?_
  refine w_p (zAe (v := .bool _) rfl rfl) rfl ?_
  refine w_y rfl rfl rfl (zAe (v := .int _ _) rfl rfl) rfl ?_
  refine w_y rfl rfl rfl (zBy rfl rfl rfl rfl) rfl ?_
  refine w_p (zA0 (v := .bool _) rfl rfl rfl rfl) rfl ?_
  refine w_p (zAe (v := .bool _) rfl rfl) rfl ?_
  refine w_y rfl rfl rfl (zAe (v := .int _ _) rfl rfl) rfl ?_
  refine w_y rfl rfl rfl (zBy rfl rfl rfl rfl) rfl ?_
  refine w_p (zA0 (v := .bool _) rfl rfl rfl rfl) rfl ?_
  refine w_p (zAe (v := .bool _) rfl rfl) rfl ?_
  refine w_y rfl rfl rfl (zAe (v := .int _ _) rfl rfl) rfl ?_
  refine w_y rfl rfl rfl (zBy rfl rfl rfl rfl) rfl ?_
  refine w_p (zA0 (v := .bool _) rfl rfl rfl rfl) rfl ?_
  refine w_p (zAe (v := .bool _) rfl rfl) rfl ?_
  refine w_y rfl rfl rfl (zAe (v := .int _ _) rfl rfl) rfl ?_
  refine w_y rfl rfl rfl (zBy rfl rfl rfl rfl) rfl ?_
  refine w_p (zA0 (v := .bool _) rfl rfl rfl rfl) rfl ?_
  refine w_p (zAe (v := .bool _) rfl rfl) rfl ?_
  refine w_y rfl rfl rfl (zAe (v := .int _ _) rfl rfl) rfl ?_
  refine w_y rfl rfl rfl (zBy rfl rfl rfl rfl) rfl ?_
  refine w_p (zA0 (v := .bool _) rfl rfl rfl rfl) rfl ?_
  refine w_p (zAe (v := .bool _) rfl rfl) rfl ?_
  refine w_y rfl rfl rfl (zAe (v := .int _ _) rfl rfl) rfl ?_
  refine w_y rfl rfl rfl (zBy rfl rfl rfl rfl) rfl ?_
  refine w_p (zA0 (v := .bool _) rfl rfl rfl rfl) rfl ?_
  refine w_p (zAe (v := .bool _) rfl rfl) rfl ?_
  refine w_y rfl rfl rfl (zAe (v := .int _ _) rfl rfl) rfl ?_
  refine w_y rfl rfl rfl (zBy rfl rfl rfl rfl) rfl ?_
  refine w_p (zA0 (v := .bool _) rfl rfl rfl rfl) rfl ?_
  refine w_p (zAe (v := .bool _) rfl rfl) rfl ?_
  refine w_y rfl rfl rfl (zAe (v := .int _ _) rfl rfl) rfl ?_
  refine w_y rfl rfl rfl (zBy rfl rfl rfl rfl) rfl ?_
  refine w_p (zA0 (v := .bool _) rfl rfl rfl rfl) rfl ?_
  refine w_p (zAe (v := .bool _) rfl rfl) rfl ?_
  refine w_y rfl rfl rfl (zAe (v := .int _ _) rfl rfl) rfl ?_
  refine w_y rfl rfl rfl (zBy rfl rfl rfl rfl) rfl ?_
  refine w_p (zA0 (v := .bool _) rfl rfl rfl rfl) rfl ?_
  refine w_p (zAe (v := .bool _) rfl rfl) rfl ?_
  refine w_y rfl rfl rfl (zAe (v := .int _ _) rfl rfl) rfl ?_
  refine w_y rfl rfl rfl (zBy rfl rfl rfl rfl) rfl ?_
  refine w_p (zA0 (v := .bool _) rfl rfl rfl rfl) rfl ?_
  refine w_p (zAe (v := .bool _) rfl rfl) rfl ?_
  refine w_y rfl rfl rfl (zAe (v := .int _ _) rfl rfl) rfl ?_
  refine w_y rfl rfl rfl (zBy rfl rfl rfl rfl) rfl ?_
  refine w_p (zA0 (v := .bool _) rfl rfl rfl rfl) rfl ?_
  refine w_p (zAe (v := .bool _) rfl rfl) rfl ?_
  refine w_y rfl rfl rfl (zAe (v := .slice _ _ _) rfl rfl) rfl ?_
  refine zAt (zAn rfl rfl rfl) call41 rfl rfl rfl rfl (c41 _ _ hs109) ?_
  rintro _ w113 ⟨rfl, hs114⟩
  refine zAt (zAn rfl rfl rfl) call41 rfl rfl rfl rfl (c41 _ _ hs114) ?_
  rintro _ w116 ⟨rfl, hs117⟩
  refine zAt (zAn rfl rfl rfl) call41 rfl rfl rfl rfl (c41 _ _ hs117) ?_
  rintro _ w119 ⟨rfl, hs120⟩
  refine zAt (zAn rfl rfl rfl) call41 rfl rfl rfl rfl (c41 _ _ hs120) ?_
  rintro _ w122 ⟨rfl, hs123⟩
  refine zBh (ps := [(0, _), (1, _), (2, _), (3, _)]) (pv := [(0, .agg #[.int _ _, .int _ _]), (1, .agg #[.int _ _, .int _ _]), (2, .agg #[.int _ _, .int _ _]), (3, .agg #[.int _ _, .int _ _])]) (cs := [_, _, _, _, _, _, _, _]) (zAn rfl rfl rfl) rfl rfl (fun w => Try_CS_fb9 _ _ _ _ _ _ _ _ w) hs123 (fun b124 w125 hs126 => ?_)
  refine zAt (zAn rfl rfl rfl) call40 rfl rfl rfl rfl (con_true (c40 _ _ [[20, 25], [50, 55], [50, 55], [50, 55]] [[20, 25], [50, 55], [50, 55], [50, 55]] _ _ (by decide) (by decide) hq1.cons.app.app.app.cons (zBr (i := 0) (rows := [[_, _], [_, _], [_, _], [_, _]]) rfl (by simp) rfl) hs126) (by decide)) ?_
  rintro _ w128 ⟨rfl, hs129⟩
  refine w_p (zA0 (v := .bool _) rfl rfl rfl rfl) rfl ?_
  refine w_p (zAe (v := .bool _) rfl rfl) rfl ?_
  refine w_y rfl rfl rfl (zAe (v := .int _ _) rfl rfl) rfl ?_
  refine w_y rfl rfl rfl (zBy rfl rfl rfl rfl) rfl ?_
  refine w_p (zA0 (v := .bool _) rfl rfl rfl rfl) rfl ?_
  refine w_p (zAe (v := .bool _) rfl rfl) rfl ?_
  refine w_y rfl rfl rfl (zAe (v := .int _ _) rfl rfl) rfl ?_
  refine w_y rfl rfl rfl (zBy rfl rfl rfl rfl) rfl ?_
  refine w_p (zA0 (v := .bool _) rfl rfl rfl rfl) rfl ?_
  refine w_p (zAe (v := .bool _) rfl rfl) rfl ?_
  refine w_y rfl rfl rfl (zAe (v := .int _ _) rfl rfl) rfl ?_
  refine w_y rfl rfl rfl (zBy rfl rfl rfl rfl) rfl ?_
  refine w_p (zA0 (v := .bool _) rfl rfl rfl rfl) rfl ?_
  refine w_p (zAe (v := .bool _) rfl rfl) rfl ?_
  refine w_y rfl rfl rfl (zAe (v := .int _ _) rfl rfl) rfl ?_
  refine w_y rfl rfl rfl (zBy rfl rfl rfl rfl) rfl ?_
  refine w_p (zA0 (v := .bool _) rfl rfl rfl rfl) rfl ?_
  refine w_p (zAe (v := .bool _) rfl rfl) rfl ?_
  refine w_y rfl rfl rfl (zAe (v := .slice _ _ _) rfl rfl) rfl ?_
  refine w_y rfl rfl rfl (zAe (v := .slice _ _ _) rfl rfl) rfl ?_
  refine zAt (zAn rfl rfl rfl) call31 rfl rfl rfl rfl (con_true (c31 _ _ [2, 3, -1] [2, 3, -1] _ _ (by decide) hq2.app.app.cons hl5.app.cons.app.app.app.cons hs129) (by decide)) ?_
  rintro _ w131 ⟨rfl, hs132⟩
  refine w_p (zA0 (v := .bool _) rfl rfl rfl rfl) rfl ?_
  refine w_p (zAe (v := .bool _) rfl rfl) rfl ?_
  refine w_y rfl rfl rfl (zAe (v := .int _ _) rfl rfl) rfl ?_
  refine w_y rfl rfl rfl (zBy rfl rfl rfl rfl) rfl ?_
  refine w_p (zA0 (v := .bool _) rfl rfl rfl rfl) rfl ?_
  refine w_p (zAe (v := .bool _) rfl rfl) rfl ?_
  refine w_y rfl rfl rfl (zAe (v := .slice _ _ _) rfl rfl) rfl ?_
  refine zBh (ps := [(0, _), (1, _), (2, _)]) (pv := [(0, .int _ _), (1, .int _ _), (2, .int _ _)]) (cs := [_, _, _]) (zAn rfl rfl rfl) rfl rfl (fun w => Try_CS_fb8 _ _ _ w) hs132 (fun b133 w134 hs135 => ?_)
  refine zAt (zAn rfl rfl rfl) call31 rfl rfl rfl rfl (con_true (c31 _ _ [2, 0, 3] [2, 0, 3] _ _ (by decide) hq3.app.cons.cons (zBr (i := 0) (rows := [[_], [_], [_]]) rfl (by simp) rfl) hs135) (by decide)) ?_
  rintro _ w137 ⟨rfl, hs138⟩
  refine w_p (zA0 (v := .bool _) rfl rfl rfl rfl) rfl ?_
  refine w_p (zAe (v := .bool _) rfl rfl) rfl ?_
  refine w_y rfl rfl rfl (zAe (v := .int _ _) rfl rfl) rfl ?_
  refine w_y rfl rfl rfl (zBy rfl rfl rfl rfl) rfl ?_
  refine w_p (zA0 (v := .bool _) rfl rfl rfl rfl) rfl ?_
  refine w_p (zAe (v := .bool _) rfl rfl) rfl ?_
  refine w_y rfl rfl rfl (zAe (v := .int _ _) rfl rfl) rfl ?_
  refine w_y rfl rfl rfl (zBy rfl rfl rfl rfl) rfl ?_
  refine w_p (zA0 (v := .bool _) rfl rfl rfl rfl) rfl ?_
  refine w_p (zAe (v := .bool _) rfl rfl) rfl ?_
  refine w_y rfl rfl rfl (zAe (v := .int _ _) rfl rfl) rfl ?_
  refine w_y rfl rfl rfl (zBy rfl rfl rfl rfl) rfl ?_
  refine w_p (zA0 (v := .bool _) rfl rfl rfl rfl) rfl ?_
  refine w_p (zAe (v := .bool _) rfl rfl) rfl ?_
  refine w_y rfl rfl rfl (zAe (v := .int _ _) rfl rfl) rfl ?_
  refine w_y rfl rfl rfl (zBy rfl rfl rfl rfl) rfl ?_
  refine w_p (zA0 (v := .bool _) rfl rfl rfl rfl) rfl ?_
  refine w_p (zAe (v := .bool _) rfl rfl) rfl ?_
  refine w_y rfl rfl rfl (zAe (v := .int _ _) rfl rfl) rfl ?_
  refine w_y rfl rfl rfl (zBy rfl rfl rfl rfl) rfl ?_
  refine w_p (zA0 (v := .bool _) rfl rfl rfl rfl) rfl ?_
  refine w_p (zAc (v := .bool _) rfl rfl) rfl ?_
  refine zAf (zAd (hK110 _ _ ?_))
  refine zA2 (zA3 (l := [.tmp 0]) (vs := [_]) rfl ⟨⟨rfl, (rfl : _ = Value.bool _)⟩, trivial⟩ ?_)
  exact ⟨rfl, (St.cast hZ hs138.tail.tail.drop.drop.drop.tail.drop).tail.tail.tail.tail.tail.tail.tail.tail.tail⟩

end Go.Proofs.Cb
/- Plain words of the cable layer's reference: all cables made from the left, which come before others. No conditions. -/
namespace Go.Rt.Ca
/-- What the reference has of the next lists behind k of the last ones, and q days of the next one. -/
def grow (ds : List Int) (l : List (List Int)) (k : Nat) : List (List Int) := (l.take k).flatMap fun x => ds.map fun d => x ++ [d]
def growDay (ds : List Int) (l : List (List Int)) (k q : Nat) (x : List Int) : List (List Int) := grow ds l k ++ (List.range q).map fun (d : Nat) => x ++ [(d : Int)]
/-- Whether days come before other ones, as a list; no day is behind all days. -/
def beforeL : List Int → List Int → Bool
  | x :: a, y :: b => if x = y then beforeL a b else (decide (y = -1) || (!decide (x = -1) && decide (x < y)))
  | _, _ => false
def before (p : Port) (a b : List Int) : Bool :=
  if vain p a = vain p b then (if cut p.farms a = cut p.farms b then beforeL a b else decide (cut p.farms a < cut p.farms b)) else decide (vain p a < vain p b)
end Go.Rt.Ca
/- Plain words of the cable layer: the reference and the laws (joined texts). No conditions. -/
namespace Go.Rt.Ca
theorem beforeL_asymm : ∀ (a b : List Int), beforeL a b = true → beforeL b a = false
  | [], _, h => by simp [beforeL] at h
  | _ :: _, [], h => by simp [beforeL] at h
  | x :: a, y :: b, h => by
    simp only [beforeL] at h ⊢
    by_cases e : x = y
    · subst e
      simp only [if_true] at h ⊢
      exact beforeL_asymm a b h
    · rw [if_neg e] at h
      rw [if_neg (Ne.symm e)]
      simp only [Bool.or_eq_true, Bool.and_eq_true, decide_eq_true_eq, Bool.not_eq_true', decide_eq_false_iff_not] at h
      simp only [Bool.or_eq_false_iff, Bool.and_eq_false_iff, decide_eq_false_iff_not, Bool.not_eq_false', decide_eq_true_eq]
      omega
theorem beforeL_first {pre : List Int} {x y a b : List Int} {d e : Int} (hx : x = pre ++ d :: a) (hy : y = pre ++ e :: b) (h : (decide (e = -1) || (!decide (d = -1) && decide (d < e))) = true) (hde : d ≠ e) : beforeL x y = true := by
  subst hx hy
  induction pre with
  | nil => simp only [List.nil_append, beforeL]; rw [if_neg hde]; exact h
  | cons z pre ih => simp only [List.cons_append, beforeL, if_true]; exact ih
theorem pair_flat {α β : Type} {R : β → β → Prop} {f : α → List β} {S : α → α → Prop} : ∀ (l : List α), l.Pairwise S → (∀ a ∈ l, (f a).Pairwise R) → (∀ a ∈ l, ∀ b ∈ l, S a b → ∀ x ∈ f a, ∀ y ∈ f b, R x y) → (l.flatMap f).Pairwise R
  | [], _, _, _ => by simp
  | a :: l, hn, h1, h2 => by
    rw [List.flatMap_cons, List.pairwise_append]
    rw [List.pairwise_cons] at hn
    refine ⟨h1 a (.head _), pair_flat l hn.2 (fun b hb => h1 b (.tail _ hb)) (fun b hb c hc => h2 b (.tail _ hb) c (.tail _ hc)), ?_⟩
    intro x hx y hy
    obtain ⟨b, hb, hyb⟩ := List.mem_flatMap.1 hy
    exact h2 a (.head _) b (.tail _ hb) (hn.1 b hb) x hx y hyb
def dayLt (d e : Int) : Prop := d ≠ e ∧ (decide (e = -1) || (!decide (d = -1) && decide (d < e))) = true
theorem dys_sorted (below : Nat) : (dys below).Pairwise dayLt := by
  unfold dys
  rw [List.pairwise_append]
  refine ⟨?_, by simp, ?_⟩
  · rw [List.pairwise_map]
    refine List.pairwise_lt_range.imp fun h => ?_
    unfold dayLt
    simp only [Bool.or_eq_true, Bool.and_eq_true, decide_eq_true_eq, Bool.not_eq_true', decide_eq_false_iff_not]
    omega
  · intro a ha b hb
    obtain ⟨k, _, rfl⟩ := List.mem_map.1 ha
    rw [List.mem_singleton] at hb
    subst hb
    refine ⟨by omega, by simp⟩
theorem seg_split {ds : List Int} {n : Nat} {pre x : List Int} (h : x ∈ seg ds n pre) : ∃ a, x = pre ++ a := ⟨x.drop pre.length, by
  have := seg_take n _ _ h
  conv => lhs; rw [← List.take_append_drop pre.length x, this]⟩
theorem seg_sorted {ds : List Int} (hd : ds.Pairwise dayLt) : ∀ (n : Nat) (pre : List Int), (seg ds n pre).Pairwise fun a b => beforeL a b = true
  | 0, pre => by simp [seg]
  | n + 1, pre => by
    simp only [seg]
    refine pair_flat ds hd (fun d _ => seg_sorted hd n _) ?_
    intro d _ e _ hde x hx y hy
    obtain ⟨a, rfl⟩ := seg_split hx
    obtain ⟨b, rfl⟩ := seg_split hy
    exact beforeL_first (pre := pre) (d := d) (e := e) (a := a) (b := b) (by simp) (by simp) hde.2 hde.1
theorem allC_sorted (below n : Nat) : (allC below n).Pairwise fun a b => beforeL a b = true := seg_sorted (dys_sorted below) n []
theorem doC_sorted (p : Port) : (doC p).Pairwise fun a b => beforeL a b = true := (allC_sorted _ _).sublist List.filter_sublist
/-- The reference's best cables. -/
def rsel (p : Port) (b l : List Int) : List Int := if before p l b then l else b
def rbUpto (p : Port) (L : List (List Int)) (i : Nat) : List Int := (L.take i).tail.foldl (rsel p) (L.headD [])
theorem rb_one {p : Port} {L : List (List Int)} (h : 0 < L.length) : rbUpto p L 1 = L[0] := by
  cases L with
  | nil => simp at h
  | cons x L => rfl
theorem rb_succ {p : Port} {L : List (List Int)} {i : Nat} (h1 : 1 ≤ i) (hi : i < L.length) : rbUpto p L (i + 1) = rsel p (rbUpto p L i) L[i] := by
  unfold rbUpto
  have : (L.take (i + 1)).tail = (L.take i).tail ++ [L[i]] := by
    rw [List.take_succ_eq_append_getElem hi]
    cases L with
    | nil => simp at hi
    | cons x L =>
      match i, h1 with
      | i + 1, _ => simp
  rw [this, List.foldl_append]; rfl
theorem rb_mem {p : Port} {L : List (List Int)} : ∀ {i : Nat}, 1 ≤ i → i ≤ L.length → ∃ j, j < i ∧ ∃ h : j < L.length, rbUpto p L i = L[j]
  | 1, _, hi => ⟨0, by omega, by omega, rb_one (by omega)⟩
  | i + 2, _, hi => by
    obtain ⟨j, h1, h2, h3⟩ := rb_mem (i := i + 1) (p := p) (L := L) (by omega) (by omega)
    rw [rb_succ (by omega) (by omega)]
    unfold rsel
    split
    · exact ⟨i + 1, by omega, by omega, rfl⟩
    · exact ⟨j, by omega, h2, h3⟩
theorem rb_in {p : Port} {L : List (List Int)} {i : Nat} (h : 1 ≤ i) (hi : i ≤ L.length) : rbUpto p L i ∈ L := by
  obtain ⟨j, _, h2, h3⟩ := rb_mem (p := p) h hi
  rw [h3]; exact List.getElem_mem h2
theorem cut_pad {fs : List Farm} {l : List Int} (h : l.length = fs.length) (h3 : fs.length ≤ 3) : cut fs (pad l) = cut fs l := by unfold cut; rw [zip_pad h h3]
theorem before_less {p : Port} {l b : List Int} (h : beforeL b l = true) : before p l b = less [vain p l, cut p.farms l] [vain p b, cut p.farms b] := by
  unfold before
  simp only [less]
  by_cases h1 : vain p l = vain p b
  · rw [if_pos h1, if_pos h1]
    by_cases h2 : cut p.farms l = cut p.farms b
    · rw [if_pos h2, if_pos h2, beforeL_asymm _ _ h]
    · rw [if_neg h2, if_neg h2]
  · rw [if_neg h1, if_neg h1]
theorem doP_length (p : Port) : (doP p).length = (doC p).length := by simp [doP]
theorem best_rb {p : Port} (hok : p.Ok) : ∀ {i : Nat}, 1 ≤ i → i ≤ (doC p).length → bestUpto p (doP p) i = ⟨true, pad (rbUpto p (doC p) i), vain p (rbUpto p (doC p) i), cut p.farms (rbUpto p (doC p) i)⟩
  | 1, _, hi => by
    have h0 : 0 < (doP p).length := by rw [doP_length]; omega
    have e : (doP p)[0] = pad (doC p)[0] := by simp [doP]
    have hl := do_len (List.getElem_mem (show 0 < (doC p).length by omega))
    rw [zCi h0, rb_one (by omega), e, bstep_take (.inl rfl), vain_pad hl hok.len, cut_pad hl hok.len]
  | i + 2, _, hi => by
    have ih := best_rb hok (i := i + 1) (by omega) (by omega)
    have h0 : i + 1 < (doP p).length := by rw [doP_length]; omega
    have e : (doP p)[i + 1] = pad (doC p)[i + 1] := by simp [doP]
    have hl := do_len (List.getElem_mem (show i + 1 < (doC p).length by omega))
    obtain ⟨j, hj, hj2, hb⟩ := rb_mem (p := p) (L := doC p) (i := i + 1) (by omega) (by omega)
    have hi1 : i + 1 < (doC p).length := by omega
    have hbl : beforeL (rbUpto p (doC p) (i + 1)) (doC p)[i + 1] = true := by
      rw [hb]; exact List.pairwise_iff_getElem.1 (doC_sorted p) j (i + 1) hj2 hi1 hj
    rw [zCi h0, ih, show rbUpto p (doC p) (i + 2) = _ from rb_succ (i := i + 1) (by omega) hi1, e]
    generalize rbUpto p (doC p) (i + 1) = z at hbl ⊢
    unfold bstep rsel
    rw [before_less hbl, vain_pad hl hok.len, cut_pad hl hok.len]
    simp only [Bool.true_eq_false, false_or]
    split <;> rfl
theorem best_all {p : Port} (hok : p.Ok) (h : 0 < (doC p).length) : best p (doP p) = ⟨true, pad (rbUpto p (doC p) (doC p).length), vain p (rbUpto p (doC p) (doC p).length), cut p.farms (rbUpto p (doC p) (doC p).length)⟩ := by
  rw [← best_rb hok h (Nat.le_refl _), bestUpto_all (by simp [doP])]
theorem plan_rb {p : Port} (hck : (check p).2.2 = 0) (h : 0 < (doC p).length) : planL p = rbUpto p (doC p) (doC p).length ∧ planV p = vain p (rbUpto p (doC p) (doC p).length) ∧ planE p = 0 := by
  have hok := check_ok hck
  have hb := best_all hok h
  obtain ⟨h1, h2, h3⟩ := plan_ok hck (by rw [hb])
  have hl := do_len (rb_in (p := p) (L := doC p) h (Nat.le_refl _))
  refine ⟨?_, ?_, h3⟩
  · rw [h1, hb, ← hl]
    exact pad_take (by rw [hl]; exact hok.len)
  · rw [h2, hb]; exact vain_pad hl hok.len
theorem best_none {p : Port} (h : (doC p).length = 0) : (best p (doP p)).found = false := by
  have : doC p = [] := List.length_eq_zero_iff.1 h
  unfold best doP; rw [this]; rfl
/-- Told: whether bunches can be fresh, by any cable from some day on. -/
def canUpto (f : Farm) (start day : Int) (k : Nat) : Bool := (List.range k).any fun (j : Nat) => fresh f (start + (j : Int)) day
def thenR (p : Port) (g : List Int) (start day : Int) : Int := if leastT p.farms g start day < p.hold then -1 else (on p.farms g day).vain
/-- A list's number, by turns. -/
def turnOf (x : List Int) (n : Nat) : Int := if x.length = 0 then 0 else x.getD (n % x.length) 0
def anyC (n : Nat) (x : List Int) : List Int := (List.range n).map fun i => turnOf x i % 12 - 1
/-- What is fresh and what is in vain in a truth, behind some farms. -/
def ownH (f : Farm) (t : Int) : Int := f.lo + t % (f.hi - f.lo + 1)
def trU (fs : List Farm) (l x : List Int) (day : Int) : Nat → Int × Int
  | 0 => (0, 0)
  | i + 1 => match fs[i]? with
    | some f => if l.getD i 0 = -1 then trU fs l x day i else if fresh f (l.getD i 0) day then ((trU fs l x day i).1 + ownH f (turnOf x i), (trU fs l x day i).2) else ((trU fs l x day i).1, (trU fs l x day i).2 + ownH f (turnOf x i))
    | none => trU fs l x day i
theorem ownH_in {f : Farm} (hf : f.Ok) {t : Int} : f.lo ≤ ownH f t ∧ ownH f t ≤ f.hi := by
  unfold Farm.Ok at hf
  unfold ownH
  have h1 := Int.emod_nonneg t (show f.hi - f.lo + 1 ≠ 0 by omega)
  have h2 := Int.emod_lt_of_pos t (show 0 < f.hi - f.lo + 1 by omega)
  omega
theorem tr_bound {fs : List Farm} {l x : List Int} {day : Int} (hok : ∀ f ∈ fs, f.Ok) (hl : l.length = fs.length) : ∀ i, i ≤ fs.length →
    (onUpto fs l day i).least ≤ (trU fs l x day i).1 ∧ (trU fs l x day i).1 ≤ (onUpto fs l day i).most ∧ 0 ≤ (trU fs l x day i).2 ∧ (trU fs l x day i).2 ≤ (onUpto fs l day i).vain
  | 0, _ => by simp [onUpto, trU]
  | i + 1, hi => by
    have ih := tr_bound (x := x) (day := day) hok hl i (by omega)
    have hi2 : i < fs.length := by omega
    have ho := ownH_in (hok _ (List.getElem_mem hi2)) (t := turnOf x i)
    have hf := hok _ (List.getElem_mem hi2)
    unfold Farm.Ok at hf
    rw [zC3 day hi2 (by omega)]
    simp only [trU, List.getElem?_eq_getElem hi2, step]
    split
    · exact ih
    · split
      · dsimp only; omega
      · dsimp only; omega
theorem tr_all {fs : List Farm} {l x : List Int} {day : Int} (hok : ∀ f ∈ fs, f.Ok) (hl : l.length = fs.length) :
    (on fs l day).least ≤ (trU fs l x day fs.length).1 ∧ (trU fs l x day fs.length).1 ≤ (on fs l day).most ∧ 0 ≤ (trU fs l x day fs.length).2 ∧ (trU fs l x day fs.length).2 ≤ (on fs l day).vain := by
  have := tr_bound (x := x) (day := day) hok hl fs.length (Nat.le_refl _)
  rwa [onUpto_all (i := fs.length) day (Nat.le_refl _)] at this
theorem trU_never {fs : List Farm} {l x : List Int} {day : Int} {i : Nat} (hi : i < fs.length) (h : l.getD i 0 = -1) : trU fs l x day (i + 1) = trU fs l x day i := by
  simp only [trU, List.getElem?_eq_getElem hi, if_pos h]
theorem trU_fresh {fs : List Farm} {l x : List Int} {day : Int} {i : Nat} (hi : i < fs.length) (h : ¬ l.getD i 0 = -1) (h2 : fresh fs[i] (l.getD i 0) day = true) : trU fs l x day (i + 1) = ((trU fs l x day i).1 + ownH fs[i] (turnOf x i), (trU fs l x day i).2) := by
  simp only [trU, List.getElem?_eq_getElem hi, if_neg h, h2, if_true]
theorem trU_vain {fs : List Farm} {l x : List Int} {day : Int} {i : Nat} (hi : i < fs.length) (h : ¬ l.getD i 0 = -1) (h2 : fresh fs[i] (l.getD i 0) day = false) : trU fs l x day (i + 1) = ((trU fs l x day i).1, (trU fs l x day i).2 + ownH fs[i] (turnOf x i)) := by
  simp only [trU, List.getElem?_eq_getElem hi, if_neg h, h2, Bool.false_eq_true, if_false]
theorem beforeL_trans : ∀ (a b c : List Int), beforeL a b = true → beforeL b c = true → beforeL a c = true
  | [], _, _, h, _ => by simp [beforeL] at h
  | _ :: _, [], _, h, _ => by simp [beforeL] at h
  | _ :: _, _ :: _, [], _, h => by simp [beforeL] at h
  | x :: a, y :: b, z :: c, h1, h2 => by
    simp only [beforeL] at h1 h2 ⊢
    by_cases e1 : x = y
    · subst e1
      simp only [if_true] at h1
      by_cases e2 : x = z
      · subst e2
        simp only [if_true] at h2 ⊢
        exact beforeL_trans a b c h1 h2
      · rw [if_neg e2] at h2 ⊢; exact h2
    · rw [if_neg e1] at h1
      by_cases e2 : y = z
      · subst e2; rw [if_neg e1]; exact h1
      · rw [if_neg e2] at h2
        simp only [Bool.or_eq_true, Bool.and_eq_true, decide_eq_true_eq, Bool.not_eq_true', decide_eq_false_iff_not] at h1 h2
        rw [if_neg (by omega)]
        simp only [Bool.or_eq_true, Bool.and_eq_true, decide_eq_true_eq, Bool.not_eq_true', decide_eq_false_iff_not]
        omega
theorem beforeL_irrefl : ∀ a : List Int, beforeL a a = false
  | [] => rfl
  | x :: a => by simp only [beforeL, if_true]; exact beforeL_irrefl a
theorem before_iff {p : Port} {a b : List Int} : before p a b = true ↔ vain p a < vain p b ∨ (vain p a = vain p b ∧ (cut p.farms a < cut p.farms b ∨ (cut p.farms a = cut p.farms b ∧ beforeL a b = true))) := by
  unfold before
  split
  · rename_i h
    split
    · rename_i h2; simp [h, h2]
    · rename_i h2; simp only [decide_eq_true_eq]; omega
  · rename_i h; simp only [decide_eq_true_eq]; omega
theorem before_trans {p : Port} {a b c : List Int} (h1 : before p a b = true) (h2 : before p b c = true) : before p a c = true := by
  rw [before_iff] at h1 h2 ⊢
  rcases h1 with h1 | ⟨h1, h1' | ⟨h1', h1''⟩⟩ <;> rcases h2 with h2 | ⟨h2, h2' | ⟨h2', h2''⟩⟩
  · exact .inl (by omega)
  · exact .inl (by omega)
  · exact .inl (by omega)
  · exact .inl (by omega)
  · exact .inr ⟨by omega, .inl (by omega)⟩
  · exact .inr ⟨by omega, .inl (by omega)⟩
  · exact .inl (by omega)
  · exact .inr ⟨by omega, .inl (by omega)⟩
  · exact .inr ⟨by omega, .inr ⟨by omega, beforeL_trans _ _ _ h1'' h2''⟩⟩
theorem before_irrefl {p : Port} {a : List Int} : before p a a = false := by
  unfold before; simp [beforeL_irrefl]
theorem rb_least {p : Port} {L : List (List Int)} : ∀ {i : Nat}, 1 ≤ i → i ≤ L.length → ∀ j (h : j < L.length), j < i → before p L[j] (rbUpto p L i) = false
  | 1, _, hi, j, h, hj => by
    have : j = 0 := by omega
    subst this
    rw [rb_one (by omega)]; exact before_irrefl
  | i + 2, _, hi, j, h, hj => by
    have hi1 : i + 1 < L.length := by omega
    have ih := rb_least (p := p) (L := L) (i := i + 1) (by omega) (by omega)
    rw [show rbUpto p L (i + 2) = _ from rb_succ (i := i + 1) (by omega) hi1]
    unfold rsel
    split
    · rename_i hb
      by_cases hji : j = i + 1
      · subst hji; exact before_irrefl
      · cases hc : before p L[j] L[i + 1] with
        | false => rfl
        | true =>
          have := before_trans hc hb
          rw [ih j h (by omega)] at this; cases this
    · rename_i hb
      by_cases hji : j = i + 1
      · subst hji; simpa using hb
      · exact ih j h (by omega)
theorem plan_e09 {p : Port} (h : (check p).2.2 = 0) : planE p = 0 ∨ planE p = 9 := by
  unfold planE
  rw [if_pos h]; split <;> simp
theorem plan_iff {p : Port} (h : (check p).2.2 = 0) : planE p = 0 ↔ 0 < (doC p).length := by
  constructor
  · intro h0
    rcases Nat.eq_zero_or_pos (doC p).length with hz | hz
    · have := (plan_e2 h (best_none hz)).2.2; omega
    · exact hz
  · intro hz; exact (plan_rb h hz).2.2
/-- What Plan has, if there are cables that do. -/
theorem plan_has {p : Port} (h : (check p).2.2 = 0) (h0 : planE p = 0) : planL p ∈ doC p ∧ planV p = vain p (planL p) ∧ ∀ l ∈ doC p, before p l (planL p) = false := by
  have hz := (plan_iff h).1 h0
  obtain ⟨e1, e2, _⟩ := plan_rb h hz
  refine ⟨by rw [e1]; exact rb_in hz (Nat.le_refl _), by rw [e1, e2], ?_⟩
  intro l hl
  obtain ⟨j, hj, rfl⟩ := List.getElem_of_mem hl
  rw [e1]; exact rb_least hz (Nat.le_refl _) j hj hj
theorem day_mem {p : Port} {day : Int} (h1 : p.clo ≤ day) (h2 : day ≤ p.chi) : day ∈ p.days := by
  unfold Port.days
  refine List.mem_map.2 ⟨(day - p.clo).toNat, List.mem_range.2 (by omega), by omega⟩
theorem full_day {p : Port} {l : List Int} (h : full p l = true) {day : Int} (h1 : p.clo ≤ day) (h2 : day ≤ p.chi) : p.hold ≤ (on p.farms l day).least := by
  unfold full at h
  simpa using List.all_eq_true.1 h day (day_mem h1 h2)
theorem never_day {p : Port} {l : List Int} (h : never p l = true) {day : Int} (h1 : p.clo ≤ day) (h2 : day ≤ p.chi) : (on p.farms l day).most < p.hold := by
  unfold never at h
  simpa using List.all_eq_true.1 h day (day_mem h1 h2)
theorem max_fold (L : List Load) : ∀ n : Int, n ≤ L.foldl (fun n x => max n x.vain) n ∧ ∀ x ∈ L, x.vain ≤ L.foldl (fun n x => max n x.vain) n := by
  induction L with
  | nil => intro n; simp
  | cons y L ih =>
    intro n
    have := ih (max n y.vain)
    simp only [List.foldl_cons]
    refine ⟨by omega, fun x hx => ?_⟩
    cases hx with
    | head => omega
    | tail _ hx => exact this.2 x hx
theorem vain_day {p : Port} {l : List Int} {day : Int} (h1 : p.clo ≤ day) (h2 : day ≤ p.chi) : (on p.farms l day).vain ≤ vain p l :=
  (max_fold (loads p l) 0).2 _ (List.mem_map.2 ⟨day, day_mem h1 h2, rfl⟩)
/-- A truth of the full law: what is fresh and in vain on its day. -/
theorem truth_full {p : Port} (hok : p.Ok) {l x : List Int} (hl : l.length = p.farms.length) {d : Int} :
    (full p l = true → p.hold ≤ (trU p.farms l x (p.clo + d % (p.chi - p.clo + 1)) p.farms.length).1) ∧ (never p l = true → (trU p.farms l x (p.clo + d % (p.chi - p.clo + 1)) p.farms.length).1 < p.hold) ∧
    (trU p.farms l x (p.clo + d % (p.chi - p.clo + 1)) p.farms.length).2 ≤ vain p l ∧ (on p.farms l (p.clo + d % (p.chi - p.clo + 1))).least ≤ (trU p.farms l x (p.clo + d % (p.chi - p.clo + 1)) p.farms.length).1 ∧
    (trU p.farms l x (p.clo + d % (p.chi - p.clo + 1)) p.farms.length).1 ≤ (on p.farms l (p.clo + d % (p.chi - p.clo + 1))).most := by
  have hc := hok.come
  have hq1 := Int.emod_nonneg d (show p.chi - p.clo + 1 ≠ 0 by omega)
  have hq2 := Int.emod_lt_of_pos d (show 0 < p.chi - p.clo + 1 by omega)
  generalize d % (p.chi - p.clo + 1) = q at hq1 hq2 ⊢
  have ht := tr_all (x := x) (day := p.clo + q) hok.farm hl
  have hv := vain_day (p := p) (l := l) (day := p.clo + q) (by omega) (by omega)
  refine ⟨fun h => ?_, fun h => ?_, by omega, ht.1, ht.2.1⟩
  · have := full_day h (day := p.clo + q) (by omega) (by omega); omega
  · have := never_day h (day := p.clo + q) (by omega) (by omega); omega
def namesOk : List ByteArray → List ByteArray → Bool
  | _, [] => true
  | b, n :: l => nmOk n && !has b n && namesOk (b ++ [n]) l
/-- Sums over farms and their days. -/
def sumC (g : Farm × Int → Int) (l : List (Farm × Int)) : Int := l.foldr (fun q n => g q + n) 0
def cLo (day : Int) (q : Farm × Int) : Int := if q.2 = -1 then 0 else if fresh q.1 q.2 day then q.1.lo else 0
def cHi (day : Int) (q : Farm × Int) : Int := if q.2 = -1 then 0 else if fresh q.1 q.2 day then q.1.hi else 0
def cVain (day : Int) (q : Farm × Int) : Int := if q.2 = -1 then 0 else if fresh q.1 q.2 day then 0 else q.1.hi
def cLate (start day : Int) (q : Farm × Int) : Int := if q.2 = -1 then (if canLate q.1 start day then q.1.lo else 0) else 0
/-- What is told sooner: cables of days before a day. -/
def cutAt (a z : Int) : Int := if z < a then z else -1
/-- One day of Come. -/
def oneP (p : Port) (day : Int) : Port := { p with clo := day, chi := day }
def never_ (n : Nat) : List Int := List.replicate n (-1)
def bestDay (fs : List Farm) (day : Int) : List Int := fs.map fun f => if canLate f 0 day then min 10 (day - f.way - f.notice) else -1
/-- One farm more. -/
def moreP (p : Port) (f : Farm) : Port := { p with farms := p.farms ++ [f] }
/-- Moved: the ship, and all cables, so many days later. -/
def lateP (p : Port) (n : Int) : Port := { p with clo := p.clo + n, chi := p.chi + n }
def lateD (n z : Int) : Int := if z = -1 then -1 else z + n
/-- Easier: a shorter Come, a lesser Hold, a greater Keep, more hands at least. -/
def shortP (p : Port) (a b : Int) : Port := { p with clo := a, chi := b }
def easeF (f : Farm) (k lo : Int) : Farm := { f with keep := k, lo := lo }
def easyL (l : List Farm) (i : Nat) (k lo : Int) : List Farm := match l[i]? with
  | some f => l.set i (easeF f k lo)
  | none => l
def easyP (p : Port) (h a b : Int) (i : Nat) (k lo : Int) : Port := ⟨h, a, b, easyL p.farms i k lo⟩
end Go.Rt.Ca
/- Plain laws of the layers hand and cable together: hands of a grade, in any truth, fill the ship. No program in sight. No conditions. -/
namespace Go.Rt.Tg
open Go.Rt Go.Rt.Ha
/-! ### Hands of each grade in a truth -/
def grTo (l : Lot) (h : List Int) (sc : Nat → Int) (k : Nat) : List Int := (List.range l.grades.length).map fun j : Nat => ofSum l h sc (j : Int) k
theorem gr_len (l : Lot) (h : List Int) (sc : Nat → Int) (k : Nat) : (grTo l h sc k).length = l.grades.length := by simp [grTo]
theorem gr_get {l : Lot} {h : List Int} {sc : Nat → Int} {k g : Nat} (hg : g < l.grades.length) : (grTo l h sc k).getD g 0 = ofSum l h sc (g : Int) k := by
  simp [grTo, List.getD, hg]
theorem gr_at {l : Lot} {h : List Int} {sc : Nat → Int} {k g : Nat} (hg : g < (grTo l h sc k).length) : (grTo l h sc k)[g] = ofSum l h sc (g : Int) k := by
  simp [grTo]
theorem gr_zero (l : Lot) (h : List Int) (sc : Nat → Int) : grTo l h sc 0 = List.replicate l.grades.length 0 := by
  apply List.ext_getElem
  · simp [grTo]
  · intro i h1 h2; simp [grTo, ofSum]
theorem gr_set {l : Lot} {h : List Int} {sc : Nat → Int} {k g : Nat} (hg : ofG l.grades 0 (at_ h k) (sc k) = (g : Int)) (hl : g < l.grades.length) : (grTo l h sc k).set g ((grTo l h sc k).getD g 0 + at_ h k) = grTo l h sc (k + 1) := by
  rw [gr_get hl]
  apply List.ext_getElem
  · simp [grTo]
  · intro i h1 h2
    simp only [grTo, List.getElem_set, List.getElem_map, List.getElem_range, ofSum]
    by_cases e : g = i
    · subst e; rw [if_pos rfl, if_pos hg]
    · rw [if_neg e, if_neg (by rw [hg]; omega)]; omega
theorem gr_no {l : Lot} {h : List Int} {sc : Nat → Int} {k : Nat} (hg : ofG l.grades 0 (at_ h k) (sc k) = -1) : grTo l h sc (k + 1) = grTo l h sc k := by
  apply List.ext_getElem
  · simp [grTo]
  · intro i h1 h2
    simp only [grTo, List.getElem_map, List.getElem_range, ofSum]
    rw [hg, if_neg (by omega)]; omega
theorem total_in {l : Lot} (hc : (check l).2.2 = 0) {h : List Int} (hw : h ∈ Ha.ways l 0) {sc : Nat → Int} (hs : ∀ b, b < l.bunches.length → (bunchOf l b).slo ≤ sc b ∧ sc b ≤ (bunchOf l b).shi) {g : Nat} (hg : g < l.grades.length) :
    (totalP l g).2 = 0 ∧ (totalP l g).1.1 ≤ ofSum l h sc g l.bunches.length ∧ ofSum l h sc g l.bunches.length ≤ (totalP l g).1.2 := by
  have hok := check_ok hc
  have hE : enterE l (idxE (g : Int) l.grades.length) = 0 := by
    unfold enterE
    rw [if_neg (by simp [hc]), idx_fine (by omega), if_neg (by simp), if_neg (List.ne_nil_of_mem hw)]
  unfold totalP
  rw [if_neg (by simp [hE])]
  have h1 := (tot_facts l g (Ha.ways l 0) (72, 0)).2.2 h hw
  have h2 := sum_in (l := l) (h := h) (sc := sc) (fun b hb => by have := way_at hok hw (b := b) hb; omega) hs g _ (Nat.le_refl _)
  unfold sums at h1
  exact ⟨rfl, Int.le_trans h1.1 h2.1, Int.le_trans h2.2 h1.2⟩
/-! ### A port whose farms' hands are a lot's -/
def gradeAt (l : Lot) (i : Nat) : Nat := i % l.grades.length
def gradF (l : Lot) (i : Nat) (f : Ca.Farm) : Ca.Farm := { f with lo := (totalP l ((gradeAt l i : Nat) : Int)).1.1, hi := (totalP l ((gradeAt l i : Nat) : Int)).1.2 }
def gradFs (l : Lot) (fs : List Ca.Farm) (n : Nat) : List Ca.Farm := (fs.take n).mapIdx (gradF l) ++ fs.drop n
def gradP (l : Lot) (p : Ca.Port) : Ca.Port := { p with farms := p.farms.mapIdx (gradF l) }
def ownL (l : Lot) (h : List Int) (sc : Nat → Int) (n : Nat) : List Int := (List.range n).map fun i => ofSum l h sc ((gradeAt l i : Nat) : Int) l.bunches.length
theorem own_len (l : Lot) (h : List Int) (sc : Nat → Int) (n : Nat) : (ownL l h sc n).length = n := by simp [ownL]
theorem own_next (l : Lot) (h : List Int) (sc : Nat → Int) (n : Nat) : ownL l h sc (n + 1) = ownL l h sc n ++ [ofSum l h sc ((gradeAt l n : Nat) : Int) l.bunches.length] := by simp [ownL, List.range_succ]
theorem gfs_zero (l : Lot) (fs : List Ca.Farm) : gradFs l fs 0 = fs := by simp [gradFs]
theorem gfs_len (l : Lot) (fs : List Ca.Farm) (n : Nat) : (gradFs l fs n).length = fs.length := by simp [gradFs]; omega
theorem gfs_end (l : Lot) (p : Ca.Port) : gradFs l p.farms p.farms.length = (gradP l p).farms := by simp [gradFs, gradP]
theorem gfs_get {l : Lot} {fs : List Ca.Farm} {i : Nat} (hi : i < fs.length) (hi2 : i < (gradFs l fs i).length) : (gradFs l fs i)[i] = fs[i] := by
  apply Option.some.inj
  rw [← List.getElem?_eq_getElem hi2, ← List.getElem?_eq_getElem hi]
  show ((fs.take i).mapIdx (gradF l) ++ fs.drop i)[i]? = _
  rw [List.getElem?_append_right (by simp; omega)]
  simp [show min i fs.length = i by omega]
theorem gfs_set {l : Lot} {fs : List Ca.Farm} {i : Nat} (hi : i < fs.length) : (gradFs l fs i).set i (gradF l i fs[i]) = gradFs l fs (i + 1) := by
  apply List.ext_getElem?
  intro k
  unfold gradFs
  rw [List.getElem?_set]
  by_cases e : i = k
  · subst e
    rw [if_pos rfl, if_pos (by simp; omega), List.getElem?_append_left (by simp; omega)]
    simp [hi]
  · rw [if_neg e]
    by_cases h : k < i
    · rw [List.getElem?_append_left (by simp; omega), List.getElem?_append_left (by simp; omega)]
      simp only [List.getElem?_mapIdx, List.getElem?_take, if_pos h, if_pos (show k < i + 1 by omega)]
    · rw [List.getElem?_append_right (by simp; omega), List.getElem?_append_right (by simp; omega)]
      simp only [List.length_mapIdx, List.length_take, List.getElem?_drop]
      congr 1
      omega
theorem gradP_len (l : Lot) (p : Ca.Port) : (gradP l p).farms.length = p.farms.length := by simp [gradP]
theorem gradP_at {l : Lot} {p : Ca.Port} {i : Nat} (hi : i < (gradP l p).farms.length) (hi2 : i < p.farms.length) : (gradP l p).farms[i] = gradF l i p.farms[i] := by simp [gradP]
/-! ### The ship is full -/
def ownSum (fs : List Ca.Farm) (c own : List Int) (day : Int) : Nat → Int
  | 0 => 0
  | i + 1 => ownSum fs c own day i + (match fs[i]? with | some f => if Ca.fresh f (c.getD i 0) day then own.getD i 0 else 0 | none => 0)
theorem sum_yes {fs : List Ca.Farm} {c own : List Int} {day : Int} {i : Nat} (hi : i < fs.length) (h : Ca.fresh fs[i] (c.getD i 0) day = true) : ownSum fs c own day (i + 1) = ownSum fs c own day i + own.getD i 0 := by
  simp only [ownSum, List.getElem?_eq_getElem hi, h, if_true]
theorem sum_no {fs : List Ca.Farm} {c own : List Int} {day : Int} {i : Nat} (hi : i < fs.length) (h : Ca.fresh fs[i] (c.getD i 0) day = false) : ownSum fs c own day (i + 1) = ownSum fs c own day i := by
  simp only [ownSum, List.getElem?_eq_getElem hi, h]; simp
def turnsOf (fs : List Ca.Farm) (own : List Int) : List Int := (List.range fs.length).map fun i => own.getD i 0 - (fs[i]?.elim 0 (·.lo))
theorem turns_at {fs : List Ca.Farm} {own : List Int} {i : Nat} (hi : i < fs.length) : Ca.turnOf (turnsOf fs own) i = own.getD i 0 - fs[i].lo := by
  have hl : (turnsOf fs own).length = fs.length := by simp [turnsOf]
  unfold Ca.turnOf
  rw [if_neg (by omega), hl, Nat.mod_eq_of_lt hi]
  simp [turnsOf, List.getD, hi]
theorem sum_tr {fs : List Ca.Farm} {c own : List Int} {day : Int} (ho : ∀ i (hi : i < fs.length), fs[i].lo ≤ own.getD i 0 ∧ own.getD i 0 ≤ fs[i].hi) : ∀ n, n ≤ fs.length → ownSum fs c own day n = (Ca.trU fs c (turnsOf fs own) day n).1
  | 0, _ => rfl
  | n + 1, h => by
    have hn : n < fs.length := by omega
    have ih := sum_tr (c := c) (day := day) ho n (by omega)
    have hb := ho n hn
    have e : Ca.ownH fs[n] (Ca.turnOf (turnsOf fs own) n) = own.getD n 0 := by
      rw [turns_at hn]; unfold Ca.ownH
      rw [Int.emod_eq_of_lt (by omega) (by omega)]; omega
    by_cases h1 : c.getD n 0 = -1
    · rw [Ca.trU_never hn h1, sum_no hn (by unfold Ca.fresh; rw [h1]; simp), ih]
    · cases h2 : Ca.fresh fs[n] (c.getD n 0) day with
      | true => rw [Ca.trU_fresh hn h1 h2, sum_yes hn h2, ih, e]
      | false => rw [Ca.trU_vain hn h1 h2, sum_no hn h2, ih]
theorem sum_in60 {fs : List Ca.Farm} {c own : List Int} {day : Int} (ho : ∀ i, i < fs.length → 0 ≤ own.getD i 0 ∧ own.getD i 0 ≤ 1000) : ∀ n, n ≤ fs.length → 0 ≤ ownSum fs c own day n ∧ ownSum fs c own day n ≤ 1000 * n
  | 0, _ => by simp [ownSum]
  | n + 1, h => by
    have hn : n < fs.length := by omega
    have ih := sum_in60 (c := c) (day := day) ho n (by omega)
    have hb := ho n hn
    cases h2 : Ca.fresh fs[n] (c.getD n 0) day with
    | true => rw [sum_yes hn h2]; push_cast; omega
    | false => rw [sum_no hn h2]; push_cast; omega
theorem own_bd {l : Lot} (hok : l.Ok) {h : List Int} (hw : h ∈ Ha.ways l 0) (sc : Nat → Int) (n : Nat) : ∀ i, i < n → 0 ≤ (ownL l h sc n).getD i 0 ∧ (ownL l h sc n).getD i 0 ≤ 1000 := by
  intro i hi
  have h1 := (felt_at hok (way_felt hw)).2
  have h2 := of_sum_in (l := l) (h := h) (sc := sc) h1 ((gradeAt l i : Nat) : Int) _ (Nat.le_refl _)
  have h3 := hok.lb
  have e : (ownL l h sc n).getD i 0 = ofSum l h sc ((gradeAt l i : Nat) : Int) l.bunches.length := by simp [ownL, List.getD, hi]
  rw [e]; omega
/-- The law. -/
theorem graded_full {l : Lot} (hc : (check l).2.2 = 0) {h : List Int} (hw : h ∈ Ha.ways l 0) {sc : Nat → Int} (hs : ∀ b, b < l.bunches.length → (bunchOf l b).slo ≤ sc b ∧ sc b ≤ (bunchOf l b).shi) {p : Ca.Port} (hp : (Ca.check (gradP l p)).2.2 = 0) (hg : 0 < l.grades.length) (he : Ca.planE (gradP l p) = 0) (d : Int) :
    (gradP l p).hold ≤ ownSum (gradP l p).farms (Ca.planL (gradP l p)) (ownL l h sc p.farms.length) ((gradP l p).clo + d % ((gradP l p).chi - (gradP l p).clo + 1)) (gradP l p).farms.length := by
  have hok := Ca.check_ok hp
  have hph := Ca.plan_has hp he
  have hpl := Ca.do_len hph.1
  have hlen := gradP_len l p
  rw [sum_tr (fun i hi => ?_) _ (Nat.le_refl _)]
  · exact (Ca.truth_full hok hpl (d := d)).1 (Ca.do_full hph.1)
  · have hi2 : i < p.farms.length := by omega
    have ht := total_in hc hw hs (g := gradeAt l i) (Nat.mod_lt _ hg)
    have e : (ownL l h sc p.farms.length).getD i 0 = ofSum l h sc ((gradeAt l i : Nat) : Int) l.bunches.length := by simp [ownL, List.getD, hi2]
    rw [e, gradP_at hi hi2]
    exact ht.2
end Go.Rt.Tg
set_option maxRecDepth 20000
namespace Go.Proofs.Tg
open Go.Proofs.Tryz
open Go.Rt Go.Rt.Ha Go.Rt.Tg Go.Proofs.Hn
attribute [local irreducible] WL WC Con Yd At Ats Sl Agree DW
theorem zC9 : Tryz.prog.info? 3 = some Tryz.t3 := by kernel_rfl
theorem c9 {w0 w : World} {F : List (Nat × Obj)} (l : Lot) (q : At3) (hm : LIn w0 F l q) (hok : l.Ok) (hW : Ha.ways l 0 ≠ []) (z : Int) (hz : 0 ≤ z ∧ z ≤ 65535) (ay : Option Addr) (cy : Nat) (y : List Int) (hyl : y.length ≤ 9223372036854775807) (hys : Sl w0 F ay 1 (y.map fun n => [Value.int .u8 n])) (hyr : ∀ z ∈ y, 0 ≤ z ∧ z ≤ 255) (d : Int) (hd : 0 ≤ d ∧ d ≤ 255) (hs : St w0 w F) :
  Con Tryz.prog 9 [.agg (l.cells q).toArray, .agg #[.int .u16 z, .slice ay y.length cy, .int .u8 d]] w fun v w' => ∃ (h : List Int) (B : List (Nat × Obj)) (a : Option Addr) (c : Nat), h ∈ Ha.ways l 0 ∧ v = .slice a l.grades.length c ∧ Sl w0 B a 1 ((grTo l h (scOf l y) l.bunches.length).map fun x => [Value.int .i64 x]) ∧ St w0 w' (B ++ F) := by
  refine zAw (n := 61) func9 rfl rfl (Nat.le_of_ble_eq_true rfl) ?_
  have hlb := hok.lb
  have hlg := hok.lg
  refine zAg (fun K2 hK1 => ?_)
  refine zAb (zB3 (v := .agg #[.slice _ _ _, .slice _ _ _, .slice _ _ _]) (cs := [_, _, _]) zAa rfl rfl rfl hs (fun b3 w4 hs5 => ?_))
  refine zB3 (v := .agg #[.int _ _, .slice _ _ _, .int _ _]) (cs := [_, _, _]) zAa rfl rfl rfl hs5 (fun b6 w7 hs8 => ?_)
  refine w_p (zAc (v := _) rfl rfl) rfl ?_
  refine zAf (zAd (hK1 _ _ ?_))
  refine zAg (fun K10 hK9 => ?_)
  refine zAb (w_p (zA6 (vs := [_, _, _]) isAgg26 sizeOf26 hs8 rfl rfl (zAj (i := 1) (vs := [_, _, _]) rfl rfl)) rfl ?_)
  refine zAt zAa call6 rfl rfl rfl rfl ((by have h := c6 l q hm.cons.cons hok none 0 [] (by simp) (Sl.nil _ _) hs8; rw [waysR_nil] at h; exact h)) ?_
  rintro _ w12 ⟨WB, wv, aW, cW, rfl, hslW, helW, hs13⟩
  replace hs13 := (show St _ _ (WB ++ (_ :: _ :: F)) from hs13)
  have hs14 := St.perm (L := WB ++ ([_, _] ++ F)) hs13 (zBe WB [_, _] _)
  replace hs14 := (show St _ _ (_ :: _ :: (WB ++ F)) from hs14)
  refine w_p (zAc (v := .slice _ _ _) rfl rfl) rfl ?_
  refine zAf (zAd (hK9 _ _ ?_))
  refine zAg (fun K16 hK15 => ?_)
  have hfl : (felt l.bunches).length ≤ 4096 := by have h := feltTo_len hok (Nat.le_refl l.bunches.length); rw [feltTo_all] at h; exact h
  have hwl : (Ha.ways l 0).length ≤ (felt l.bunches).length := List.length_filter_le _ _
  have hwp : 0 < (Ha.ways l 0).length := List.length_pos_iff.2 hW
  have hzm := Int.emod_nonneg z (show ((Ha.ways l 0).length : Int) ≠ 0 by omega)
  have hzl := Int.emod_lt_of_pos z (show 0 < ((Ha.ways l 0).length : Int) by omega)
  obtain ⟨u, hu⟩ : ∃ u : Nat, z % ((Ha.ways l 0).length : Int) = (u : Int) := ⟨(z % ((Ha.ways l 0).length : Int)).toNat, by omega⟩
  have hu2 : u < (Ha.ways l 0).length := by omega
  obtain ⟨bx, ox, e2, q2, ha, hx0, hsx0, _⟩ := el_at hslW helW hu2
  subst ha
  have hx1 := hx0.top (F := F)
  obtain ⟨h, hh⟩ : ∃ h, h = (Ha.ways l 0)[u] := ⟨_, rfl⟩
  rw [← hh] at hx1 hsx0
  have hin : h ∈ (Ha.ways l 0) := by rw [hh]; exact List.getElem_mem hu2
  have hfa := felt_at hok (way_felt hin)
  have hhl := hfa.1
  have hh12 := hfa.2
  refine zB7 [] [(0, 0), (1, 0), (2, 1), (3, 0), (4, 0), (5, 0), (6, 0), (7, 0), (8, 1), (9, 1), (10, 0), (11, 1), (12, 2), (13, 0), (14, 0)] zBu (drawOK_of (by kernel_rfl)) hs14 (fun w17 hs18 => ?_)
  refine zAp rfl zAa rfl (fun _ => (zAe (v := .slice _ _ _) rfl rfl)) ?_
  refine zAp rfl zAa rfl (fun _ => (zAh (o := 0) (i := 0) underlying35 rfl sizeOf32 rfl rfl rfl)) ?_
  refine zBa rfl zAa rfl hs18 (fun _ hq => (zAk isAgg32 hq rfl rfl (zAj (i := 0) (vs := [_]) rfl rfl))) ?_
  refine zAp rfl zAa rfl (fun _ => (y_u16int (by rw [underlying32]; rfl) underlying3 rfl rfl (by omega) (by omega))) ?_
  refine zAp rfl zAa rfl (fun _ => (zAe (v := .slice _ _ _) rfl rfl)) ?_
  refine zAp rfl zAa rfl (fun _ => (zBd underlying40 rfl rfl)) ?_
  refine zAp rfl zAa rfl (fun _ => (y_rem rfl rfl rfl rfl (by omega) (by omega))) ?_
  refine zAp rfl zAa rfl (fun _ => (zA7 underlying40 sizeOf43 rfl rfl rfl rfl (i := u) (by omega) hu2)) ?_
  refine zBa rfl zAa rfl hs18 (fun _ hq => (zAk isAgg43 hq.tail.tail rfl rfl hx1)) ?_
  refine zBa rfl zAa rfl hs18 (fun _ hq => (zA6 (vs := [_, _, _]) isAgg26 sizeOf26 hq rfl rfl (zAj (i := 1) (vs := [_, _, _]) rfl rfl))) ?_
  refine zAp rfl zAa rfl (fun _ => (zAh (o := 1) (i := 1) underlying35 rfl sizeOf33 rfl rfl rfl)) ?_
  refine zBa rfl zAa rfl hs18 (fun _ hq => (zAk isAgg33 hq rfl rfl (zAj (i := 0) (vs := [_]) rfl rfl))) ?_
  refine zCl rfl ?_
  refine zAt zAa call42 rfl rfl rfl rfl (c42 l q hm.app.cons.cons hok _ _ y hyl hys.app.cons.cons hyr hs18) ?_
  rintro _ w20 ⟨SB, aS, cS, rfl, hslS, hs21⟩
  replace hs21 := (show St _ _ (SB ++ (_ :: _ :: WB ++ (F))) from hs21)
  refine zAf (qn ⟨hs21.drop, ?_⟩)
  refine zAp rfl zAa rfl (fun _ => (zAc (v := .slice _ _ _) rfl rfl)) ?_
  refine zAp rfl zAa rfl (fun _ => (zAc (v := .slice _ _ _) rfl rfl)) ?_
  refine zB1 ?_
  refine zAd (hK15 _ _ ?_)
  refine zAg (fun K23 hK22 => ?_)
  have hs24 := St.perm (L := SB ++ ([_, _] ++ _)) hs21 (zBe SB [_, _] _)
  replace hs24 := (show St _ _ (_ :: _ :: (SB ++ _)) from hs24)
  obtain ⟨Z, hZ, hsZ⟩ := gen_Z hs24
  have hb2 : Ats w0 Z b3 0 (l.cells q) := by rw [hZ]; exact ats_of (i := 1) (vs := l.cells q) hs24 rfl rfl
  have hmZ : LIn w0 Z l q := by rw [hZ]; exact hm.app.app.cons.cons
  have hHZ : Sl w0 Z e2 1 (h.map fun x => [Value.int .i64 x]) := by rw [hZ]; exact hsx0.top.app.cons.cons
  have hSZ : Sl w0 Z aS 1 ((scTo l y l.bunches.length).map fun x => [Value.int .i64 x]) := by rw [hZ]; exact hslS.top.cons.cons
  refine zAb (w_p (zAh (o := 0) (i := 0) underlying26 rfl sizeOf22 rfl rfl rfl) rfl ?_)
  refine w_p (zAk isAgg22 hsZ rfl rfl (show Ats _ _ _ _ [_] from Ats.part hb2 0 1)) rfl ?_
  refine w_p (zBd underlying22 rfl rfl) rfl ?_
  refine w_makeInts (k := l.grades.length) zAa underlying43 zC9 rfl rfl (by omega) rfl rfl rfl rfl rfl hsZ (fun b25 w26 hs27 => ?_)
  refine w_p (zAc (v := .slice _ _ _) rfl rfl) rfl ?_
  refine zAf (zAd (hK22 _ _ ?_))
  refine zAg (fun K29 hK28 => ?_)
  refine zAg (fun K31 hK30 => ?_)
  refine zAb (w_p (zAc (v := _) rfl rfl) rfl ?_)
  refine zAf (zAd (hK30 _ _ ?_))
  refine zAy ?_
  refine zBp [9, 10, 30, 31, 32, 33, 34, 35, 36, 37, 38, 39, 40, 41, 42, 43, 44, 45, 46, 47, 48, 49, 50, 51, 52, 53, 54, 55, 56, 57, 58, 59] [9] (fun kk vs w => ∃ (k : Nat), vs = [.int .i64 k] ∧ k ≤ l.bunches.length ∧ kk = l.bunches.length - k ∧ St w0 w ((b25, blk 3 (iv (grTo l h (scOf l y) k))) :: Z)) (l.bunches.length) ?_ ?_
  ·
   exact ⟨0, rfl, by omega, by omega, by rw [gr_zero]; exact hs27⟩
  intro k vs μ w34 hI K33 hN32
  obtain ⟨k, rfl, hka, rfl, hs⟩ := hI
  refine zAg (fun K36 hK35 => ?_)
  refine zAg (fun K38 hK37 => ?_)
  refine zAb (w_p (zAe (v := .int _ _) rfl rfl) rfl ?_)
  refine w_p (zAe (v := .slice _ _ _) rfl rfl) rfl ?_
  refine w_p (zBd underlying43 rfl rfl) rfl ?_
  refine w_p (zBt rfl rfl rfl rfl) rfl ?_
  refine zAf (zAd (hK37 _ _ ?_))
  refine zAz rfl rfl (fun h39 => ?_) (fun h39 => ?_)
  ·
   try simp only [zS] at h39
   refine zAx (zAd (hK35 _ _ ?_))
   refine zAg (fun K41 hK40 => ?_)
   refine zAy ?_
   refine zAg (fun K43 hK42 => ?_)
   have hk2 : k < l.bunches.length := by omega
   have hkh : k < h.length := by omega
   have hks : k < (scTo l y l.bunches.length).length := by rw [sc_len]; exact hk2
   have hag := at_g hkh
   have hsc : (scTo l y l.bunches.length)[k] = scOf l y k := sc_at hks
   have hsi := sc_in hok (x := y) hk2
   obtain ⟨c1, o1, he1, hh1⟩ := zC1 hHZ hkh
   subst he1
   obtain ⟨c2x, o2x, he2, hsk1⟩ := zC1 hSZ hks
   subst he2
   have hk12 := hh12 k hk2
   have hog := ofG_range (at_ h k) (scOf l y k) l.grades 0 (by omega)
   refine zB7 [] [(0, 1), (1, 0), (2, 0), (3, 0), (4, 1), (5, 0), (6, 0), (7, 0), (8, 1), (9, 2), (10, 0)] zBu (drawOK_of (by kernel_rfl)) hs (fun w44 hs45 => ?_)
   refine zBa rfl zAa rfl hs45 (fun _ hq => (zA6 (vs := [_, _, _]) isAgg26 sizeOf26 hq.tail rfl rfl hb2)) ?_
   refine zAp rfl zAa rfl (fun _ => (zAe (v := .slice _ _ _) rfl rfl)) ?_
   refine zAp rfl zAa rfl (fun _ => (zAe (v := .int _ _) rfl rfl)) ?_
   refine zAp rfl zAa rfl (fun _ => (zA7 underlying43 sizeOf3 rfl rfl rfl rfl (i := k) rfl hkh)) ?_
   refine zBa rfl zAa rfl hs45 (fun _ hq => (zAk isAgg3 hq.tail rfl rfl hh1)) ?_
   refine zAp rfl zAa rfl (fun _ => (zAe (v := .slice _ _ _) rfl rfl)) ?_
   refine zAp rfl zAa rfl (fun _ => (zAe (v := .int _ _) rfl rfl)) ?_
   refine zAp rfl zAa rfl (fun _ => (zA7 underlying43 sizeOf3 rfl rfl rfl rfl (i := k) rfl hks)) ?_
   refine zBa rfl zAa rfl hs45 (fun _ hq => (zAk isAgg3 hq.tail rfl rfl hsk1)) ?_
   refine zCl rfl ?_
   refine zAt zAa call43 rfl rfl rfl rfl ((c43 l q hmZ.cons _ _ hs45).mono (fun v w2 x => by rw [← hag, hsc] at x; exact (show v = .int .i64 (ofG l.grades 0 (at_ h k) (scOf l y k)) ∧ _ from x))) ?_
   rintro _ w47 ⟨rfl, hs48⟩
   refine zAf (qn ⟨hs48, ?_⟩)
   refine zAp rfl zAa rfl (fun _ => (zAc (v := .int _ _) rfl rfl)) ?_
   refine zB1 ?_
   refine zAd (hK42 _ _ ?_)
   refine zAg (fun K50 hK49 => ?_)
   refine zAb (w_p (zAe (v := .int _ _) rfl rfl) rfl ?_)
   refine w_p (zCc rfl rfl rfl rfl) rfl ?_
   refine zAf (zAd (hK49 _ _ ?_))
   refine zAz rfl rfl (fun h51 => ?_) (fun h51 => ?_)
   ·
    try simp only [zS] at h51
    obtain ⟨g, hg⟩ : ∃ g : Nat, (ofG l.grades 0 (at_ h k) (scOf l y k)) = (g : Int) := ⟨(ofG l.grades 0 (at_ h k) (scOf l y k)).toNat, by omega⟩
    have hg2 : g < l.grades.length := by omega
    have hos := of_sum_in (sc := scOf l y) hh12 (g : Int) k (by omega)
    have hsg := gr_get (l := l) (h := h) (sc := scOf l y) (k := k) hg2
    refine zB7 [12] [(0, 0), (1, 0), (2, 0), (3, 0), (4, 0), (5, 1), (6, 0), (7, 0), (8, 0), (9, 1), (10, 0), (11, 0), (12, 3)] zBu (drawOK_of (by kernel_rfl)) hs48 (fun w52 hs53 => ?_)
    refine zAp rfl zAa rfl (fun _ => (zAe (v := .slice _ _ _) rfl rfl)) ?_
    refine zAp rfl zAa rfl (fun _ => (zAe (v := .int _ _) rfl rfl)) ?_
    refine zAp rfl zAa rfl (fun _ => (zAe (v := .slice _ _ _) rfl rfl)) ?_
    refine zAp rfl zAa rfl (fun _ => (zAe (v := .int _ _) rfl rfl)) ?_
    refine zAp rfl zAa rfl (fun _ => (zA7 underlying43 sizeOf3 rfl rfl rfl rfl (i := g) (by first | rfl | omega) (by omega))) ?_
    refine zBa rfl zAa rfl hs53 (fun _ hq => (zAk isAgg3 hq rfl rfl (zCb (i := 0) (j := g) rfl (by first | omega | rfl | (simp only [gr_len, sc_len, List.length_map, List.length_set, List.length_append, List.length_take, List.length_drop, List.length_replicate, List.length_cons, List.length_nil] <;> omega))))) ?_
    refine zAp rfl zAa rfl (fun _ => (zAe (v := .slice _ _ _) rfl rfl)) ?_
    refine zAp rfl zAa rfl (fun _ => (zAe (v := .int _ _) rfl rfl)) ?_
    refine zAp rfl zAa rfl (fun _ => (zA7 underlying43 sizeOf3 rfl rfl rfl rfl (i := k) rfl hkh)) ?_
    refine zBa rfl zAa rfl hs53 (fun _ hq => (zAk isAgg3 hq.tail rfl rfl hh1)) ?_
    refine zAp rfl zAa rfl (fun _ => (zBf rfl rfl rfl rfl (by omega) (by omega))) ?_
    refine zAp rfl zAa rfl (fun _ => (zA7 underlying43 sizeOf3 rfl rfl rfl rfl (i := g) (by first | rfl | omega) (by omega))) ?_
    refine zC8 rfl ?_
    refine w_storeAtI (i := 0) (j := g) zAa sizeOf3 rfl rfl rfl rfl hs53 rfl (by first | omega | rfl | (simp only [gr_len, sc_len, List.length_map, List.length_set, List.length_append, List.length_take, List.length_drop, List.length_replicate, List.length_cons, List.length_nil] <;> omega)) (fun w54 hs55 => ?_)
    refine zAf (qn ?_)
    refine zB1 ?_
    refine zAl (zAd (hK40 _ _ ?_))
    refine zAb (w_p (zAe (v := .int _ _) rfl rfl) rfl ?_)
    refine w_p (zBf rfl rfl rfl rfl (by omega) (by omega)) rfl ?_
    refine w_p (zAc (v := .int _ _) rfl rfl) rfl ?_
    refine zAf (zAd (hN32 _ _ (Nx.intro (l.bunches.length - (k + 1)) (by omega) (by repeat (first | exact zAv | refine zAu rfl ?_ | refine zAs rfl ?_ _ | refine zAr rfl ?_)) ?_)))
    first
      | exact ⟨k + 1, rfl, by omega, rfl, by rw [← gr_set hg hg2, hag]; exact hs55⟩
      | exact ⟨k + 1, rfl, by omega, rfl, by rw [gr_no (by omega)]; exact hs55⟩
   try simp only [zS] at h51
   refine zAx (zAl (zAd (hK40 _ _ ?_)))
   refine zAb (w_p (zAe (v := .int _ _) rfl rfl) rfl ?_)
   refine w_p (zBf rfl rfl rfl rfl (by omega) (by omega)) rfl ?_
   refine w_p (zAc (v := .int _ _) rfl rfl) rfl ?_
   refine zAf (zAd (hN32 _ _ (Nx.intro (l.bunches.length - (k + 1)) (by omega) (by repeat (first | exact zAv | refine zAu rfl ?_ | refine zAs rfl ?_ _ | refine zAr rfl ?_)) ?_)))
   first
     | exact ⟨k + 1, rfl, by omega, rfl, by rw [← gr_set hg hg2, hag]; exact hs48⟩
     | exact ⟨k + 1, rfl, by omega, rfl, by rw [gr_no (by omega)]; exact hs48⟩
  try simp only [zS] at h39
  refine zBl (zAo (zAo (zA4 (zAd (hK28 _ _ ?_)))))
  refine zAg (fun K57 hK56 => ?_)
  refine zAb (w_p (zAe (v := .slice _ _ _) rfl rfl) rfl ?_)
  refine w_p (zAc (v := .slice _ _ _) rfl rfl) rfl ?_
  refine zAf (zAd (hK56 _ _ ?_))
  refine zA2 (zA3 (l := [.tmp 4]) (vs := [_]) rfl ⟨⟨rfl, show _ = (.slice _ _ _ : Value) from rfl⟩, trivial⟩ ?_)
  have hkn : k = l.bunches.length := by omega
  subst hkn
  subst hZ
  exact ⟨h, (b25, blk 3 (iv (grTo l h (scOf l y) l.bunches.length))) :: (b6, blk 35 [.int .u16 z, .slice ay y.length cy, .int .u8 d]) :: (b3, blk 26 (l.cells q)) :: (SB ++ WB), some ⟨b25, 0, none⟩, _, hin, rfl, zDh (i := 0) rfl, by simp only [List.append_assoc, List.cons_append]; exact hs⟩

end Go.Proofs.Tg
