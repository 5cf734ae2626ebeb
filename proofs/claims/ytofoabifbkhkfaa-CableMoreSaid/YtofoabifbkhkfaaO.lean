/- Walks of this seat, printed by gen.py over the engine: what each function returns, in whatever world. No conditions but those of each contract. -/
import Derived.Test.YtofoabifbkhkfaaN
import Derived.Test.YtofoabifbkhkfaaCSpec9
set_option linter.unusedVariables false
set_option linter.unusedSimpArgs false
set_option maxRecDepth 20000
namespace Go.Proofs
open Go.Rt
attribute [local irreducible] WL WC Con Yd At Ats Sl Agree DW
theorem Try_info3 : Try.prog.info? 3 = some Try.t3 := by kernel_rfl
theorem drop_plan {w0 w : World} {b6 bq b5 pb b1 : Nat × Obj} {M F : List (Nat × Obj)} (h : St w0 w (b6 :: (M ++ (bq :: b5 :: pb :: b1 :: F)))) : St w0 w F := h.tail.drop.tail.tail.tail.tail
theorem drop_plan2 {w0 w : World} {bs b6 bq b5 pb b1 : Nat × Obj} {M F : List (Nat × Obj)} (h : St w0 w (bs :: b6 :: (M ++ (bq :: b5 :: pb :: b1 :: F)))) : St w0 w (bs :: F) := by
  have e : bs :: b6 :: (M ++ (bq :: b5 :: pb :: b1 :: F)) = bs :: ((b6 :: (M ++ [bq, b5, pb, b1])) ++ F) := by simp
  rw [e] at h
  exact keep_front h
theorem c26 {w0 w : World} {F : List (Nat × Obj)} (p : Port) (a : Option Addr) (c : Nat) (hl3 : p.farms.length ≤ 9223372036854775807) (hc : p.farms.length ≤ c) (ha : Sl w0 F a 6 (rows p.farms)) (hnm : ∀ f ∈ p.farms, f.name.size ≤ 9223372036854775807)  (hs : St w0 w F) :
  Con Try.prog 26 [.agg (p.cells a c).toArray] w fun v w' => ∃ B aq cq, v = .tuple #[.slice aq (planL p).length cq, .int .i64 (planV p), .int .i64 (planE p)] ∧ Sl w0 (B ++ F) aq 1 ((planL p).map fun x => [Value.int .i64 x]) ∧ St w0 w' (B ++ F) := by
  refine con_of_wc (n := 39) Try.func26 rfl rfl (Nat.le_of_ble_eq_true rfl) ?_
  refine w_seq (fun K2 hK1 => ?_)
  refine w_region ?_
  refine w_box (v := .agg #[.int _ _, .int _ _, .int _ _, .slice _ _ _]) (cs := [_, _, _, _]) want_none rfl rfl rfl hs (fun b3 w4 hs5 => ?_)
  refine w_pure want_none (y_assign (v := _) rfl rfl) rfl ?_
  refine w_pure want_none (y_assign (v := _) rfl rfl) rfl ?_
  refine w_pure want_none (y_assign (v := _) rfl rfl) rfl ?_
  refine w_nil ?_
  refine q_then (hK1 _ _ ?_)
  refine w_seq (fun K7 hK6 => ?_)
  refine w_seq (fun K9 hK8 => ?_)
  refine w_region ?_
  refine w_pure want_none (y_loadN (vs := [_, _, _, _]) Try.isAgg26 Try.sizeOf26 hs5 rfl rfl (ats_own (i := 0) (vs := [_, _, _, _]) rfl rfl)) rfl ?_
  refine w_call want_none Try.call16 rfl rfl rfl rfl (c16 p _ _ (by omega) (by omega) ha.cons hnm hs5) ?_
  rintro _ w11 ⟨rfl, hs12⟩
  refine w_pure want_none (y_move (v := .tuple _) rfl rfl) rfl ?_
  refine w_pure want_none (y_extract (v := .int _ _) rfl rfl rfl) rfl ?_
  refine w_pure want_none (y_extract (v := .int _ _) rfl rfl rfl) rfl ?_
  refine w_pure want_none (y_extract (v := .int _ _) rfl rfl rfl) rfl ?_
  refine w_pure want_none (y_assign (v := .int _ _) rfl rfl) rfl ?_
  refine w_nil ?_
  refine q_then (hK8 _ _ ?_)
  refine w_seq (fun K14 hK13 => ?_)
  refine w_region ?_
  refine w_pure want_none (y_move (v := .int _ _) rfl rfl) rfl ?_
  refine w_pure want_none (y_neq rfl rfl rfl rfl) rfl ?_
  refine w_nil ?_
  refine q_then (hK13 _ _ ?_)
  refine w_cond rfl rfl (fun h15 => ?_) (fun h15 => ?_)
  ·
    try simp only [Bool.not_eq_true', Bool.not_eq_false', decide_eq_true_eq, decide_eq_false_iff_not, Int.not_lt, Int.not_le] at h15
    refine w_seq (fun K17 hK16 => ?_)
    refine w_region ?_
    refine w_pure want_none (y_move (v := .int _ _) rfl rfl) rfl ?_
    refine w_pure want_none (y_assign (v := _) rfl rfl) rfl ?_
    refine w_pure want_none (y_assign (v := _) rfl rfl) rfl ?_
    refine w_pure want_none (y_assign (v := .int _ _) rfl rfl) rfl ?_
    refine w_nil ?_
    refine q_then (hK16 _ _ ?_)
    refine w_ret ?_
    refine q_then_ret ?_
    refine q_ret (l := [.tmp 2, .tmp 3, .tmp 4]) (vs := [_, _, _]) rfl ⟨⟨rfl, show _ = (.slice _ _ _ : Value) from rfl⟩, ⟨rfl, show _ = (.int _ _ : Value) from rfl⟩, ⟨rfl, show _ = (.int _ _ : Value) from rfl⟩, trivial⟩ ?_
    first
      | (obtain ⟨e1, e2, e3⟩ := plan_e1 (p := p) (by assumption)
         refine ⟨[], none, 0, ?_, ?_, hs12.tail⟩
         · rw [e1, e2, e3]; rfl
         · rw [e1]; exact Sl.nil _ _)
      | (obtain ⟨e1, e2, e3⟩ := plan_e2 (p := p) (by assumption) (by assumption)
         refine ⟨[], none, 0, ?_, ?_, drop_plan hs12⟩
         · rw [e1, e2, e3]; rfl
         · rw [e1]; exact Sl.nil _ _)
      | (obtain ⟨hpl, e2, e3⟩ := plan_ok (p := p) (by assumption) (by assumption)
         have hlp : (planL p).length = p.farms.length := by rw [hpl, List.length_take]; omega
         have hcs : (best p (doP p)).b.take p.farms.length ++ (List.replicate p.farms.length 0).drop 3 = planL p := by rw [hpl, List.drop_of_length_le (by simp; omega), List.append_nil]
         have hfin := drop_plan2 hs12
         rw [hcs] at hfin
         refine ⟨[_], _, p.farms.length, ?_, sl_ints_own (i := 0) rfl, hfin⟩
         rw [hlp, e2, e3]; rfl)
  ·
    try simp only [Bool.not_eq_true', Bool.not_eq_false', decide_eq_true_eq, decide_eq_false_iff_not, Int.not_lt, Int.not_le] at h15
    refine w_skip ?_
    refine q_then (hK6 _ _ ?_)
    refine w_seq (fun K19 hK18 => ?_)
    have hok := check_ok (by assumption)
    have hlen3 := hok.len
    refine w_region ?_
    refine w_pure want_none (y_loadN (vs := [_, _, _, _]) Try.isAgg26 Try.sizeOf26 hs12 rfl rfl (ats_own (i := 0) (vs := [_, _, _, _]) rfl rfl)) rfl ?_
    refine w_call want_none Try.call58 rfl rfl rfl rfl (c58 p _ _ hs12) ?_
    rintro _ w21 ⟨m, pb, rfl, hs22⟩
    refine w_alloc (cs := [_]) want_none Try.zeroValue81 rfl hs22 (fun b23 w24 hs25 => ?_)
    refine w_store (i := 0) (v := .pointer _) (vs := [_]) want_none Try.sizeOf81 rfl rfl rfl rfl rfl (by simp [Value.oneCell']) hs25 rfl (Nat.le_of_ble_eq_true rfl) (fun w26 hs27 => ?_)
    refine w_nil ?_
    refine q_then (hK18 _ _ ?_)
    refine w_seq (fun K29 hK28 => ?_)
    refine w_region ?_
    refine w_pure want_none (y_load1 Try.isAgg81 hs27 rfl rfl (ats_own (i := 0) (vs := [_]) rfl rfl)) rfl ?_
    refine w_call want_none Try.call60 rfl rfl rfl rfl (c60 _ hs27) ?_
    rintro _ w31 ⟨bq, rfl, hs32⟩
    refine w_pure want_none (y_makeFunc (fv := []) (cv := [_]) rfl rfl rfl rfl) rfl ?_
    refine w_call want_none Try.call59 rfl rfl rfl rfl (c59 (X := []) (M := [_]) (F := ((bq, blk 81 [.pointer (some ⟨pb, 0, none⟩)]) :: (b23, blk 81 [.pointer (some ⟨pb, 0, none⟩)]) :: (pb, blk 119 [.int .i64 p.hold, .int .i64 p.clo, .int .i64 p.chi, .slice a p.farms.length c, .map (some m)]) :: (b3, blk 26 (p.cells a c)) :: F)) p _ c m pb (ats_own (i := 2) (vs := [_, _, _, _, _]) rfl rfl) ha.cons.cons.cons.cons hok bq b23 (ats_own (i := 0) (vs := [_]) rfl rfl) (ats_own (i := 1) (vs := [_]) rfl rfl) (memo_new _ _ _) (hs32.perm (perm_mid [_, _] [_] _))) ?_
    rintro _ w34 ⟨rfl, M1, hM1, hs35⟩
    have hb1 : Ats w0 ((bq, blk 81 [.pointer (some ⟨pb, 0, none⟩)]) :: (b23, blk 81 [.pointer (some ⟨pb, 0, none⟩)]) :: (pb, blk 119 [.int .i64 p.hold, .int .i64 p.clo, .int .i64 p.chi, .slice a p.farms.length c, .map (some m)]) :: (b3, blk 26 (p.cells a c)) :: F) b3 0 (p.cells a c) := ats_own (i := 3) (vs := p.cells a c) rfl rfl
    have hb5 : Ats w0 ((bq, blk 81 [.pointer (some ⟨pb, 0, none⟩)]) :: (b23, blk 81 [.pointer (some ⟨pb, 0, none⟩)]) :: (pb, blk 119 [.int .i64 p.hold, .int .i64 p.clo, .int .i64 p.chi, .slice a p.farms.length c, .map (some m)]) :: (b3, blk 26 (p.cells a c)) :: F) b23 0 [.pointer (some ⟨pb, 0, none⟩)] := ats_own (i := 1) (vs := [_]) rfl rfl
    have hpx : Ats w0 ((bq, blk 81 [.pointer (some ⟨pb, 0, none⟩)]) :: (b23, blk 81 [.pointer (some ⟨pb, 0, none⟩)]) :: (pb, blk 119 [.int .i64 p.hold, .int .i64 p.clo, .int .i64 p.chi, .slice a p.farms.length c, .map (some m)]) :: (b3, blk 26 (p.cells a c)) :: F) pb 0 [.int .i64 p.hold, .int .i64 p.clo, .int .i64 p.chi, .slice a p.farms.length c, .map (some m)] := ats_own (i := 2) (vs := [_, _, _, _, _]) rfl rfl
    replace hs35 := (show St _ _ (M1 ++ (_ :: _ :: _ :: _ :: F)) from hs35)
    have hb3 := best_len (p := p) (doP_len (p := p)) (doP p).length
    have hbi := best_in (p := p) (doP_in (p := p)) (doP p).length
    rw [bestUpto_all (Nat.le_refl _)] at hb3 hbi
    refine w_pure want_none (y_move (v := .tuple _) rfl rfl) rfl ?_
    refine w_pure want_none (y_extract (v := (ia _)) rfl rfl rfl) rfl ?_
    refine w_pure want_none (y_extract (v := .bool _) rfl rfl rfl) rfl ?_
    refine w_alloc (cs := iv [0, 0, 0]) want_none Try.zeroValue83 rfl hs35 (fun b36 w37 hs38 => ?_)
    refine w_storeI (i := 0) (l := _) want_none Try.sizeOf83 (by first | omega | rfl | (simp only [hb3, List.length_map, List.length_set, List.length_append, List.length_take, List.length_drop, List.length_replicate, List.length_cons, List.length_nil] <;> omega)) rfl rfl rfl rfl rfl hs38 rfl (by first | omega | rfl | (simp only [hb3, List.length_map, List.length_set, List.length_append, List.length_take, List.length_drop, List.length_replicate, List.length_cons, List.length_nil] <;> omega)) (fun w39 hs40 => ?_)
    refine w_pure want_none (y_assign (v := .bool _) rfl rfl) rfl ?_
    refine w_nil ?_
    refine q_then (hK28 _ _ ?_)
    refine w_seq (fun K42 hK41 => ?_)
    refine w_seq (fun K44 hK43 => ?_)
    refine w_region ?_
    refine w_pure want_none (y_move (v := .bool _) rfl rfl) rfl ?_
    refine w_pure want_none (y_not rfl rfl) rfl ?_
    refine w_nil ?_
    refine q_then (hK43 _ _ ?_)
    refine w_cond rfl rfl (fun h45 => ?_) (fun h45 => ?_)
    ·
      try simp only [Bool.not_eq_true', Bool.not_eq_false', decide_eq_true_eq, decide_eq_false_iff_not, Int.not_lt, Int.not_le] at h45
      refine w_seq (fun K47 hK46 => ?_)
      refine w_region ?_
      refine w_pure want_none (y_assign (v := _) rfl rfl) rfl ?_
      refine w_pure want_none (y_assign (v := _) rfl rfl) rfl ?_
      refine w_pure want_none (y_assign (v := _) rfl rfl) rfl ?_
      refine w_nil ?_
      refine q_then (hK46 _ _ ?_)
      refine w_ret ?_
      refine q_then_ret ?_
      refine q_ret (l := [.tmp 2, .tmp 3, .tmp 4]) (vs := [_, _, _]) rfl ⟨⟨rfl, show _ = (.slice _ _ _ : Value) from rfl⟩, ⟨rfl, show _ = (.int _ _ : Value) from rfl⟩, ⟨rfl, show _ = (.int _ _ : Value) from rfl⟩, trivial⟩ ?_
      first
        | (obtain ⟨e1, e2, e3⟩ := plan_e1 (p := p) (by assumption)
           refine ⟨[], none, 0, ?_, ?_, hs40.tail.drop.tail.tail.tail.tail⟩
           · rw [e1, e2, e3]; rfl
           · rw [e1]; exact Sl.nil _ _)
        | (obtain ⟨e1, e2, e3⟩ := plan_e2 (p := p) (by assumption) (by assumption)
           refine ⟨[], none, 0, ?_, ?_, drop_plan hs40⟩
           · rw [e1, e2, e3]; rfl
           · rw [e1]; exact Sl.nil _ _)
        | (obtain ⟨hpl, e2, e3⟩ := plan_ok (p := p) (by assumption) (by assumption)
           have hlp : (planL p).length = p.farms.length := by rw [hpl, List.length_take]; omega
           have hcs : (best p (doP p)).b.take p.farms.length ++ (List.replicate p.farms.length 0).drop 3 = planL p := by rw [hpl, List.drop_of_length_le (by simp; omega), List.append_nil]
           have hfin := drop_plan2 hs40
           rw [hcs] at hfin
           refine ⟨[_], _, p.farms.length, ?_, sl_ints_own (i := 0) rfl, hfin⟩
           rw [hlp, e2, e3]; rfl)
    ·
      try simp only [Bool.not_eq_true', Bool.not_eq_false', decide_eq_true_eq, decide_eq_false_iff_not, Int.not_lt, Int.not_le] at h45
      refine w_skip ?_
      refine q_then (hK41 _ _ ?_)
      refine w_seq (fun K49 hK48 => ?_)
      refine w_region ?_
      refine w_pure want_none (y_fieldAddr (o := 3) (i := 2) Try.underlying26 rfl Try.sizeOf24 rfl rfl rfl) rfl ?_
      refine w_pure want_none (y_load1 Try.isAgg24 hs40.tail.drop rfl rfl (show Ats _ _ _ _ [_] from Ats.part hb1 3 1)) rfl ?_
      refine w_pure want_none (y_lenS Try.underlying24 rfl rfl) rfl ?_
      refine w_makeInts (k := p.farms.length) want_none Try.underlying27 Try_info3 rfl rfl (by omega) rfl rfl rfl rfl rfl hs40 (fun b50 w51 hs52 => ?_)
      refine w_pure want_none (y_assign (v := .slice _ _ _) rfl rfl) rfl ?_
      refine w_nil ?_
      refine q_then (hK48 _ _ ?_)
      refine w_seq (fun K54 hK53 => ?_)
      refine w_region ?_
      refine w_pure want_none (y_move (v := .slice _ _ _) rfl rfl) rfl ?_
      refine w_pure want_none (y_sliceA Try.underlying83 Try.sizeOf3 rfl rfl) rfl ?_
      refine w_copyI (i := 0) want_none Try.underlying27 Try.sizeOf3 rfl rfl rfl rfl hs52 rfl (sl_ints_own (i := 1) rfl) (by first | omega | rfl | (simp only [hb3, List.length_map, List.length_set, List.length_append, List.length_take, List.length_drop, List.length_replicate, List.length_cons, List.length_nil] <;> omega)) (by first | omega | rfl | (simp only [hb3, List.length_map, List.length_set, List.length_append, List.length_take, List.length_drop, List.length_replicate, List.length_cons, List.length_nil] <;> omega)) (fun w55 hs56 => ?_)
      refine w_nil ?_
      refine q_then (hK53 _ _ ?_)
      refine w_seq (fun K58 hK57 => ?_)
      refine w_region ?_
      refine w_pure want_none (y_move (v := .slice _ _ _) rfl rfl) rfl ?_
      refine w_pure want_none (y_load1 Try.isAgg81 hs56.tail.tail.drop rfl rfl hb5) rfl ?_
      refine w_pure want_none (y_loadI (i := 1) Try.isAgg83 Try.sizeOf83 (by first | omega | rfl | (simp only [hb3, List.length_map, List.length_set, List.length_append, List.length_take, List.length_drop, List.length_replicate, List.length_cons, List.length_nil] <;> omega)) hs56 rfl rfl rfl) rfl ?_
      refine w_call want_none Try.call57 rfl rfl rfl rfl (c57 (X := [_, _]) (F := ((bq, blk 81 [.pointer (some ⟨pb, 0, none⟩)]) :: (b23, blk 81 [.pointer (some ⟨pb, 0, none⟩)]) :: (pb, blk 119 [.int .i64 p.hold, .int .i64 p.clo, .int .i64 p.chi, .slice a p.farms.length c, .map (some m)]) :: (b3, blk 26 (p.cells a c)) :: F)) p _ c m pb hpx ha.cons.cons.cons.cons hok _ hb3 hbi hM1 hs56) ?_
      rintro _ w60 ⟨rfl, M2, hM2, hs61⟩
      replace hs61 := (show St _ _ (_ :: _ :: M2 ++ (_ :: _ :: _ :: _ :: F)) from hs61)
      refine w_pure want_none (y_assign (v := .slice _ _ _) rfl rfl) rfl ?_
      refine w_pure want_none (y_assign (v := .int _ _) rfl rfl) rfl ?_
      refine w_pure want_none (y_assign (v := _) rfl rfl) rfl ?_
      refine w_nil ?_
      refine q_then (hK57 _ _ ?_)
      refine w_ret ?_
      refine q_ret (l := [.tmp 2, .tmp 3, .tmp 4]) (vs := [_, _, _]) rfl ⟨⟨rfl, show _ = (.slice _ _ _ : Value) from rfl⟩, ⟨rfl, show _ = (.int _ _ : Value) from rfl⟩, ⟨rfl, show _ = (.int _ _ : Value) from rfl⟩, trivial⟩ ?_
      first
        | (obtain ⟨e1, e2, e3⟩ := plan_e1 (p := p) (by assumption)
           refine ⟨[], none, 0, ?_, ?_, hs61.tail.tail.drop.tail.tail.tail.tail⟩
           · rw [e1, e2, e3]; rfl
           · rw [e1]; exact Sl.nil _ _)
        | (obtain ⟨e1, e2, e3⟩ := plan_e2 (p := p) (by assumption) (by assumption)
           refine ⟨[], none, 0, ?_, ?_, drop_plan hs61⟩
           · rw [e1, e2, e3]; rfl
           · rw [e1]; exact Sl.nil _ _)
        | (obtain ⟨hpl, e2, e3⟩ := plan_ok (p := p) (by assumption) (by assumption)
           have hlp : (planL p).length = p.farms.length := by rw [hpl, List.length_take]; omega
           have hcs : (best p (doP p)).b.take p.farms.length ++ (List.replicate p.farms.length 0).drop 3 = planL p := by rw [hpl, List.drop_of_length_le (by simp; omega), List.append_nil]
           have hfin := drop_plan2 hs61
           rw [hcs] at hfin
           refine ⟨[_], _, p.farms.length, ?_, sl_ints_own (i := 0) rfl, hfin⟩
           rw [hlp, e2, e3]; rfl)

end Go.Proofs
