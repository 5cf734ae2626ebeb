/- Own texts of this claim, joined. No conditions. -/
import Derived.Test.YtgndnnpadkoagaaHChainTellsa
import Derived.Test.YtgndnnpadkoagaaHChainTellsb
import Derived.Test.YtgndnnpadkoagaaHChainTellsc
/- Walks of this seat, printed by gen.py over the engine: what each function returns, in whatever world. No conditions but those of each contract. -/
set_option linter.unusedVariables false
set_option linter.unusedSimpArgs false
set_option maxRecDepth 20000
namespace Go.Proofs
open Go.Rt Go.Rt.Ch
open Go.Rt.Ha (firstE firstE_step firstE_stop firstE_end failE nameE felt spanL upto span_mem listL fewest fewTo bit before fewStep drop_lt drop_get drop_next drop_done drop_notin set_take set_zero take_less)
attribute [local irreducible] WL WC Con Yd At Ats Sl Agree DW
theorem Try_S_fb4 (x0 : ByteArray) (w : World) : (Instr.buildSlice 92 1 [(0, .string x0)].toArray).run Try.prog w = .ok (.slice (some ⟨w.heap.size, 0, none⟩) 1 1) (w.alloc (Go.Rt.blk 9 [.string x0])) := by kernel_rfl
theorem Try_info9 : Try.prog.info? 9 = some Try.t9 := by kernel_rfl
theorem ends_ok {a b lo hi : Int} (h : ends a b lo hi = 0) : lo ≤ a ∧ a ≤ hi ∧ lo ≤ b ∧ b ≤ hi ∧ a ≤ b := by
  unfold ends out at h
  split at h
  · cases h
  · rename_i h1
    simp only [Bool.or_eq_true, decide_eq_true_eq, not_or] at h1
    split at h
    · cases h
    · omega
def freshE (s : ByteArray) (l : List ByteArray) : Int := if nmOk s = false then 6 else if has l s then 5 else 0
theorem ctrE_yes {n : Nat} {bf : List Ctr} {c : Ctr} (h : freshE c.name (bf.map (·.name)) = 0) : ctrE n bf c = ctrOwn n c := ctrE_0 h
theorem ctrE_no {n : Nat} {bf : List Ctr} {c : Ctr} (h : ¬ freshE c.name (bf.map (·.name)) = 0) : ctrE n bf c = freshE c.name (bf.map (·.name)) := ctrE_n h
theorem knames_snoc {l : List Ctr} {i : Nat} (hi : i < l.length) : ((l.take i).map (·.name)).map Value.string ++ [Value.string l[i].name] = ((l.take (i + 1)).map (·.name)).map Value.string := by
  rw [List.take_succ_eq_append_getElem hi]; simp only [List.map_append, List.map_cons, List.map_nil]
theorem knames_len {l : List Ctr} {i : Nat} (hi : i ≤ l.length) : ((l.take i).map (·.name)).length = i := by simp; omega
theorem c60 {w0 w : World} {F : List (Nat × Obj)} (b : Board) (p : AtB) (hh : 1 ≤ b.holds ∧ b.holds ≤ 3) (h : Hour) (bf : List Hour) (hs : St w0 w F) :
  Con Try.prog 60 [.agg (b.cells p).toArray, .agg h.cells.toArray] w fun v w' => v = .int .i64 (hourE b.holds bf h) ∧ St w0 w' F := by
  refine con_of_wc (n := 29) Try.func60 rfl rfl (Nat.le_of_ble_eq_true rfl) ?_
  refine w_seq (fun K2 hK1 => ?_)
  refine w_region ?_
  refine w_box (v := .agg #[.int _ _, .slice _ _ _, .slice _ _ _]) (cs := [_, _, _]) want_none rfl rfl rfl hs (fun b3 w4 hs5 => ?_)
  refine w_box (v := .agg #[.int _ _, .int _ _, .int _ _]) (cs := [_, _, _]) want_none rfl rfl rfl hs5 (fun b6 w7 hs8 => ?_)
  refine w_p (y_assign (v := _) rfl rfl) rfl ?_
  refine w_nil ?_
  refine q_then (hK1 _ _ ?_)
  refine w_seq (fun K10 hK9 => ?_)
  refine w_seq (fun K12 hK11 => ?_)
  refine w_region ?_
  refine w_p (y_fieldAddr (o := 0) (i := 0) Try.underlying70 rfl Try.sizeOf3 rfl rfl rfl) rfl ?_
  refine w_p (y_load1 Try.isAgg3 hs8 rfl rfl (ats_own (i := 0) (vs := [_]) rfl rfl)) rfl ?_
  refine w_p (y_fieldAddr (o := 0) (i := 0) Try.underlying25 rfl Try.sizeOf3 rfl rfl rfl) rfl ?_
  refine w_p (y_load1 Try.isAgg3 hs8 rfl rfl (ats_own (i := 1) (vs := [_]) rfl rfl)) rfl ?_
  refine w_p (y_sub rfl rfl rfl rfl (by omega) (by omega)) rfl ?_
  refine w_call want_none Try.call59 rfl rfl rfl rfl (c59 _ _ _ hs8) ?_
  rintro _ w14 ⟨rfl, hs15⟩
  refine w_p (y_not rfl rfl) rfl ?_
  refine w_nil ?_
  refine q_then (hK11 _ _ ?_)
  refine w_cond rfl rfl (fun h16 => ?_) (fun h16 => ?_)
  ·
   try simp only [zA, zB, zC, zD, zE, zF] at h16
   refine w_seq (fun K18 hK17 => ?_)
   refine w_region ?_
   refine w_p (y_assign (v := _) rfl rfl) rfl ?_
   refine w_nil ?_
   refine q_then (hK17 _ _ ?_)
   refine w_ret ?_
   refine q_then_ret ?_
   refine q_ret (l := [.tmp 4]) (vs := [_]) rfl ⟨⟨rfl, show _ = (.int _ _ : Value) from rfl⟩, trivial⟩ ?_
   first
     | exact ⟨congrArg (Value.int .i64) (hour_4 (by assumption)).symm, hs15.tail.tail⟩
     | exact ⟨congrArg (Value.int .i64) (hour_2 (by assumption) (by assumption) (by omega)).symm, hs15.tail.tail⟩
     | exact ⟨congrArg (Value.int .i64) (by rw [hour_0 (by assumption) (by assumption) (by omega)]; assumption), hs15.tail.tail⟩
     | exact ⟨congrArg (Value.int .i64) (hour_e (by assumption) (by assumption)).symm, hs15.tail.tail⟩
  ·
   try simp only [zA, zB, zC, zD, zE, zF] at h16
   refine w_skip ?_
   refine q_then (hK9 _ _ ?_)
   refine w_seq (fun K20 hK19 => ?_)
   refine w_region ?_
   refine w_p (y_fieldAddr (o := 1) (i := 1) Try.underlying70 rfl Try.sizeOf31 rfl rfl rfl) rfl ?_
   refine w_p (y_loadN (vs := [_, _]) Try.isAgg31 Try.sizeOf31 hs15 rfl rfl (ats_own (i := 0) (vs := [_, _]) rfl rfl)) rfl ?_
   refine w_call want_none Try.call96 rfl rfl rfl rfl (c96 _ _ _ _ hs15) ?_
   rintro _ w22 ⟨rfl, hs23⟩
   refine w_p (y_assign (v := .int _ _) rfl rfl) rfl ?_
   refine w_nil ?_
   refine q_then (hK19 _ _ ?_)
   refine w_seq (fun K25 hK24 => ?_)
   refine w_seq (fun K27 hK26 => ?_)
   refine w_region ?_
   refine w_p (y_move (v := .int _ _) rfl rfl) rfl ?_
   refine w_p (y_eql rfl rfl rfl rfl) rfl ?_
   refine w_p (y_move (v := .bool _) rfl rfl) rfl ?_
   refine w_split (fun h28 => ?_) (fun h28 => ?_)
   ·
    try simp only [zA, zB, zC, zD, zE, zF] at h28
    have he1 := ends_ok (by assumption : ends h.lo h.hi 0 40 = 0)
    refine w_y rfl rfl rfl (y_fieldAddr (o := 1) (i := 1) Try.underlying70 rfl Try.sizeOf31 rfl rfl rfl) rfl ?_
    refine w_y rfl rfl rfl (y_fieldAddr (o := 1) (i := 1) Try.underlying31 rfl Try.sizeOf3 rfl rfl rfl) rfl ?_
    refine w_y rfl rfl rfl (y_load1 Try.isAgg3 hs23 rfl rfl (ats_own (i := 0) (vs := [_]) rfl rfl)) rfl ?_
    refine w_y rfl rfl rfl (y_fieldAddr (o := 1) (i := 1) Try.underlying70 rfl Try.sizeOf31 rfl rfl rfl) rfl ?_
    refine w_y rfl rfl rfl (y_fieldAddr (o := 0) (i := 0) Try.underlying31 rfl Try.sizeOf3 rfl rfl rfl) rfl ?_
    refine w_y rfl rfl rfl (y_load1 Try.isAgg3 hs23 rfl rfl (ats_own (i := 0) (vs := [_]) rfl rfl)) rfl ?_
    refine w_y rfl rfl rfl (y_sub rfl rfl rfl rfl (by omega) (by omega)) rfl ?_
    refine w_y rfl rfl rfl (y_gtr rfl rfl rfl rfl) rfl ?_
    refine w_p (y_pickT (v := .bool _) rfl rfl rfl rfl) rfl ?_
    refine w_nil ?_
    refine q_then (hK26 _ _ ?_)
    refine w_cond rfl rfl (fun h29 => ?_) (fun h29 => ?_)
    ·
     try simp only [zA, zB, zC, zD, zE, zF] at h29
     refine w_region ?_
     refine w_p (y_assign (v := _) rfl rfl) rfl ?_
     refine w_nil ?_
     refine q_then (hK24 _ _ ?_)
     refine w_seq (fun K31 hK30 => ?_)
     refine w_region ?_
     refine w_p (y_move (v := .int _ _) rfl rfl) rfl ?_
     refine w_p (y_assign (v := .int _ _) rfl rfl) rfl ?_
     refine w_nil ?_
     refine q_then (hK30 _ _ ?_)
     refine w_ret ?_
     refine q_ret (l := [.tmp 4]) (vs := [_]) rfl ⟨⟨rfl, show _ = (.int _ _ : Value) from rfl⟩, trivial⟩ ?_
     first
       | exact ⟨congrArg (Value.int .i64) (hour_4 (by assumption)).symm, hs23.tail.tail⟩
       | exact ⟨congrArg (Value.int .i64) (hour_2 (by assumption) (by assumption) (by omega)).symm, hs23.tail.tail⟩
       | exact ⟨congrArg (Value.int .i64) (by rw [hour_0 (by assumption) (by assumption) (by omega)]; assumption), hs23.tail.tail⟩
       | exact ⟨congrArg (Value.int .i64) (hour_e (by assumption) (by assumption)).symm, hs23.tail.tail⟩
    ·
     try simp only [zA, zB, zC, zD, zE, zF] at h29
     refine w_skip ?_
     refine q_then (hK24 _ _ ?_)
     refine w_seq (fun K33 hK32 => ?_)
     refine w_region ?_
     refine w_p (y_move (v := .int _ _) rfl rfl) rfl ?_
     refine w_p (y_assign (v := .int _ _) rfl rfl) rfl ?_
     refine w_nil ?_
     refine q_then (hK32 _ _ ?_)
     refine w_ret ?_
     refine q_ret (l := [.tmp 4]) (vs := [_]) rfl ⟨⟨rfl, show _ = (.int _ _ : Value) from rfl⟩, trivial⟩ ?_
     first
       | exact ⟨congrArg (Value.int .i64) (hour_4 (by assumption)).symm, hs23.tail.tail⟩
       | exact ⟨congrArg (Value.int .i64) (hour_2 (by assumption) (by assumption) (by omega)).symm, hs23.tail.tail⟩
       | exact ⟨congrArg (Value.int .i64) (by rw [hour_0 (by assumption) (by assumption) (by omega)]; assumption), hs23.tail.tail⟩
       | exact ⟨congrArg (Value.int .i64) (hour_e (by assumption) (by assumption)).symm, hs23.tail.tail⟩
   ·
    try simp only [zA, zB, zC, zD, zE, zF] at h28
    refine w_skipop rfl rfl rfl ?_
    refine w_skipop rfl rfl rfl ?_
    refine w_skipop rfl rfl rfl ?_
    refine w_skipop rfl rfl rfl ?_
    refine w_skipop rfl rfl rfl ?_
    refine w_skipop rfl rfl rfl ?_
    refine w_skipop rfl rfl rfl ?_
    refine w_skipop rfl rfl rfl ?_
    refine w_p (y_pickF (v := _) rfl rfl rfl rfl) rfl ?_
    refine w_nil ?_
    refine q_then (hK26 _ _ ?_)
    refine w_condF rfl rfl ?_
    refine w_skip ?_
    refine q_then (hK24 _ _ ?_)
    refine w_seq (fun K35 hK34 => ?_)
    refine w_region ?_
    refine w_p (y_move (v := .int _ _) rfl rfl) rfl ?_
    refine w_p (y_assign (v := .int _ _) rfl rfl) rfl ?_
    refine w_nil ?_
    refine q_then (hK34 _ _ ?_)
    refine w_ret ?_
    refine q_ret (l := [.tmp 4]) (vs := [_]) rfl ⟨⟨rfl, show _ = (.int _ _ : Value) from rfl⟩, trivial⟩ ?_
    first
      | exact ⟨congrArg (Value.int .i64) (hour_4 (by assumption)).symm, hs23.tail.tail⟩
      | exact ⟨congrArg (Value.int .i64) (hour_2 (by assumption) (by assumption) (by omega)).symm, hs23.tail.tail⟩
      | exact ⟨congrArg (Value.int .i64) (by rw [hour_0 (by assumption) (by assumption) (by omega)]; assumption), hs23.tail.tail⟩
      | exact ⟨congrArg (Value.int .i64) (hour_e (by assumption) (by assumption)).symm, hs23.tail.tail⟩

theorem c62 {w0 w : World} {F : List (Nat × Obj)} (b : Board) (p : AtB) (c : Ctr) (pc : AtC) (hlh : b.hours.length ≤ 9223372036854775807) (hlz : c.zero.length ≤ 9223372036854775807) (hls : c.shown.length ≤ 9223372036854775807) (hz : Sl w0 F pc.az 1 (c.zero.map fun x => [Value.int .i64 x])) (hw : Sl w0 F pc.as 1 (c.shown.map fun x => [Value.int .i64 x])) (hs : St w0 w F) :
  Con Try.prog 62 [.agg (b.cells p).toArray, .agg (c.cells pc).toArray] w fun v w' => v = .int .i64 (ctrOwn b.hours.length c) ∧ St w0 w' F := by
  refine con_of_wc (n := 61) Try.func62 rfl rfl (Nat.le_of_ble_eq_true rfl) ?_
  refine w_seq (fun K2 hK1 => ?_)
  refine w_region ?_
  refine w_box (v := .agg #[.int _ _, .slice _ _ _, .slice _ _ _]) (cs := [_, _, _]) want_none rfl rfl rfl hs (fun b3 w4 hs5 => ?_)
  refine w_box (v := .agg #[.string _, .int _ _, .int _ _, .int _ _, .slice _ _ _, .slice _ _ _]) (cs := [_, _, _, _, _, _]) want_none rfl rfl rfl hs5 (fun b6 w7 hs8 => ?_)
  refine w_p (y_assign (v := _) rfl rfl) rfl ?_
  refine w_nil ?_
  refine q_then (hK1 _ _ ?_)
  refine w_seq (fun K10 hK9 => ?_)
  refine w_seq (fun K12 hK11 => ?_)
  refine w_region ?_
  refine w_p (y_fieldAddr (o := 1) (i := 1) Try.underlying76 rfl Try.sizeOf3 rfl rfl rfl) rfl ?_
  refine w_p (y_load1 Try.isAgg3 hs8 rfl rfl (ats_own (i := 0) (vs := [_]) rfl rfl)) rfl ?_
  refine w_call want_none Try.call59 rfl rfl rfl rfl (c59 _ _ _ hs8) ?_
  rintro _ w14 ⟨rfl, hs15⟩
  refine w_p (y_not rfl rfl) rfl ?_
  refine w_p (y_move (v := .bool _) rfl rfl) rfl ?_
  refine w_split (fun h16 => ?_) (fun h16 => ?_)
  ·
   try simp only [zA, zB, zC, zD, zE, zF] at h16
   refine w_skipop rfl rfl rfl ?_
   refine w_skipop rfl rfl rfl ?_
   refine w_skipop rfl rfl rfl ?_
   refine w_skipop rfl rfl rfl ?_
   refine w_p (y_pickT (v := _) rfl rfl rfl rfl) rfl ?_
   refine w_p (y_move (v := .bool _) rfl rfl) rfl ?_
   refine w_skipop rfl rfl rfl ?_
   refine w_skipop rfl rfl rfl ?_
   refine w_skipop rfl rfl rfl ?_
   refine w_skipop rfl rfl rfl ?_
   refine w_p (y_pickT (v := _) rfl rfl rfl rfl) rfl ?_
   refine w_nil ?_
   refine q_then (hK11 _ _ ?_)
   refine w_condT rfl rfl ?_
   refine w_seq (fun K18 hK17 => ?_)
   refine w_region ?_
   refine w_p (y_assign (v := _) rfl rfl) rfl ?_
   refine w_nil ?_
   refine q_then (hK17 _ _ ?_)
   refine w_ret ?_
   refine q_then_ret ?_
   refine q_ret (l := [.tmp 4]) (vs := [_]) rfl ⟨⟨rfl, show _ = (.int _ _ : Value) from rfl⟩, trivial⟩ ?_
   first
     | exact ⟨congrArg (Value.int .i64) (own_7 (.inl (by assumption))).symm, hs15.tail.tail⟩
     | exact ⟨congrArg (Value.int .i64) (own_7 (.inr (.inl (by assumption)))).symm, hs15.tail.tail⟩
     | exact ⟨congrArg (Value.int .i64) (own_7 (.inr (.inr (by assumption)))).symm, hs15.tail.tail⟩
     | exact ⟨congrArg (Value.int .i64) (own_3 (by assumption) (by assumption) (by assumption) (by omega)).symm, hs15.tail.tail⟩
     | exact ⟨congrArg (Value.int .i64) (own_b (by assumption) (by assumption) (by assumption) (by omega) (by omega) (i := i) (by omega) (.inl (by assumption))).symm, hs15.tail.tail⟩
     | exact ⟨congrArg (Value.int .i64) (own_b (by assumption) (by assumption) (by assumption) (by omega) (by omega) (i := i) (by omega) (.inr (by assumption))).symm, hs15.tail.tail⟩
     | (have hil : i = b.hours.length := by omega
        subst hil
        exact ⟨congrArg (Value.int .i64) (own_0 (by assumption) (by assumption) (by assumption) (by omega) (by omega) ⟨hnz, hns⟩).symm, hs15.tail.tail⟩)
  ·
   try simp only [zA, zB, zC, zD, zE, zF] at h16
   refine w_y rfl rfl rfl (y_fieldAddr (o := 2) (i := 2) Try.underlying76 rfl Try.sizeOf3 rfl rfl rfl) rfl ?_
   refine w_y rfl rfl rfl (y_load1 Try.isAgg3 hs15 rfl rfl (ats_own (i := 0) (vs := [_]) rfl rfl)) rfl ?_
   refine w_call (want_yes rfl rfl rfl) Try.call59 rfl rfl rfl rfl (c59 _ _ _ hs15) ?_
   rintro _ w20 ⟨rfl, hs21⟩
   refine w_y rfl rfl rfl (y_not rfl rfl) rfl ?_
   refine w_p (y_pickF (v := .bool _) rfl rfl rfl rfl) rfl ?_
   refine w_p (y_move (v := .bool _) rfl rfl) rfl ?_
   refine w_split (fun h22 => ?_) (fun h22 => ?_)
   ·
    try simp only [zA, zB, zC, zD, zE, zF] at h22
    refine w_skipop rfl rfl rfl ?_
    refine w_skipop rfl rfl rfl ?_
    refine w_skipop rfl rfl rfl ?_
    refine w_skipop rfl rfl rfl ?_
    refine w_p (y_pickT (v := _) rfl rfl rfl rfl) rfl ?_
    refine w_nil ?_
    refine q_then (hK11 _ _ ?_)
    refine w_condT rfl rfl ?_
    refine w_seq (fun K24 hK23 => ?_)
    refine w_region ?_
    refine w_p (y_assign (v := _) rfl rfl) rfl ?_
    refine w_nil ?_
    refine q_then (hK23 _ _ ?_)
    refine w_ret ?_
    refine q_then_ret ?_
    refine q_ret (l := [.tmp 4]) (vs := [_]) rfl ⟨⟨rfl, show _ = (.int _ _ : Value) from rfl⟩, trivial⟩ ?_
    first
      | exact ⟨congrArg (Value.int .i64) (own_7 (.inl (by assumption))).symm, hs21.tail.tail⟩
      | exact ⟨congrArg (Value.int .i64) (own_7 (.inr (.inl (by assumption)))).symm, hs21.tail.tail⟩
      | exact ⟨congrArg (Value.int .i64) (own_7 (.inr (.inr (by assumption)))).symm, hs21.tail.tail⟩
      | exact ⟨congrArg (Value.int .i64) (own_3 (by assumption) (by assumption) (by assumption) (by omega)).symm, hs21.tail.tail⟩
      | exact ⟨congrArg (Value.int .i64) (own_b (by assumption) (by assumption) (by assumption) (by omega) (by omega) (i := i) (by omega) (.inl (by assumption))).symm, hs21.tail.tail⟩
      | exact ⟨congrArg (Value.int .i64) (own_b (by assumption) (by assumption) (by assumption) (by omega) (by omega) (i := i) (by omega) (.inr (by assumption))).symm, hs21.tail.tail⟩
      | (have hil : i = b.hours.length := by omega
         subst hil
         exact ⟨congrArg (Value.int .i64) (own_0 (by assumption) (by assumption) (by assumption) (by omega) (by omega) ⟨hnz, hns⟩).symm, hs21.tail.tail⟩)
   ·
    try simp only [zA, zB, zC, zD, zE, zF] at h22
    refine w_y rfl rfl rfl (y_fieldAddr (o := 3) (i := 3) Try.underlying76 rfl Try.sizeOf3 rfl rfl rfl) rfl ?_
    refine w_y rfl rfl rfl (y_load1 Try.isAgg3 hs21 rfl rfl (ats_own (i := 0) (vs := [_]) rfl rfl)) rfl ?_
    refine w_call (want_yes rfl rfl rfl) Try.call59 rfl rfl rfl rfl (c59 _ _ _ hs21) ?_
    rintro _ w26 ⟨rfl, hs27⟩
    refine w_y rfl rfl rfl (y_not rfl rfl) rfl ?_
    refine w_p (y_pickF (v := .bool _) rfl rfl rfl rfl) rfl ?_
    refine w_nil ?_
    refine q_then (hK11 _ _ ?_)
    refine w_cond rfl rfl (fun h28 => ?_) (fun h28 => ?_)
    ·
     try simp only [zA, zB, zC, zD, zE, zF] at h28
     refine w_seq (fun K30 hK29 => ?_)
     refine w_region ?_
     refine w_p (y_assign (v := _) rfl rfl) rfl ?_
     refine w_nil ?_
     refine q_then (hK29 _ _ ?_)
     refine w_ret ?_
     refine q_then_ret ?_
     refine q_ret (l := [.tmp 4]) (vs := [_]) rfl ⟨⟨rfl, show _ = (.int _ _ : Value) from rfl⟩, trivial⟩ ?_
     first
       | exact ⟨congrArg (Value.int .i64) (own_7 (.inl (by assumption))).symm, hs27.tail.tail⟩
       | exact ⟨congrArg (Value.int .i64) (own_7 (.inr (.inl (by assumption)))).symm, hs27.tail.tail⟩
       | exact ⟨congrArg (Value.int .i64) (own_7 (.inr (.inr (by assumption)))).symm, hs27.tail.tail⟩
       | exact ⟨congrArg (Value.int .i64) (own_3 (by assumption) (by assumption) (by assumption) (by omega)).symm, hs27.tail.tail⟩
       | exact ⟨congrArg (Value.int .i64) (own_b (by assumption) (by assumption) (by assumption) (by omega) (by omega) (i := i) (by omega) (.inl (by assumption))).symm, hs27.tail.tail⟩
       | exact ⟨congrArg (Value.int .i64) (own_b (by assumption) (by assumption) (by assumption) (by omega) (by omega) (i := i) (by omega) (.inr (by assumption))).symm, hs27.tail.tail⟩
       | (have hil : i = b.hours.length := by omega
          subst hil
          exact ⟨congrArg (Value.int .i64) (own_0 (by assumption) (by assumption) (by assumption) (by omega) (by omega) ⟨hnz, hns⟩).symm, hs27.tail.tail⟩)
    ·
     try simp only [zA, zB, zC, zD, zE, zF] at h28
     refine w_skip ?_
     refine q_then (hK9 _ _ ?_)
     refine w_seq (fun K32 hK31 => ?_)
     refine w_seq (fun K34 hK33 => ?_)
     refine w_region ?_
     refine w_p (y_fieldAddr (o := 4) (i := 4) Try.underlying76 rfl Try.sizeOf39 rfl rfl rfl) rfl ?_
     refine w_p (y_load1 Try.isAgg39 hs27 rfl rfl (ats_own (i := 0) (vs := [_]) rfl rfl)) rfl ?_
     refine w_p (y_lenS Try.underlying39 rfl rfl) rfl ?_
     refine w_p (y_fieldAddr (o := 1) (i := 1) Try.underlying25 rfl Try.sizeOf22 rfl rfl rfl) rfl ?_
     refine w_p (y_load1 Try.isAgg22 hs27 rfl rfl (ats_own (i := 1) (vs := [_]) rfl rfl)) rfl ?_
     refine w_p (y_lenS Try.underlying22 rfl rfl) rfl ?_
     refine w_p (y_neq rfl rfl rfl rfl) rfl ?_
     refine w_p (y_move (v := .bool _) rfl rfl) rfl ?_
     refine w_split (fun h35 => ?_) (fun h35 => ?_)
     ·
      try simp only [zA, zB, zC, zD, zE, zF] at h35
      refine w_skipop rfl rfl rfl ?_
      refine w_skipop rfl rfl rfl ?_
      refine w_skipop rfl rfl rfl ?_
      refine w_skipop rfl rfl rfl ?_
      refine w_skipop rfl rfl rfl ?_
      refine w_skipop rfl rfl rfl ?_
      refine w_skipop rfl rfl rfl ?_
      refine w_p (y_pickT (v := _) rfl rfl rfl rfl) rfl ?_
      refine w_nil ?_
      refine q_then (hK33 _ _ ?_)
      refine w_condT rfl rfl ?_
      refine w_seq (fun K37 hK36 => ?_)
      refine w_region ?_
      refine w_p (y_assign (v := _) rfl rfl) rfl ?_
      refine w_nil ?_
      refine q_then (hK36 _ _ ?_)
      refine w_ret ?_
      refine q_then_ret ?_
      refine q_ret (l := [.tmp 4]) (vs := [_]) rfl ⟨⟨rfl, show _ = (.int _ _ : Value) from rfl⟩, trivial⟩ ?_
      first
        | exact ⟨congrArg (Value.int .i64) (own_7 (.inl (by assumption))).symm, hs27.tail.tail⟩
        | exact ⟨congrArg (Value.int .i64) (own_7 (.inr (.inl (by assumption)))).symm, hs27.tail.tail⟩
        | exact ⟨congrArg (Value.int .i64) (own_7 (.inr (.inr (by assumption)))).symm, hs27.tail.tail⟩
        | exact ⟨congrArg (Value.int .i64) (own_3 (by assumption) (by assumption) (by assumption) (by omega)).symm, hs27.tail.tail⟩
        | exact ⟨congrArg (Value.int .i64) (own_b (by assumption) (by assumption) (by assumption) (by omega) (by omega) (i := i) (by omega) (.inl (by assumption))).symm, hs27.tail.tail⟩
        | exact ⟨congrArg (Value.int .i64) (own_b (by assumption) (by assumption) (by assumption) (by omega) (by omega) (i := i) (by omega) (.inr (by assumption))).symm, hs27.tail.tail⟩
        | (have hil : i = b.hours.length := by omega
           subst hil
           exact ⟨congrArg (Value.int .i64) (own_0 (by assumption) (by assumption) (by assumption) (by omega) (by omega) ⟨hnz, hns⟩).symm, hs27.tail.tail⟩)
     ·
      try simp only [zA, zB, zC, zD, zE, zF] at h35
      refine w_y rfl rfl rfl (y_fieldAddr (o := 5) (i := 5) Try.underlying76 rfl Try.sizeOf39 rfl rfl rfl) rfl ?_
      refine w_y rfl rfl rfl (y_load1 Try.isAgg39 hs27 rfl rfl (ats_own (i := 0) (vs := [_]) rfl rfl)) rfl ?_
      refine w_y rfl rfl rfl (y_lenS Try.underlying39 rfl rfl) rfl ?_
      refine w_y rfl rfl rfl (y_fieldAddr (o := 1) (i := 1) Try.underlying25 rfl Try.sizeOf22 rfl rfl rfl) rfl ?_
      refine w_y rfl rfl rfl (y_load1 Try.isAgg22 hs27 rfl rfl (ats_own (i := 1) (vs := [_]) rfl rfl)) rfl ?_
      refine w_y rfl rfl rfl (y_lenS Try.underlying22 rfl rfl) rfl ?_
      refine w_y rfl rfl rfl (y_neq rfl rfl rfl rfl) rfl ?_
      refine w_p (y_pickF (v := .bool _) rfl rfl rfl rfl) rfl ?_
      refine w_nil ?_
      refine q_then (hK33 _ _ ?_)
      refine w_cond rfl rfl (fun h38 => ?_) (fun h38 => ?_)
      ·
       try simp only [zA, zB, zC, zD, zE, zF] at h38
       refine w_seq (fun K40 hK39 => ?_)
       refine w_region ?_
       refine w_p (y_assign (v := _) rfl rfl) rfl ?_
       refine w_nil ?_
       refine q_then (hK39 _ _ ?_)
       refine w_ret ?_
       refine q_then_ret ?_
       refine q_ret (l := [.tmp 4]) (vs := [_]) rfl ⟨⟨rfl, show _ = (.int _ _ : Value) from rfl⟩, trivial⟩ ?_
       first
         | exact ⟨congrArg (Value.int .i64) (own_7 (.inl (by assumption))).symm, hs27.tail.tail⟩
         | exact ⟨congrArg (Value.int .i64) (own_7 (.inr (.inl (by assumption)))).symm, hs27.tail.tail⟩
         | exact ⟨congrArg (Value.int .i64) (own_7 (.inr (.inr (by assumption)))).symm, hs27.tail.tail⟩
         | exact ⟨congrArg (Value.int .i64) (own_3 (by assumption) (by assumption) (by assumption) (by omega)).symm, hs27.tail.tail⟩
         | exact ⟨congrArg (Value.int .i64) (own_b (by assumption) (by assumption) (by assumption) (by omega) (by omega) (i := i) (by omega) (.inl (by assumption))).symm, hs27.tail.tail⟩
         | exact ⟨congrArg (Value.int .i64) (own_b (by assumption) (by assumption) (by assumption) (by omega) (by omega) (i := i) (by omega) (.inr (by assumption))).symm, hs27.tail.tail⟩
         | (have hil : i = b.hours.length := by omega
            subst hil
            exact ⟨congrArg (Value.int .i64) (own_0 (by assumption) (by assumption) (by assumption) (by omega) (by omega) ⟨hnz, hns⟩).symm, hs27.tail.tail⟩)
      ·
       try simp only [zA, zB, zC, zD, zE, zF] at h38
       refine w_skip ?_
       refine q_then (hK31 _ _ ?_)
       refine w_seq (fun K42 hK41 => ?_)
       refine w_seq (fun K44 hK43 => ?_)
       refine w_region ?_
       refine w_p (y_assign (v := _) rfl rfl) rfl ?_
       refine w_nil ?_
       refine q_then (hK43 _ _ ?_)
       refine w_block ?_
       refine w_loop [4, 5, 38, 39, 40, 41, 42, 43, 44, 45, 46, 47, 48, 49, 50, 51, 52, 53, 54, 55, 56, 57, 58, 59, 60] [5] (fun k vs w => ∃ i : Nat, vs = [.int .i64 i] ∧ i ≤ c.zero.length ∧ k = c.zero.length - i ∧ (c.zero.take i).any (out 0 2) = false ∧ (c.shown.take i).any (out (-1) 99) = false ∧ St w0 w ((b6, blk 76 (c.cells pc)) :: (b3, blk 25 (b.cells p)) :: F)) (c.zero.length) ?_ ?_
       ·
        exact ⟨0, rfl, by omega, by omega, rfl, rfl, hs27⟩
       ·
        intro k vs μ w47 hI K46 hN45
        obtain ⟨i, rfl, hia, rfl, hnz, hns, hs⟩ := hI
        refine w_seq (fun K49 hK48 => ?_)
        refine w_seq (fun K51 hK50 => ?_)
        refine w_region ?_
        refine w_p (y_move (v := .int _ _) rfl rfl) rfl ?_
        refine w_p (y_fieldAddr (o := 4) (i := 4) Try.underlying76 rfl Try.sizeOf39 rfl rfl rfl) rfl ?_
        refine w_p (y_load1 Try.isAgg39 hs rfl rfl (ats_own (i := 0) (vs := [_]) rfl rfl)) rfl ?_
        refine w_p (y_lenS Try.underlying39 rfl rfl) rfl ?_
        refine w_p (y_lss rfl rfl rfl rfl) rfl ?_
        refine w_nil ?_
        refine q_then (hK50 _ _ ?_)
        refine w_cond rfl rfl (fun h52 => ?_) (fun h52 => ?_)
        ·
         try simp only [zA, zB, zC, zD, zE, zF] at h52
         refine w_skip ?_
         refine q_then (hK48 _ _ ?_)
         refine w_seq (fun K54 hK53 => ?_)
         refine w_block ?_
         refine w_seq (fun K56 hK55 => ?_)
         have hi2 : i < c.zero.length := by omega
         have hi3 : i < c.shown.length := by omega
         obtain ⟨bz, oz, hbz, hxz⟩ := sl_ints hz hi2
         obtain ⟨bw, ow, hbw, hxw⟩ := sl_ints hw hi3
         refine w_region ?_
         refine w_p (y_fieldAddr (o := 4) (i := 4) Try.underlying76 rfl Try.sizeOf39 rfl rfl rfl) rfl ?_
         refine w_p (yd_slice hbz (y_load1 Try.isAgg39 hs rfl rfl (ats_own (i := 0) (vs := [_]) rfl rfl))) rfl ?_
         refine w_p (y_move (v := .int _ _) rfl rfl) rfl ?_
         refine w_p (y_indexS Try.underlying39 Try.sizeOf3 rfl rfl rfl rfl (i := i) rfl hi2) rfl ?_
         refine w_p (y_load1 Try.isAgg3 hs.tail.tail rfl rfl hxz) rfl ?_
         refine w_call want_none Try.call59 rfl rfl rfl rfl (c59 _ _ _ hs) ?_
         rintro _ w58 ⟨rfl, hs59⟩
         refine w_p (y_not rfl rfl) rfl ?_
         refine w_p (y_move (v := .bool _) rfl rfl) rfl ?_
         refine w_split (fun h60 => ?_) (fun h60 => ?_)
         ·
          try simp only [zA, zB, zC, zD, zE, zF] at h60
          refine w_skipop rfl rfl rfl ?_
          refine w_skipop rfl rfl rfl ?_
          refine w_skipop rfl rfl rfl ?_
          refine w_skipop rfl rfl rfl ?_
          refine w_skipop rfl rfl rfl ?_
          refine w_skipop rfl rfl rfl ?_
          refine w_skipop rfl rfl rfl ?_
          refine w_p (y_pickT (v := _) rfl rfl rfl rfl) rfl ?_
          refine w_nil ?_
          refine q_then (hK55 _ _ ?_)
          refine w_condT rfl rfl ?_
          refine w_seq (fun K62 hK61 => ?_)
          refine w_region ?_
          refine w_p (y_assign (v := _) rfl rfl) rfl ?_
          refine w_nil ?_
          refine q_then (hK61 _ _ ?_)
          refine w_ret ?_
          refine q_blk_ret ?_
          refine q_then_ret ?_
          refine q_then_ret ?_
          refine q_blk_ret ?_
          refine q_then_ret ?_
          refine q_ret (l := [.tmp 4]) (vs := [_]) rfl ⟨⟨rfl, show _ = (.int _ _ : Value) from rfl⟩, trivial⟩ ?_
          first
            | exact ⟨congrArg (Value.int .i64) (own_7 (.inl (by assumption))).symm, hs59.tail.tail⟩
            | exact ⟨congrArg (Value.int .i64) (own_7 (.inr (.inl (by assumption)))).symm, hs59.tail.tail⟩
            | exact ⟨congrArg (Value.int .i64) (own_7 (.inr (.inr (by assumption)))).symm, hs59.tail.tail⟩
            | exact ⟨congrArg (Value.int .i64) (own_3 (by assumption) (by assumption) (by assumption) (by omega)).symm, hs59.tail.tail⟩
            | exact ⟨congrArg (Value.int .i64) (own_b (by assumption) (by assumption) (by assumption) (by omega) (by omega) (i := i) (by omega) (.inl (by assumption))).symm, hs59.tail.tail⟩
            | exact ⟨congrArg (Value.int .i64) (own_b (by assumption) (by assumption) (by assumption) (by omega) (by omega) (i := i) (by omega) (.inr (by assumption))).symm, hs59.tail.tail⟩
            | (have hil : i = b.hours.length := by omega
               subst hil
               exact ⟨congrArg (Value.int .i64) (own_0 (by assumption) (by assumption) (by assumption) (by omega) (by omega) ⟨hnz, hns⟩).symm, hs59.tail.tail⟩)
         ·
          try simp only [zA, zB, zC, zD, zE, zF] at h60
          refine w_y rfl rfl rfl (y_fieldAddr (o := 5) (i := 5) Try.underlying76 rfl Try.sizeOf39 rfl rfl rfl) rfl ?_
          refine w_y rfl rfl rfl (yd_slice hbw (y_load1 Try.isAgg39 hs59 rfl rfl (ats_own (i := 0) (vs := [_]) rfl rfl))) rfl ?_
          refine w_y rfl rfl rfl (y_move (v := .int _ _) rfl rfl) rfl ?_
          refine w_y rfl rfl rfl (y_indexS Try.underlying39 Try.sizeOf3 rfl rfl rfl rfl (i := i) rfl hi3) rfl ?_
          refine w_y rfl rfl rfl (y_load1 Try.isAgg3 hs59.tail.tail rfl rfl hxw) rfl ?_
          refine w_call (want_yes rfl rfl rfl) Try.call59 rfl rfl rfl rfl (c59 _ _ _ hs59) ?_
          rintro _ w64 ⟨rfl, hs65⟩
          refine w_y rfl rfl rfl (y_not rfl rfl) rfl ?_
          refine w_p (y_pickF (v := .bool _) rfl rfl rfl rfl) rfl ?_
          refine w_nil ?_
          refine q_then (hK55 _ _ ?_)
          refine w_cond rfl rfl (fun h66 => ?_) (fun h66 => ?_)
          ·
           try simp only [zA, zB, zC, zD, zE, zF] at h66
           refine w_seq (fun K68 hK67 => ?_)
           refine w_region ?_
           refine w_p (y_assign (v := _) rfl rfl) rfl ?_
           refine w_nil ?_
           refine q_then (hK67 _ _ ?_)
           refine w_ret ?_
           refine q_blk_ret ?_
           refine q_then_ret ?_
           refine q_then_ret ?_
           refine q_blk_ret ?_
           refine q_then_ret ?_
           refine q_ret (l := [.tmp 4]) (vs := [_]) rfl ⟨⟨rfl, show _ = (.int _ _ : Value) from rfl⟩, trivial⟩ ?_
           first
             | exact ⟨congrArg (Value.int .i64) (own_7 (.inl (by assumption))).symm, hs65.tail.tail⟩
             | exact ⟨congrArg (Value.int .i64) (own_7 (.inr (.inl (by assumption)))).symm, hs65.tail.tail⟩
             | exact ⟨congrArg (Value.int .i64) (own_7 (.inr (.inr (by assumption)))).symm, hs65.tail.tail⟩
             | exact ⟨congrArg (Value.int .i64) (own_3 (by assumption) (by assumption) (by assumption) (by omega)).symm, hs65.tail.tail⟩
             | exact ⟨congrArg (Value.int .i64) (own_b (by assumption) (by assumption) (by assumption) (by omega) (by omega) (i := i) (by omega) (.inl (by assumption))).symm, hs65.tail.tail⟩
             | exact ⟨congrArg (Value.int .i64) (own_b (by assumption) (by assumption) (by assumption) (by omega) (by omega) (i := i) (by omega) (.inr (by assumption))).symm, hs65.tail.tail⟩
             | (have hil : i = b.hours.length := by omega
                subst hil
                exact ⟨congrArg (Value.int .i64) (own_0 (by assumption) (by assumption) (by assumption) (by omega) (by omega) ⟨hnz, hns⟩).symm, hs65.tail.tail⟩)
          ·
           try simp only [zA, zB, zC, zD, zE, zF] at h66
           refine w_skip ?_
           refine q_blk_normal ?_
           refine q_then (hK53 _ _ ?_)
           refine w_region ?_
           refine w_p (y_move (v := .int _ _) rfl rfl) rfl ?_
           refine w_p (y_add rfl rfl rfl rfl (by omega) (by omega)) rfl ?_
           refine w_p (y_assign (v := .int _ _) rfl rfl) rfl ?_
           refine w_nil ?_
           refine q_then (hN45 _ _ (Nx.intro (c.zero.length - (i + 1)) (by omega) (by repeat (first | exact agree_mix | refine agree_upd rfl ?_ | refine agree_updL rfl ?_ _ | refine agree_mixin rfl ?_)) ?_))
           exact ⟨i + 1, rfl, by omega, rfl, any_snoc hi2 hnz (by assumption), any_snoc hi3 hns (by assumption), hs65⟩
        ·
         try simp only [zA, zB, zC, zD, zE, zF] at h52
         refine w_exit ?_
         refine q_then_exit ?_
         refine q_then_exit ?_
         refine q_blk_this ?_
         refine q_then (hK41 _ _ ?_)
         refine w_seq (fun K70 hK69 => ?_)
         refine w_region ?_
         refine w_p (y_assign (v := _) rfl rfl) rfl ?_
         refine w_nil ?_
         refine q_then (hK69 _ _ ?_)
         refine w_ret ?_
         refine q_ret (l := [.tmp 4]) (vs := [_]) rfl ⟨⟨rfl, show _ = (.int _ _ : Value) from rfl⟩, trivial⟩ ?_
         first
           | exact ⟨congrArg (Value.int .i64) (own_7 (.inl (by assumption))).symm, hs.tail.tail⟩
           | exact ⟨congrArg (Value.int .i64) (own_7 (.inr (.inl (by assumption)))).symm, hs.tail.tail⟩
           | exact ⟨congrArg (Value.int .i64) (own_7 (.inr (.inr (by assumption)))).symm, hs.tail.tail⟩
           | exact ⟨congrArg (Value.int .i64) (own_3 (by assumption) (by assumption) (by assumption) (by omega)).symm, hs.tail.tail⟩
           | exact ⟨congrArg (Value.int .i64) (own_b (by assumption) (by assumption) (by assumption) (by omega) (by omega) (i := i) (by omega) (.inl (by assumption))).symm, hs.tail.tail⟩
           | exact ⟨congrArg (Value.int .i64) (own_b (by assumption) (by assumption) (by assumption) (by omega) (by omega) (i := i) (by omega) (.inr (by assumption))).symm, hs.tail.tail⟩
           | (have hil : i = b.hours.length := by omega
              subst hil
              exact ⟨congrArg (Value.int .i64) (own_0 (by assumption) (by assumption) (by assumption) (by omega) (by omega) ⟨hnz, hns⟩).symm, hs.tail.tail⟩)

theorem c17 {w0 w : World} {F : List (Nat × Obj)} (b : Board) (p : AtB) (hm : BIn w0 F b p)  (hs : St w0 w F) :
  Con Try.prog 17 [.agg (b.cells p).toArray] w fun v w' => v = .tuple #[.int .i64 (check b).1, .int .i64 (check b).2.1, .int .i64 (check b).2.2] ∧ St w0 w' F := by
  refine con_of_wc (n := 77) Try.func17 rfl rfl (Nat.le_of_ble_eq_true rfl) ?_
  have hlh := hm.lh
  have hlc := hm.lc
  refine w_seq (fun K2 hK1 => ?_)
  refine w_region ?_
  refine w_box (v := .agg #[.int _ _, .slice _ _ _, .slice _ _ _]) (cs := [_, _, _]) want_none rfl rfl rfl hs (fun b3 w4 hs5 => ?_)
  refine w_p (y_assign (v := _) rfl rfl) rfl ?_
  refine w_p (y_assign (v := _) rfl rfl) rfl ?_
  refine w_p (y_assign (v := _) rfl rfl) rfl ?_
  refine w_nil ?_
  refine q_then (hK1 _ _ ?_)
  refine w_seq (fun K7 hK6 => ?_)
  refine w_seq (fun K9 hK8 => ?_)
  refine w_region ?_
  refine w_p (y_fieldAddr (o := 0) (i := 0) Try.underlying25 rfl Try.sizeOf3 rfl rfl rfl) rfl ?_
  refine w_p (y_load1 Try.isAgg3 hs5 rfl rfl (ats_own (i := 0) (vs := [_]) rfl rfl)) rfl ?_
  refine w_call want_none Try.call59 rfl rfl rfl rfl (c59 _ _ _ hs5) ?_
  rintro _ w11 ⟨rfl, hs12⟩
  refine w_p (y_not rfl rfl) rfl ?_
  refine w_nil ?_
  refine q_then (hK8 _ _ ?_)
  refine w_cond rfl rfl (fun h13 => ?_) (fun h13 => ?_)
  ·
   try simp only [zA, zB, zC, zD, zE, zF] at h13
   refine w_seq (fun K15 hK14 => ?_)
   refine w_region ?_
   refine w_p (y_assign (v := _) rfl rfl) rfl ?_
   refine w_p (y_assign (v := _) rfl rfl) rfl ?_
   refine w_p (y_assign (v := _) rfl rfl) rfl ?_
   refine w_nil ?_
   refine q_then (hK14 _ _ ?_)
   refine w_ret ?_
   refine q_then_ret ?_
   refine q_ret (l := [.tmp 2, .tmp 3, .tmp 4]) (vs := [_, _, _]) rfl ⟨⟨rfl, show _ = (.int _ _ : Value) from rfl⟩, ⟨rfl, show _ = (.int _ _ : Value) from rfl⟩, ⟨rfl, show _ = (.int _ _ : Value) from rfl⟩, trivial⟩ ?_
   first
     | contradiction
     | exact ⟨tup3 (chk_1 (by assumption)), hs12.tail⟩
     | exact ⟨tup3 (chk_h (by assumption) (fail_most (by omega)) (by decide)), hs12.tail⟩
     | (refine ⟨tup3 (chk_h (by assumption) ((fail_go (by omega)).trans (hinv.trans (firstE_stop hi2 (by assumption)))) (by assumption)), hs12.tail⟩)
     | exact ⟨tup3 (chk_c (by assumption) (by rw [fail_go (by omega), hhe]) (fail_most (by omega)) (by decide)), hs12.tail⟩
     | (refine ⟨tup3 (chk_c (by assumption) (by rw [fail_go (by omega), hhe]) ((fail_go (by omega)).trans (hinv.trans ((firstE_stop hi2 ?_).trans ?_))) ?_), hs12.tail⟩
        · rw [ctrE_no (by assumption)]; assumption
        · rw [ctrE_no (by assumption)]
        · assumption)
     | (refine ⟨tup3 (chk_c (by assumption) (by rw [fail_go (by omega), hhe]) ((fail_go (by omega)).trans (hinv.trans ((firstE_stop hi2 ?_).trans ?_))) ?_), hs12.tail⟩
        · rw [ctrE_yes (by assumption)]; assumption
        · rw [ctrE_yes (by assumption)]
        · assumption)
     | exact ⟨tup3 (chk_0 (by assumption) (by rw [fail_go (by omega), hhe]) (by rw [fail_go (by omega), hinv.trans (firstE_end (by omega) _)])), hs12.tail⟩
  ·
   try simp only [zA, zB, zC, zD, zE, zF] at h13
   refine w_skip ?_
   refine q_then (hK6 _ _ ?_)
   refine w_seq (fun K17 hK16 => ?_)
   refine w_seq (fun K19 hK18 => ?_)
   refine w_region ?_
   refine w_p (y_fieldAddr (o := 1) (i := 1) Try.underlying25 rfl Try.sizeOf22 rfl rfl rfl) rfl ?_
   refine w_p (y_load1 Try.isAgg22 hs12 rfl rfl (ats_own (i := 0) (vs := [_]) rfl rfl)) rfl ?_
   refine w_p (y_lenS Try.underlying22 rfl rfl) rfl ?_
   refine w_p (y_gtr rfl rfl rfl rfl) rfl ?_
   refine w_nil ?_
   refine q_then (hK18 _ _ ?_)
   refine w_cond rfl rfl (fun h20 => ?_) (fun h20 => ?_)
   ·
    try simp only [zA, zB, zC, zD, zE, zF] at h20
    refine w_seq (fun K22 hK21 => ?_)
    refine w_region ?_
    refine w_p (y_assign (v := _) rfl rfl) rfl ?_
    refine w_p (y_assign (v := _) rfl rfl) rfl ?_
    refine w_p (y_assign (v := _) rfl rfl) rfl ?_
    refine w_nil ?_
    refine q_then (hK21 _ _ ?_)
    refine w_ret ?_
    refine q_then_ret ?_
    refine q_ret (l := [.tmp 2, .tmp 3, .tmp 4]) (vs := [_, _, _]) rfl ⟨⟨rfl, show _ = (.int _ _ : Value) from rfl⟩, ⟨rfl, show _ = (.int _ _ : Value) from rfl⟩, ⟨rfl, show _ = (.int _ _ : Value) from rfl⟩, trivial⟩ ?_
    first
      | contradiction
      | exact ⟨tup3 (chk_1 (by assumption)), hs12.tail⟩
      | exact ⟨tup3 (chk_h (by assumption) (fail_most (by omega)) (by decide)), hs12.tail⟩
      | (refine ⟨tup3 (chk_h (by assumption) ((fail_go (by omega)).trans (hinv.trans (firstE_stop hi2 (by assumption)))) (by assumption)), hs12.tail⟩)
      | exact ⟨tup3 (chk_c (by assumption) (by rw [fail_go (by omega), hhe]) (fail_most (by omega)) (by decide)), hs12.tail⟩
      | (refine ⟨tup3 (chk_c (by assumption) (by rw [fail_go (by omega), hhe]) ((fail_go (by omega)).trans (hinv.trans ((firstE_stop hi2 ?_).trans ?_))) ?_), hs12.tail⟩
         · rw [ctrE_no (by assumption)]; assumption
         · rw [ctrE_no (by assumption)]
         · assumption)
      | (refine ⟨tup3 (chk_c (by assumption) (by rw [fail_go (by omega), hhe]) ((fail_go (by omega)).trans (hinv.trans ((firstE_stop hi2 ?_).trans ?_))) ?_), hs12.tail⟩
         · rw [ctrE_yes (by assumption)]; assumption
         · rw [ctrE_yes (by assumption)]
         · assumption)
      | exact ⟨tup3 (chk_0 (by assumption) (by rw [fail_go (by omega), hhe]) (by rw [fail_go (by omega), hinv.trans (firstE_end (by omega) _)])), hs12.tail⟩
   ·
    try simp only [zA, zB, zC, zD, zE, zF] at h20
    refine w_skip ?_
    refine q_then (hK16 _ _ ?_)
    refine w_seq (fun K24 hK23 => ?_)
    refine w_seq (fun K26 hK25 => ?_)
    refine w_region ?_
    refine w_p (y_assign (v := _) rfl rfl) rfl ?_
    refine w_nil ?_
    refine q_then (hK25 _ _ ?_)
    refine w_block ?_
    refine w_loop [2, 3, 4, 5, 6, 18, 19, 20, 21, 22, 23, 24, 25, 26, 27, 28, 29, 30, 31, 32, 33, 34, 35] [5] (fun k vs w => ∃ (i : Nat), vs = [.int .i64 i] ∧ i ≤ b.hours.length ∧ k = b.hours.length - i ∧ firstE (hourE b.holds) [] 0 b.hours = firstE (hourE b.holds) (b.hours.take i) i (b.hours.drop i) ∧ St w0 w ((b3, blk 25 (b.cells p)) :: F)) (b.hours.length) ?_ ?_
    ·
     exact ⟨0, rfl, by omega, by omega, rfl, hs12⟩
    ·
     intro k vs μ w29 hI K28 hN27
     obtain ⟨i, rfl, hia, rfl, hinv, hs⟩ := hI
     refine w_seq (fun K31 hK30 => ?_)
     refine w_seq (fun K33 hK32 => ?_)
     refine w_region ?_
     refine w_p (y_move (v := .int _ _) rfl rfl) rfl ?_
     refine w_p (y_fieldAddr (o := 1) (i := 1) Try.underlying25 rfl Try.sizeOf22 rfl rfl rfl) rfl ?_
     refine w_p (y_load1 Try.isAgg22 hs rfl rfl (ats_own (i := 0) (vs := [_]) rfl rfl)) rfl ?_
     refine w_p (y_lenS Try.underlying22 rfl rfl) rfl ?_
     refine w_p (y_lss rfl rfl rfl rfl) rfl ?_
     refine w_nil ?_
     refine q_then (hK32 _ _ ?_)
     refine w_cond rfl rfl (fun h34 => ?_) (fun h34 => ?_)
     ·
      try simp only [zA, zB, zC, zD, zE, zF] at h34
      refine w_skip ?_
      refine q_then (hK30 _ _ ?_)
      refine w_seq (fun K36 hK35 => ?_)
      refine w_block ?_
      refine w_seq (fun K38 hK37 => ?_)
      have hi2 : i < b.hours.length := by omega
      obtain ⟨bx, ox, hbx, hx⟩ := sl_hrows hm.h hi2
      refine w_draw [] [(0, 1), (1, 0), (2, 1), (3, 0), (4, 0), (5, 1), (6, 2), (7, 0)] Try_mo (drawOK_of (by kernel_rfl)) hs (fun w39 hs40 => ?_)
      refine d_take rfl want_none rfl hs40 (fun _ hq => (y_loadN (vs := [_, _, _]) Try.isAgg25 Try.sizeOf25 hq rfl rfl (ats_own (i := 0) (vs := [_, _, _]) rfl rfl))) ?_
      refine d_any rfl want_none rfl (fun _ => (y_fieldAddr (o := 1) (i := 1) Try.underlying25 rfl Try.sizeOf22 rfl rfl rfl)) ?_
      refine d_take rfl want_none rfl hs40 (fun _ hq => (yd_slice hbx (y_load1 Try.isAgg22 hq rfl rfl (ats_own (i := 0) (vs := [_]) rfl rfl)))) ?_
      refine d_any rfl want_none rfl (fun _ => (y_move (v := .int _ _) rfl rfl)) ?_
      refine d_any rfl want_none rfl (fun _ => (y_indexS Try.underlying22 Try.sizeOf70 rfl rfl rfl rfl (i := i) rfl hi2)) ?_
      refine d_take rfl want_none rfl hs40 (fun _ hq => (y_loadN (vs := [_, _, _]) Try.isAgg70 Try.sizeOf70 hq.tail rfl rfl hx)) ?_
      refine d_eff rfl ?_
      refine w_call want_none Try.call60 rfl rfl rfl rfl (c60 b p (by assumption) b.hours[i] (b.hours.take i) hs40) ?_
      rintro _ w42 ⟨rfl, hs43⟩
      refine w_nil ?_
      refine qn ⟨hs43, ?_⟩
      refine d_any rfl want_none rfl (fun _ => (y_assign (v := .int _ _) rfl rfl)) ?_
      refine d_nil ?_
      refine q_then (hK37 _ _ ?_)
      refine w_seq (fun K45 hK44 => ?_)
      refine w_region ?_
      refine w_p (y_move (v := .int _ _) rfl rfl) rfl ?_
      refine w_p (y_neq rfl rfl rfl rfl) rfl ?_
      refine w_nil ?_
      refine q_then (hK44 _ _ ?_)
      refine w_cond rfl rfl (fun h46 => ?_) (fun h46 => ?_)
      ·
       try simp only [zA, zB, zC, zD, zE, zF] at h46
       refine w_seq (fun K48 hK47 => ?_)
       refine w_region ?_
       refine w_p (y_move (v := .int _ _) rfl rfl) rfl ?_
       refine w_p (y_move (v := .int _ _) rfl rfl) rfl ?_
       refine w_p (y_assign (v := _) rfl rfl) rfl ?_
       refine w_p (y_assign (v := .int _ _) rfl rfl) rfl ?_
       refine w_p (y_assign (v := .int _ _) rfl rfl) rfl ?_
       refine w_nil ?_
       refine q_then (hK47 _ _ ?_)
       refine w_ret ?_
       refine q_blk_ret ?_
       refine q_then_ret ?_
       refine q_then_ret ?_
       refine q_blk_ret ?_
       refine q_then_ret ?_
       refine q_ret (l := [.tmp 2, .tmp 3, .tmp 4]) (vs := [_, _, _]) rfl ⟨⟨rfl, show _ = (.int _ _ : Value) from rfl⟩, ⟨rfl, show _ = (.int _ _ : Value) from rfl⟩, ⟨rfl, show _ = (.int _ _ : Value) from rfl⟩, trivial⟩ ?_
       first
         | contradiction
         | exact ⟨tup3 (chk_1 (by assumption)), hs43.tail⟩
         | exact ⟨tup3 (chk_h (by assumption) (fail_most (by omega)) (by decide)), hs43.tail⟩
         | (refine ⟨tup3 (chk_h (by assumption) ((fail_go (by omega)).trans (hinv.trans (firstE_stop hi2 (by assumption)))) (by assumption)), hs43.tail⟩)
         | exact ⟨tup3 (chk_c (by assumption) (by rw [fail_go (by omega), hhe]) (fail_most (by omega)) (by decide)), hs43.tail⟩
         | (refine ⟨tup3 (chk_c (by assumption) (by rw [fail_go (by omega), hhe]) ((fail_go (by omega)).trans (hinv.trans ((firstE_stop hi2 ?_).trans ?_))) ?_), hs43.tail⟩
            · rw [ctrE_no (by assumption)]; assumption
            · rw [ctrE_no (by assumption)]
            · assumption)
         | (refine ⟨tup3 (chk_c (by assumption) (by rw [fail_go (by omega), hhe]) ((fail_go (by omega)).trans (hinv.trans ((firstE_stop hi2 ?_).trans ?_))) ?_), hs43.tail⟩
            · rw [ctrE_yes (by assumption)]; assumption
            · rw [ctrE_yes (by assumption)]
            · assumption)
         | exact ⟨tup3 (chk_0 (by assumption) (by rw [fail_go (by omega), hhe]) (by rw [fail_go (by omega), hinv.trans (firstE_end (by omega) _)])), hs43.tail⟩
      ·
       try simp only [zA, zB, zC, zD, zE, zF] at h46
       refine w_skip ?_
       refine q_blk_normal ?_
       refine q_then (hK35 _ _ ?_)
       refine w_region ?_
       refine w_p (y_move (v := .int _ _) rfl rfl) rfl ?_
       refine w_p (y_add rfl rfl rfl rfl (by omega) (by omega)) rfl ?_
       refine w_p (y_assign (v := .int _ _) rfl rfl) rfl ?_
       refine w_nil ?_
       refine q_then (hN27 _ _ (Nx.intro (b.hours.length - (i + 1)) (by omega) (by repeat (first | exact agree_mix | refine agree_upd rfl ?_ | refine agree_updL rfl ?_ _ | refine agree_mixin rfl ?_)) ?_))
       exact ⟨i + 1, rfl, by omega, rfl, hinv.trans (firstE_step hi2 (by assumption)), hs43⟩
     ·
      try simp only [zA, zB, zC, zD, zE, zF] at h34
      refine w_exit ?_
      refine q_then_exit ?_
      refine q_then_exit ?_
      refine q_blk_this ?_
      refine q_then (hK23 _ _ ?_)
      refine w_seq (fun K50 hK49 => ?_)
      refine w_seq (fun K52 hK51 => ?_)
      have hhe : firstE (hourE b.holds) [] 0 b.hours = (0, 0) := hinv.trans (firstE_end (by omega) _)
      clear hinv
      refine w_region ?_
      refine w_p (y_fieldAddr (o := 2) (i := 2) Try.underlying25 rfl Try.sizeOf23 rfl rfl rfl) rfl ?_
      refine w_p (y_load1 Try.isAgg23 hs rfl rfl (ats_own (i := 0) (vs := [_]) rfl rfl)) rfl ?_
      refine w_p (y_lenS Try.underlying23 rfl rfl) rfl ?_
      refine w_p (y_gtr rfl rfl rfl rfl) rfl ?_
      refine w_nil ?_
      refine q_then (hK51 _ _ ?_)
      refine w_cond rfl rfl (fun h53 => ?_) (fun h53 => ?_)
      ·
       try simp only [zA, zB, zC, zD, zE, zF] at h53
       refine w_seq (fun K55 hK54 => ?_)
       refine w_region ?_
       refine w_p (y_assign (v := _) rfl rfl) rfl ?_
       refine w_p (y_assign (v := _) rfl rfl) rfl ?_
       refine w_p (y_assign (v := _) rfl rfl) rfl ?_
       refine w_nil ?_
       refine q_then (hK54 _ _ ?_)
       refine w_ret ?_
       refine q_then_ret ?_
       refine q_ret (l := [.tmp 2, .tmp 3, .tmp 4]) (vs := [_, _, _]) rfl ⟨⟨rfl, show _ = (.int _ _ : Value) from rfl⟩, ⟨rfl, show _ = (.int _ _ : Value) from rfl⟩, ⟨rfl, show _ = (.int _ _ : Value) from rfl⟩, trivial⟩ ?_
       first
         | contradiction
         | exact ⟨tup3 (chk_1 (by assumption)), hs.tail⟩
         | exact ⟨tup3 (chk_h (by assumption) (fail_most (by omega)) (by decide)), hs.tail⟩
         | (refine ⟨tup3 (chk_h (by assumption) ((fail_go (by omega)).trans (hinv.trans (firstE_stop hi2 (by assumption)))) (by assumption)), hs.tail⟩)
         | exact ⟨tup3 (chk_c (by assumption) (by rw [fail_go (by omega), hhe]) (fail_most (by omega)) (by decide)), hs.tail⟩
         | (refine ⟨tup3 (chk_c (by assumption) (by rw [fail_go (by omega), hhe]) ((fail_go (by omega)).trans (hinv.trans ((firstE_stop hi2 ?_).trans ?_))) ?_), hs.tail⟩
            · rw [ctrE_no (by assumption)]; assumption
            · rw [ctrE_no (by assumption)]
            · assumption)
         | (refine ⟨tup3 (chk_c (by assumption) (by rw [fail_go (by omega), hhe]) ((fail_go (by omega)).trans (hinv.trans ((firstE_stop hi2 ?_).trans ?_))) ?_), hs.tail⟩
            · rw [ctrE_yes (by assumption)]; assumption
            · rw [ctrE_yes (by assumption)]
            · assumption)
         | exact ⟨tup3 (chk_0 (by assumption) (by rw [fail_go (by omega), hhe]) (by rw [fail_go (by omega), hinv.trans (firstE_end (by omega) _)])), hs.tail⟩
      ·
       try simp only [zA, zB, zC, zD, zE, zF] at h53
       refine w_skip ?_
       refine q_then (hK49 _ _ ?_)
       refine w_seq (fun K57 hK56 => ?_)
       refine w_region ?_
       refine w_p (y_assign (v := _) rfl rfl) rfl ?_
       refine w_nil ?_
       refine q_then (hK56 _ _ ?_)
       refine w_seq (fun K59 hK58 => ?_)
       refine w_seq (fun K61 hK60 => ?_)
       refine w_region ?_
       refine w_p (y_assign (v := _) rfl rfl) rfl ?_
       refine w_nil ?_
       refine q_then (hK60 _ _ ?_)
       refine w_block ?_
       refine w_loop [2, 3, 4, 7, 8, 9, 40, 41, 42, 43, 44, 45, 46, 47, 48, 49, 50, 51, 52, 53, 54, 55, 56, 57, 58, 59, 60, 61, 62, 63, 64, 65, 66, 67, 68, 69, 70, 71, 72, 73, 74, 75, 76] [7, 8] (fun k vs w => ∃ (i : Nat) (v : Value) (B : List (Nat × Obj)), vs = [v, .int .i64 i] ∧ i ≤ b.ctrs.length ∧ k = b.ctrs.length - i ∧ firstE (ctrE b.hours.length) [] 0 b.ctrs = firstE (ctrE b.hours.length) (b.ctrs.take i) i (b.ctrs.drop i) ∧ Rt.Own v 9 1 i (((b.ctrs.take i).map (·.name)).map Value.string) B ∧ St w0 w ((b3, blk 25 (b.cells p)) :: (B ++ F))) (b.ctrs.length) ?_ ?_
       ·
        exact ⟨0, _, [], rfl, by omega, by omega, rfl, own_nil 9 1, hs⟩
       ·
        intro k vs μ w64 hI K63 hN62
        clear hia
        obtain ⟨i, v, B, rfl, hia, rfl, hinv, hown, hs⟩ := hI
        refine w_seq (fun K66 hK65 => ?_)
        refine w_seq (fun K68 hK67 => ?_)
        refine w_region ?_
        refine w_p (y_move (v := .int _ _) rfl rfl) rfl ?_
        refine w_p (y_fieldAddr (o := 2) (i := 2) Try.underlying25 rfl Try.sizeOf23 rfl rfl rfl) rfl ?_
        refine w_p (y_load1 Try.isAgg23 hs rfl rfl (ats_own (i := 0) (vs := [_]) rfl rfl)) rfl ?_
        refine w_p (y_lenS Try.underlying23 rfl rfl) rfl ?_
        refine w_p (y_lss rfl rfl rfl rfl) rfl ?_
        refine w_nil ?_
        refine q_then (hK67 _ _ ?_)
        refine w_cond rfl rfl (fun h69 => ?_) (fun h69 => ?_)
        ·
         try simp only [zA, zB, zC, zD, zE, zF] at h69
         refine w_skip ?_
         refine q_then (hK65 _ _ ?_)
         refine w_seq (fun K71 hK70 => ?_)
         refine w_block ?_
         refine w_seq (fun K73 hK72 => ?_)
         have hi2 : i < b.ctrs.length := by omega
         have hn2 := knames_len hia
         obtain ⟨bx, ox, hbx, hx⟩ := sl_krows hm.c hi2
         obtain ⟨an, cn, rfl, hsn⟩ := own_sl_map (w0 := w0) hown hn2 F
         have hnl : ((b.ctrs.take i).map (·.name)).length ≤ 1000000 := by omega
         refine w_region ?_
         refine w_p (y_fieldAddr (o := 2) (i := 2) Try.underlying25 rfl Try.sizeOf23 rfl rfl rfl) rfl ?_
         refine w_p (yd_slice hbx (y_load1 Try.isAgg23 hs rfl rfl (ats_own (i := 0) (vs := [_]) rfl rfl))) rfl ?_
         refine w_p (y_move (v := .int _ _) rfl rfl) rfl ?_
         refine w_p (y_indexS Try.underlying23 Try.sizeOf76 rfl rfl rfl rfl (i := i) rfl hi2) rfl ?_
         refine w_p (y_fieldAddr (o := 0) (i := 0) Try.underlying76 rfl Try.sizeOf9 rfl rfl rfl) rfl ?_
         refine w_p (y_load1 Try.isAgg9 hs.tail.drop rfl rfl (show Ats _ _ _ _ [_] from Ats.part hx 0 1)) rfl ?_
         refine w_p (y_move (v := .slice _ _ _) rfl rfl) rfl ?_
         refine w_call want_none Try.call61 rfl rfl rfl rfl ((c61 _ _ _ _ (hm.nm _ (List.getElem_mem hi2)) (by omega) hsn.cons hs).mono (fun v w2 h => (show v = .int .i64 (freshE b.ctrs[i].name ((b.ctrs.take i).map (·.name))) ∧ _ from h))) ?_
         rintro _ w75 ⟨rfl, hs76⟩
         refine w_p (y_assign (v := .int _ _) rfl rfl) rfl ?_
         refine w_nil ?_
         refine q_then (hK72 _ _ ?_)
         refine w_seq (fun K78 hK77 => ?_)
         refine w_region ?_
         refine w_p (y_move (v := .slice _ _ _) rfl rfl) rfl ?_
         refine w_p (y_fieldAddr (o := 2) (i := 2) Try.underlying25 rfl Try.sizeOf23 rfl rfl rfl) rfl ?_
         refine w_p (yd_slice hbx (y_load1 Try.isAgg23 hs76 rfl rfl (ats_own (i := 0) (vs := [_]) rfl rfl))) rfl ?_
         refine w_p (y_move (v := .int _ _) rfl rfl) rfl ?_
         refine w_p (y_indexS Try.underlying23 Try.sizeOf76 rfl rfl rfl rfl (i := i) rfl hi2) rfl ?_
         refine w_p (y_fieldAddr (o := 0) (i := 0) Try.underlying76 rfl Try.sizeOf9 rfl rfl rfl) rfl ?_
         refine w_p (y_load1 Try.isAgg9 hs76.tail.drop rfl rfl (show Ats _ _ _ _ [_] from Ats.part hx 0 1)) rfl ?_
         refine w_bslice (ps := [(0, _)]) (pv := [(0, .string _)]) (cs := [_]) want_none rfl rfl (fun w => Try_S_fb4 _ w) hs76 (fun b79 w80 hs81 => ?_)
         refine w_append (X := (_ :: _ :: [])) (B := B) (rows := [[_]]) (sz := 1) (bytes := 16) want_none Try.underlying92 Try_info9 rfl rfl rfl rfl rfl rfl rfl rfl rfl hs81 hown (sl_own (i := 0) rfl (by simp) rfl) rfl (by simp) (by simp [Value.oneCell']) (by simp only [maxLen]; omega) (by omega) (fun v82 w83 B84 ho85 hs86 => ?_)
         replace hs86 := (show St _ _ (_ :: _ :: B84 ++ (F)) from hs86)
         refine w_p (y_assign (v := v82) rfl rfl) rfl ?_
         refine w_nil ?_
         refine q_then (hK77 _ _ ?_)
         refine w_seq (fun K88 hK87 => ?_)
         refine w_seq (fun K90 hK89 => ?_)
         refine w_region ?_
         refine w_p (y_move (v := .int _ _) rfl rfl) rfl ?_
         refine w_p (y_eql rfl rfl rfl rfl) rfl ?_
         refine w_nil ?_
         refine q_then (hK89 _ _ ?_)
         refine w_cond rfl rfl (fun h91 => ?_) (fun h91 => ?_)
         ·
          try simp only [zA, zB, zC, zD, zE, zF] at h91
          refine w_draw [] [(0, 1), (1, 0), (2, 1), (3, 0), (4, 0), (5, 1), (6, 2), (7, 0)] Try_mo (drawOK_of (by kernel_rfl)) hs86 (fun w92 hs93 => ?_)
          refine d_take rfl want_none rfl hs93 (fun _ hq => (y_loadN (vs := [_, _, _]) Try.isAgg25 Try.sizeOf25 hq rfl rfl (ats_own (i := 1) (vs := [_, _, _]) rfl rfl))) ?_
          refine d_any rfl want_none rfl (fun _ => (y_fieldAddr (o := 2) (i := 2) Try.underlying25 rfl Try.sizeOf23 rfl rfl rfl)) ?_
          refine d_take rfl want_none rfl hs93 (fun _ hq => (yd_slice hbx (y_load1 Try.isAgg23 hq rfl rfl (ats_own (i := 1) (vs := [_]) rfl rfl)))) ?_
          refine d_any rfl want_none rfl (fun _ => (y_move (v := .int _ _) rfl rfl)) ?_
          refine d_any rfl want_none rfl (fun _ => (y_indexS Try.underlying23 Try.sizeOf76 rfl rfl rfl rfl (i := i) rfl hi2)) ?_
          refine d_take rfl want_none rfl hs93 (fun _ hq => (y_loadN (vs := [_, _, _, _, _, _]) Try.isAgg76 Try.sizeOf76 hq.tail.tail.drop rfl rfl hx)) ?_
          refine d_eff rfl ?_
          refine w_call want_none Try.call62 rfl rfl rfl rfl (c62 b p b.ctrs[i] (p.pc i) (by omega) (hm.lz i hi2).1 (hm.ls i hi2).1 (hm.z i hi2).app.cons.cons (hm.s i hi2).app.cons.cons hs93) ?_
          rintro _ w95 ⟨rfl, hs96⟩
          refine w_nil ?_
          refine qn ⟨hs96, ?_⟩
          refine d_any rfl want_none rfl (fun _ => (y_assign (v := .int _ _) rfl rfl)) ?_
          refine d_nil ?_
          refine q_then (hK87 _ _ ?_)
          refine w_seq (fun K98 hK97 => ?_)
          refine w_region ?_
          refine w_p (y_move (v := .int _ _) rfl rfl) rfl ?_
          refine w_p (y_neq rfl rfl rfl rfl) rfl ?_
          refine w_nil ?_
          refine q_then (hK97 _ _ ?_)
          refine w_cond rfl rfl (fun h99 => ?_) (fun h99 => ?_)
          ·
           try simp only [zA, zB, zC, zD, zE, zF] at h99
           refine w_seq (fun K101 hK100 => ?_)
           refine w_region ?_
           refine w_p (y_move (v := .int _ _) rfl rfl) rfl ?_
           refine w_p (y_move (v := .int _ _) rfl rfl) rfl ?_
           refine w_p (y_assign (v := _) rfl rfl) rfl ?_
           refine w_p (y_assign (v := .int _ _) rfl rfl) rfl ?_
           refine w_p (y_assign (v := .int _ _) rfl rfl) rfl ?_
           refine w_nil ?_
           refine q_then (hK100 _ _ ?_)
           refine w_ret ?_
           refine q_blk_ret ?_
           refine q_then_ret ?_
           refine q_then_ret ?_
           refine q_blk_ret ?_
           refine q_then_ret ?_
           refine q_ret (l := [.tmp 2, .tmp 3, .tmp 4]) (vs := [_, _, _]) rfl ⟨⟨rfl, show _ = (.int _ _ : Value) from rfl⟩, ⟨rfl, show _ = (.int _ _ : Value) from rfl⟩, ⟨rfl, show _ = (.int _ _ : Value) from rfl⟩, trivial⟩ ?_
           first
             | contradiction
             | exact ⟨tup3 (chk_1 (by assumption)), hs96.tail.tail.drop⟩
             | exact ⟨tup3 (chk_h (by assumption) (fail_most (by omega)) (by decide)), hs96.tail.tail.drop⟩
             | (refine ⟨tup3 (chk_h (by assumption) ((fail_go (by omega)).trans (hinv.trans (firstE_stop hi2 (by assumption)))) (by assumption)), hs96.tail.tail.drop⟩)
             | exact ⟨tup3 (chk_c (by assumption) (by rw [fail_go (by omega), hhe]) (fail_most (by omega)) (by decide)), hs96.tail.tail.drop⟩
             | (refine ⟨tup3 (chk_c (by assumption) (by rw [fail_go (by omega), hhe]) ((fail_go (by omega)).trans (hinv.trans ((firstE_stop hi2 ?_).trans ?_))) ?_), hs96.tail.tail.drop⟩
                · rw [ctrE_no (by assumption)]; assumption
                · rw [ctrE_no (by assumption)]
                · assumption)
             | (refine ⟨tup3 (chk_c (by assumption) (by rw [fail_go (by omega), hhe]) ((fail_go (by omega)).trans (hinv.trans ((firstE_stop hi2 ?_).trans ?_))) ?_), hs96.tail.tail.drop⟩
                · rw [ctrE_yes (by assumption)]; assumption
                · rw [ctrE_yes (by assumption)]
                · assumption)
             | exact ⟨tup3 (chk_0 (by assumption) (by rw [fail_go (by omega), hhe]) (by rw [fail_go (by omega), hinv.trans (firstE_end (by omega) _)])), hs96.tail.tail.drop⟩
          ·
           try simp only [zA, zB, zC, zD, zE, zF] at h99
           refine w_skip ?_
           refine q_blk_normal ?_
           refine q_then (hK70 _ _ ?_)
           refine w_region ?_
           refine w_p (y_move (v := .int _ _) rfl rfl) rfl ?_
           refine w_p (y_add rfl rfl rfl rfl (by omega) (by omega)) rfl ?_
           refine w_p (y_assign (v := .int _ _) rfl rfl) rfl ?_
           refine w_nil ?_
           refine q_then (hN62 _ _ (Nx.intro (b.ctrs.length - (i + 1)) (by omega) (by repeat (first | exact agree_mix | refine agree_upd rfl ?_ | refine agree_updL rfl ?_ _ | refine agree_mixin rfl ?_)) ?_))
           first
             | contradiction
             | exact ⟨i + 1, _, _, rfl, by omega, rfl, hinv.trans (firstE_step hi2 (by rw [ctrE_yes (by assumption)]; assumption)), by rw [← knames_snoc hi2]; exact ho85, hs96.tail⟩
         ·
          try simp only [zA, zB, zC, zD, zE, zF] at h91
          refine w_skip ?_
          refine q_then (hK87 _ _ ?_)
          refine w_seq (fun K103 hK102 => ?_)
          refine w_region ?_
          refine w_p (y_move (v := .int _ _) rfl rfl) rfl ?_
          refine w_p (y_neq rfl rfl rfl rfl) rfl ?_
          refine w_nil ?_
          refine q_then (hK102 _ _ ?_)
          refine w_cond rfl rfl (fun h104 => ?_) (fun h104 => ?_)
          ·
           try simp only [zA, zB, zC, zD, zE, zF] at h104
           refine w_seq (fun K106 hK105 => ?_)
           refine w_region ?_
           refine w_p (y_move (v := .int _ _) rfl rfl) rfl ?_
           refine w_p (y_move (v := .int _ _) rfl rfl) rfl ?_
           refine w_p (y_assign (v := _) rfl rfl) rfl ?_
           refine w_p (y_assign (v := .int _ _) rfl rfl) rfl ?_
           refine w_p (y_assign (v := .int _ _) rfl rfl) rfl ?_
           refine w_nil ?_
           refine q_then (hK105 _ _ ?_)
           refine w_ret ?_
           refine q_blk_ret ?_
           refine q_then_ret ?_
           refine q_then_ret ?_
           refine q_blk_ret ?_
           refine q_then_ret ?_
           refine q_ret (l := [.tmp 2, .tmp 3, .tmp 4]) (vs := [_, _, _]) rfl ⟨⟨rfl, show _ = (.int _ _ : Value) from rfl⟩, ⟨rfl, show _ = (.int _ _ : Value) from rfl⟩, ⟨rfl, show _ = (.int _ _ : Value) from rfl⟩, trivial⟩ ?_
           first
             | contradiction
             | exact ⟨tup3 (chk_1 (by assumption)), hs86.tail.tail.drop⟩
             | exact ⟨tup3 (chk_h (by assumption) (fail_most (by omega)) (by decide)), hs86.tail.tail.drop⟩
             | (refine ⟨tup3 (chk_h (by assumption) ((fail_go (by omega)).trans (hinv.trans (firstE_stop hi2 (by assumption)))) (by assumption)), hs86.tail.tail.drop⟩)
             | exact ⟨tup3 (chk_c (by assumption) (by rw [fail_go (by omega), hhe]) (fail_most (by omega)) (by decide)), hs86.tail.tail.drop⟩
             | (refine ⟨tup3 (chk_c (by assumption) (by rw [fail_go (by omega), hhe]) ((fail_go (by omega)).trans (hinv.trans ((firstE_stop hi2 ?_).trans ?_))) ?_), hs86.tail.tail.drop⟩
                · rw [ctrE_no (by assumption)]; assumption
                · rw [ctrE_no (by assumption)]
                · assumption)
             | (refine ⟨tup3 (chk_c (by assumption) (by rw [fail_go (by omega), hhe]) ((fail_go (by omega)).trans (hinv.trans ((firstE_stop hi2 ?_).trans ?_))) ?_), hs86.tail.tail.drop⟩
                · rw [ctrE_yes (by assumption)]; assumption
                · rw [ctrE_yes (by assumption)]
                · assumption)
             | exact ⟨tup3 (chk_0 (by assumption) (by rw [fail_go (by omega), hhe]) (by rw [fail_go (by omega), hinv.trans (firstE_end (by omega) _)])), hs86.tail.tail.drop⟩
          ·
           try simp only [zA, zB, zC, zD, zE, zF] at h104
           refine w_skip ?_
           refine q_blk_normal ?_
           refine q_then (hK70 _ _ ?_)
           refine w_region ?_
           refine w_p (y_move (v := .int _ _) rfl rfl) rfl ?_
           refine w_p (y_add rfl rfl rfl rfl (by omega) (by omega)) rfl ?_
           refine w_p (y_assign (v := .int _ _) rfl rfl) rfl ?_
           refine w_nil ?_
           refine q_then (hN62 _ _ (Nx.intro (b.ctrs.length - (i + 1)) (by omega) (by repeat (first | exact agree_mix | refine agree_upd rfl ?_ | refine agree_updL rfl ?_ _ | refine agree_mixin rfl ?_)) ?_))
           first
             | contradiction
             | exact ⟨i + 1, _, _, rfl, by omega, rfl, hinv.trans (firstE_step hi2 (by rw [ctrE_yes (by assumption)]; assumption)), by rw [← knames_snoc hi2]; exact ho85, hs86.tail⟩
        ·
         try simp only [zA, zB, zC, zD, zE, zF] at h69
         refine w_exit ?_
         refine q_then_exit ?_
         refine q_then_exit ?_
         refine q_blk_this ?_
         refine q_then (hK58 _ _ ?_)
         refine w_seq (fun K108 hK107 => ?_)
         refine w_region ?_
         refine w_p (y_assign (v := _) rfl rfl) rfl ?_
         refine w_p (y_assign (v := _) rfl rfl) rfl ?_
         refine w_p (y_assign (v := _) rfl rfl) rfl ?_
         refine w_nil ?_
         refine q_then (hK107 _ _ ?_)
         refine w_ret ?_
         refine q_ret (l := [.tmp 2, .tmp 3, .tmp 4]) (vs := [_, _, _]) rfl ⟨⟨rfl, show _ = (.int _ _ : Value) from rfl⟩, ⟨rfl, show _ = (.int _ _ : Value) from rfl⟩, ⟨rfl, show _ = (.int _ _ : Value) from rfl⟩, trivial⟩ ?_
         first
           | contradiction
           | exact ⟨tup3 (chk_1 (by assumption)), hs.tail.drop⟩
           | exact ⟨tup3 (chk_h (by assumption) (fail_most (by omega)) (by decide)), hs.tail.drop⟩
           | (refine ⟨tup3 (chk_h (by assumption) ((fail_go (by omega)).trans (hinv.trans (firstE_stop hi2 (by assumption)))) (by assumption)), hs.tail.drop⟩)
           | exact ⟨tup3 (chk_c (by assumption) (by rw [fail_go (by omega), hhe]) (fail_most (by omega)) (by decide)), hs.tail.drop⟩
           | (refine ⟨tup3 (chk_c (by assumption) (by rw [fail_go (by omega), hhe]) ((fail_go (by omega)).trans (hinv.trans ((firstE_stop hi2 ?_).trans ?_))) ?_), hs.tail.drop⟩
              · rw [ctrE_no (by assumption)]; assumption
              · rw [ctrE_no (by assumption)]
              · assumption)
           | (refine ⟨tup3 (chk_c (by assumption) (by rw [fail_go (by omega), hhe]) ((fail_go (by omega)).trans (hinv.trans ((firstE_stop hi2 ?_).trans ?_))) ?_), hs.tail.drop⟩
              · rw [ctrE_yes (by assumption)]; assumption
              · rw [ctrE_yes (by assumption)]
              · assumption)
           | exact ⟨tup3 (chk_0 (by assumption) (by rw [fail_go (by omega), hhe]) (by rw [fail_go (by omega), hinv.trans (firstE_end (by omega) _)])), hs.tail.drop⟩

end Go.Proofs
/- Plain laws of maps as lists: what is left of a range, values that are ints. No conditions. -/
set_option linter.unusedSimpArgs false
set_option linter.unusedVariables false
set_option linter.unusedSectionVars false
namespace Go.Rt
open Go.RowKit
section
variable {α : Type} [DecidableEq α]
/-- How many entries have not been handed out. -/
def remN (es : List (α × Value × Nat)) (seen : Array Nat) : Nat := (es.filter fun r => !decide (r.2.2 ∈ seen.toList)).length
theorem rem_zero (es : List (α × Value × Nat)) : remN es #[] = es.length := by
  unfold remN
  rw [List.filter_eq_self.2 (by intro a _; simp)]
theorem rem_le (es : List (α × Value × Nat)) (seen : Array Nat) : remN es seen ≤ es.length := List.length_filter_le _ _
theorem rem_push : ∀ {es : List (α × Value × Nat)} {seen : Array Nat} {q : α × Value × Nat}, (es.map (·.2.2)).Nodup → q ∈ es → q.2.2 ∉ seen.toList → remN es (seen.push q.2.2) + 1 = remN es seen
  | [], _, _, _, h, _ => by cases h
  | x :: es, seen, q, hn, hq, hs => by
    rw [List.map_cons, List.nodup_cons] at hn
    have hnot : ∀ r ∈ es, r.2.2 ≠ x.2.2 := fun r hr e => hn.1 (by rw [← e]; exact List.mem_map_of_mem (f := fun r : α × Value × Nat => r.2.2) hr)
    unfold remN
    by_cases e : q.2.2 = x.2.2
    · have h1 : (es.filter fun r => !decide (r.2.2 ∈ (seen.push q.2.2).toList)) = es.filter fun r => !decide (r.2.2 ∈ seen.toList) := by
        refine List.filter_congr fun r hr => ?_
        have := hnot r hr
        rw [← e] at this
        simp [this]
      rw [List.filter_cons, List.filter_cons, if_neg (by simp [e]), if_pos (by rw [← e]; simpa using hs), h1, List.length_cons]
    · have hq2 : q ∈ es := by
        rcases List.mem_cons.1 hq with rfl | h
        · exact absurd rfl e
        · exact h
      have ih := rem_push hn.2 hq2 hs
      unfold remN at ih
      have hx : (!decide (x.2.2 ∈ (seen.push q.2.2).toList)) = !decide (x.2.2 ∈ seen.toList) := by
        have : x.2.2 ≠ q.2.2 := fun h => e h.symm
        simp [this]
      rw [List.filter_cons, List.filter_cons, hx]
      split
      · rw [List.length_cons, List.length_cons]; omega
      · exact ih
/-- The entries that have been handed out, with one more. -/
theorem seen_push {es : List (α × Value × Nat)} {seen : Array Nat} {q : α × Value × Nat} (hn : (es.map (·.2.2)).Nodup) (hq : q ∈ es) (G : α → Prop) :
    (∃ r ∈ es, r.2.2 ∈ (seen.push q.2.2).toList ∧ G r.1) ↔ (∃ r ∈ es, r.2.2 ∈ seen.toList ∧ G r.1) ∨ G q.1 := by
  have inj : ∀ {es : List (α × Value × Nat)}, (es.map (·.2.2)).Nodup → ∀ a ∈ es, ∀ b ∈ es, a.2.2 = b.2.2 → a = b := by
    intro es
    induction es with
    | nil => intro _ a h; cases h
    | cons x es ih =>
      intro hn a ha b hb e
      rw [List.map_cons, List.nodup_cons] at hn
      have hnot : ∀ r ∈ es, r.2.2 ≠ x.2.2 := fun r hr e => hn.1 (by rw [← e]; exact List.mem_map_of_mem (f := fun r : α × Value × Nat => r.2.2) hr)
      rcases List.mem_cons.1 ha with ea | ha2
      · rcases List.mem_cons.1 hb with eb | hb2
        · rw [ea, eb]
        · exact absurd (by rw [← ea]; exact e.symm) (hnot b hb2)
      · rcases List.mem_cons.1 hb with eb | hb2
        · exact absurd (by rw [← eb]; exact e) (hnot a ha2)
        · exact ih hn.2 a ha2 b hb2 e
  constructor
  · rintro ⟨r, hr, hs, hG⟩
    rw [Array.toList_push, List.mem_append, List.mem_singleton] at hs
    rcases hs with hs | hs
    · exact .inl ⟨r, hr, hs, hG⟩
    · right
      have := inj hn r hr q hq hs
      subst this; exact hG
  · rintro (⟨r, hr, hs, hG⟩ | hG)
    · exact ⟨r, hr, by rw [Array.toList_push]; exact List.mem_append_left _ hs, hG⟩
    · exact ⟨q, hq, by simp, hG⟩
/-- A map's value that is an int; 0 where there is none. -/
def valA (a : α) (l : List (α × Value × Nat)) : Int := match getA a l with | some (.int _ z) => z | _ => 0
/-- A map's values are ints, from 0 to a number. -/
def IntsTo (B : Int) (l : List (α × Value × Nat)) : Prop := ∀ q ∈ l, ∃ z : Int, q.2.1 = .int .i64 z ∧ 0 ≤ z ∧ z ≤ B
theorem getA_in {a : α} {u : Value} : ∀ {l : List (α × Value × Nat)}, getA a l = some u → ∃ q ∈ l, q.1 = a ∧ q.2.1 = u
  | [], h => by simp [getA] at h
  | q :: l, h => by
    by_cases e : q.1 = a
    · simp only [getA, if_pos e] at h
      exact ⟨q, .head _, e, by simpa using h⟩
    · simp only [getA, if_neg e] at h
      obtain ⟨x, hx, h1, h2⟩ := getA_in h
      exact ⟨x, .tail _ hx, h1, h2⟩
theorem valA_in {B : Int} {l : List (α × Value × Nat)} (h : IntsTo B l) (hB : 0 ≤ B) (a : α) : 0 ≤ valA a l ∧ valA a l ≤ B := by
  unfold valA
  cases hg : getA a l with
  | none => exact ⟨Int.le_refl _, hB⟩
  | some u =>
    obtain ⟨q, hq, _, h2⟩ := getA_in hg
    obtain ⟨z, h3, h4⟩ := h q hq
    rw [← h2, h3]; exact h4
theorem IntsTo.put {B B' : Int} {l : List (α × Value × Nat)} (h : IntsTo B l) (hB : B ≤ B') {a : α} {z : Int} (hz : 0 ≤ z ∧ z ≤ B') (ck : Nat) : IntsTo B' (putA a (.int .i64 z) ck l) := by
  intro q hq
  rcases mem_putA hq with ⟨_, h2⟩ | h2
  · exact ⟨z, h2, hz⟩
  · obtain ⟨y, h3, h4⟩ := h q h2
    exact ⟨y, h3, by omega⟩
theorem IntsTo.le {B B' : Int} {l : List (α × Value × Nat)} (h : IntsTo B l) (hB : B ≤ B') : IntsTo B' l := fun q hq => by
  obtain ⟨y, h3, h4⟩ := h q hq
  exact ⟨y, h3, by omega⟩
end
/-- So many numbers, each once, from 0 to below a number. -/
theorem nodup_bound : ∀ (n : Nat) (l : List Int), l.Nodup → (∀ z ∈ l, 0 ≤ z ∧ z < (n : Int)) → l.length ≤ n
  | 0, l, _, h => by
    cases l with
    | nil => simp
    | cons z l => have := h z (.head _); omega
  | n + 1, l, hn, h => by
    by_cases hm : (n : Int) ∈ l
    · have h1 := nodup_bound n (l.erase n) (hn.erase _) fun z hz => by
        have h2 := List.mem_of_mem_erase hz
        have h3 := h z h2
        have h4 : z ≠ (n : Int) := fun e => by
          subst e
          exact (List.Nodup.not_mem_erase hn) hz
        omega
      have h2 := List.length_erase_of_mem hm
      have h3 : 0 < l.length := List.length_pos_of_mem hm
      omega
    · have := nodup_bound n l hn fun z hz => by
        have h3 := h z hz
        have : z ≠ (n : Int) := fun e => hm (e ▸ hz)
        omega
      omega
section
variable {P : Program} {n : Nat} {ρ : Nat → Value} {ds : List Deferred} {w w0 : World} {L : List (Nat × Obj)} {d : Option Tmp} {ty : TypeId} {p : String} {e : Array Edge} {g : Option (Nat × Bool)} {α : Type} [DecidableEq α] {kv : α → Value} {ok : α → Prop}
/-- A lookup in a map of ints. -/
theorem G_lookI {mt kt el : TypeId} {x y : Operand} {a : α} {l : List (α × Value × Nat)} {m i ck : Nat} {B : Int} (hU : P.underlying mt = some (.map kt el)) (hK : KeyG P kt kv ok) (hok : ok a) (hall : ∀ q ∈ l, ok q.1) (hB : IntsTo B l)
    (hz : ∀ w, (zeroValue el).run P w = .ok (.int .i64 0) w) (hst : St w0 w L) (ho : okO n x = true) (ho1 : okO n y = true) (hx : ev ρ x = .map (some m)) (hy : ev ρ y = kv a) (hi : L[i]? = some (m, .map (ents kv l).toArray ck)) :
    Yd P (A n ρ ds) ⟨d, .lookup mt x y false, ty, p, e, g⟩ w (.int .i64 (valA a l)) := by
  cases hg : getA a l with
  | none =>
    have := G_look1N (d := d) (ty := ty) (p := p) (e := e) (g := g) (ds := ds) hU hK hok hall hz hst ho ho1 hx hy hi hg
    unfold valA; rw [hg]; exact this
  | some u =>
    have := G_look1S (d := d) (ty := ty) (p := p) (e := e) (g := g) (ds := ds) hU hK hok hall hst ho ho1 hx hy hi hg
    obtain ⟨q, hq, _, h2⟩ := getA_in hg
    obtain ⟨z, h3, _⟩ := hB q hq
    unfold valA; rw [hg, ← h2, h3]
    rw [← h2, h3] at this
    exact this
end
end Go.Rt
/- The walking engine, part 20: lookups in maps whose values are told by their keys. No conditions. -/
set_option linter.unusedSimpArgs false
set_option linter.unusedVariables false
set_option linter.unusedSectionVars false
namespace Go.Rt
open Go.RowKit
variable {P : Program} {n : Nat} {ρ : Nat → Value} {ds : List Deferred} {w w0 : World} {L : List (Nat × Obj)} {d : Option Tmp} {ty : TypeId} {p : String} {e : Array Edge} {g : Option (Nat × Bool)} {α : Type} [DecidableEq α] {kv : α → Value} {ok : α → Prop}
theorem getA_key {a : α} {l : List (α × Value × Nat)} : getA a l = none ↔ a ∉ l.map (·.1) := by
  rw [getA_none]
  constructor
  · intro h hm
    obtain ⟨q, hq, e⟩ := List.mem_map.1 hm
    exact h q hq e
  · intro h q hq e
    exact h (e ▸ List.mem_map_of_mem (f := fun x : α × Value × Nat => x.1) hq)
/-- A lookup in a map whose values are told by their keys, and by the zero where there is none. -/
theorem G_look2V {mt kt el : TypeId} {x y : Operand} {a : α} {l : List (α × Value × Nat)} {m i ck : Nat} (V : α → Value) (hU : P.underlying mt = some (.map kt el)) (hK : KeyG P kt kv ok) (hok : ok a) (hall : ∀ q ∈ l, ok q.1) (hV : ∀ q ∈ l, q.2.1 = V q.1)
    (hz : a ∉ l.map (·.1) → ∀ w, (zeroValue el).run P w = .ok (V a) w) (hst : St w0 w L) (ho : okO n x = true) (ho1 : okO n y = true) (hx : ev ρ x = .map (some m)) (hy : ev ρ y = kv a) (hi : L[i]? = some (m, .map (ents kv l).toArray ck)) :
    Yd P (A n ρ ds) ⟨d, .lookup mt x y true, ty, p, e, g⟩ w (.tuple #[V a, .bool (decide (a ∈ l.map (·.1)))]) := by
  cases hg : getA a l with
  | none =>
    have hn := getA_key.1 hg
    have := G_look2N (d := d) (ty := ty) (p := p) (e := e) (g := g) (ds := ds) hU hK hok hall (hz hn) hst ho ho1 hx hy hi hg
    rw [decide_eq_false hn]; exact this
  | some u =>
    have := G_look2S (d := d) (ty := ty) (p := p) (e := e) (g := g) (ds := ds) hU hK hok hall hst ho ho1 hx hy hi hg
    obtain ⟨q, hq, h1, h2⟩ := getA_in hg
    have hm : a ∈ l.map (·.1) := h1 ▸ List.mem_map_of_mem (f := fun x : α × Value × Nat => x.1) hq
    rw [decide_eq_true hm]
    have h3 := hV q hq
    rw [h1] at h3
    rw [← h3, h2]; exact this
/-- Keys that are arrays of ints. -/
theorem keyTy_array {t el : TypeId} {k : Nat} (hu : P.underlying t = some (.array k el)) (hel : P.underlying el = some (.int .i64)) (hs : ∀ w, (sizeOf el).run P w = .ok 1 w) (hf : flatInts P t k = true) : KeyTy P t k where
  chk := fun em l w hl => by
    unfold ia
    exact run_checkKey (dd := 9998) hu (by first | simpa using hl | omega) hel hs
  eq := fun l m w hl hm => by
    show (Op.equalIn (9998 + 2) t (ia l) (ia m)).run P w = _
    exact run_equal_flat 9998 (by rw [hl]; exact hf) (by rw [hl, hm])
  desc := by
    refine ⟨_, hu, fun l e es => ?_, fun l w => ?_⟩
    · simp [Instr.findNow, Instr.sameNow]
    · simp [Instr.findKey, Sem.run_bind, run_underlying hu, Result.andThen, Instr.findNow]
theorem y_remT {t t2 : TypeId} {x y : Operand} {k : IntKind} {a b : Int} (ho : okO n x = true) (ho1 : okO n y = true) (hx : ev ρ x = .int k a) (hy : ev ρ y = .int k b) (hb : 0 < b) :
    Yd P (A n ρ ds) ⟨d, .binOp .rem t x y t2, ty, p, e, g⟩ w (.int k (Int.tmod a b)) := y_bin ho ho1 hx hy fun w => by
  have : b ≠ 0 := by omega
  simp [binOp_rem, Op.intDiv, this]
/-- One cell of one row set anew. -/
theorem flat_set {sz k : Nat} {v : Value} (hk : k < sz) : ∀ {rows : List (List Value)} {i : Nat}, (∀ row ∈ rows, row.length = sz) → (hi : i < rows.length) → rows.flatten.set (i * sz + k) v = (rows.set i (rows[i].set k v)).flatten
  | r :: rows, 0, hr, _ => by
    have h1 := hr r (.head _)
    simp only [List.flatten_cons, List.set_cons_zero, List.getElem_cons_zero, Nat.zero_mul, Nat.zero_add]
    rw [List.set_append_left _ _ (by omega)]
  | r :: rows, i + 1, hr, hi => by
    have h1 := hr r (.head _)
    simp only [List.flatten_cons, List.set_cons_succ, List.getElem_cons_succ]
    rw [List.set_append_right _ _ (by rw [h1, Nat.succ_mul]; omega), h1, show (i + 1) * sz + k - sz = i * sz + k by rw [Nat.succ_mul]; omega]
    rw [flat_set hk (fun x hx => hr x (.tail _ hx)) (by simpa using hi)]
theorem take_cell {cs : List Value} {rows : List (List Value)} {n sz i k : Nat} {v : Value} (hk : k < sz) (hr : ∀ row ∈ rows, row.length = sz) (hi : i < rows.length) (h : cs.take (n * sz) = rows.flatten) : (cs.set (i * sz + k) v).take (n * sz) = (rows.set i (rows[i].set k v)).flatten := by
  rw [List.take_set, h, flat_set hk hr hi]
theorem own_some2 {t : TypeId} {sz n c : Nat} {a : Option Addr} {xs : List Value} {B : List (Nat × Obj)} (h : Own (.slice a n c) t sz n xs B) (hn : 0 < n) : ∃ b cs, a = some ⟨b, 0, none⟩ ∧ B = [(b, blk t cs)] ∧ n ≤ c ∧ c ≤ maxLen ∧ cs.length = c * sz ∧ cs.take (n * sz) = xs := by
  rcases h.2 with ⟨_, h0, _⟩ | ⟨b, cap, cs, h1, h2, h3, h4, h5, h6⟩
  · omega
  · injection h1 with e1 _ e3
    subst e3
    exact ⟨b, cs, e1, h2, h3, h4, h5, h6⟩
theorem own_mk {t : TypeId} {sz n c b : Nat} {xs cs : List Value} (hl : xs.length = n * sz) (h3 : n ≤ c) (h4 : c ≤ maxLen) (h5 : cs.length = c * sz) (h6 : cs.take (n * sz) = xs) : Own (.slice (some ⟨b, 0, none⟩) n c) t sz n xs [(b, blk t cs)] := ⟨hl, .inr ⟨b, c, cs, rfl, rfl, h3, h4, h5, h6⟩⟩
end Go.Rt
/- Walks of this seat, printed by gen.py over the engine: what each function returns, in whatever world. No conditions but those of each contract. -/
set_option linter.unusedVariables false
set_option linter.unusedSimpArgs false
set_option maxRecDepth 20000
namespace Go.Proofs
open Go.Rt Go.Rt.Ch
open Go.Rt.Ha (firstE firstE_step firstE_stop firstE_end failE nameE felt spanL upto span_mem listL fewest fewTo bit before fewStep drop_lt drop_get drop_next drop_done drop_notin set_take set_zero take_less)
attribute [local irreducible] WL WC Con Yd At Ats Sl Agree DW
theorem Try_T_fb5 (x0 : Int) (x1 : Int) (x2 : Bool) (w : World) : (Instr.build 144 [(0, .int .i64 x0), (1, .int .i64 x1), (2, .bool x2)].toArray).run Try.prog w = .ok (.agg #[.int .i64 x0, .int .i64 x1, .bool x2]) w := by kernel_rfl
theorem Try_T_fb6 (x0 : Int) (x1 : Int) (x2 : Bool) (w : World) : (Instr.buildSlice 141 1 [(0, .agg #[.int .i64 x0, .int .i64 x1, .bool x2])].toArray).run Try.prog w = .ok (.slice (some ⟨w.heap.size, 0, none⟩) 1 1) (w.alloc (Go.Rt.blk 144 [.int .i64 x0, .int .i64 x1, .bool x2])) := by kernel_rfl
theorem Try_info144 : Try.prog.info? 144 = some Try.t144 := by kernel_rfl
theorem srows_row (load : Int) (l : List Ch.Way) : ∀ row ∈ srows load l, row.length = 3 := by intro row h; obtain ⟨q, _, rfl⟩ := List.mem_map.1 h; rfl
theorem own_stp {v : Value} {load sh e : Int} {z : Bool} {l : List Ch.Way} {x : Ch.Way} {B : List (Nat × Obj)} (h : Rt.Own v 144 3 (l.length + 1) ((srows load l).flatten ++ [[Value.int .i64 sh, .int .i64 e, .bool z]].flatten) B) (h1 : sh = x.shows) (h2 : e = x.counts - load) (h3 : z = x.zero) : Rt.Own v 144 3 (l ++ [x]).length (srows load (l ++ [x])).flatten B := by
  subst h1 h2 h3
  rw [List.length_append]
  have e : (srows load (l ++ [x])).flatten = (srows load l).flatten ++ [srow load x].flatten := by simp [srows]
  rw [e]; exact h
theorem sl_srows {w0 : World} {F : List (Nat × Obj)} {a : Option Addr} {load : Int} {l : List Ch.Way} {i : Nat} (h : Sl w0 F a 3 (srows load l)) (hi : i < l.length) : ∃ b off, a = some ⟨b, off, none⟩ ∧ Ats w0 F b (off + i * 3) (srow load l[i]) := by
  obtain ⟨b, off, ha, _, hat⟩ := h.at (i := i) (row := srow load l[i]) (by simp [srows, hi])
  exact ⟨b, off, ha, hat⟩
theorem sl_boolsR {w0 : World} {F : List (Nat × Obj)} {a : Option Addr} {l : List Bool} {i : Nat} (h : Sl w0 F a 1 (l.map fun x => [Value.bool x])) (hi : i < l.length) : ∃ b off, a = some ⟨b, off, none⟩ ∧ Ats w0 F b (off + i * 1) [.bool l[i]] := by
  obtain ⟨b, off, ha, _, hat⟩ := h.at (i := i) (row := [.bool l[i]]) (by simp [hi])
  exact ⟨b, off, ha, hat⟩
theorem bools_rows (l : List Bool) : (l.map fun x => [Value.bool x]).flatten = bvs l := by induction l with | nil => rfl | cons x l ih => simp only [List.map_cons, List.flatten_cons, ih]; rfl
theorem sl_bools {w0 : World} {L : List (Nat × Obj)} {i b : Nat} {t : TypeId} {l : List Bool} (hi : L[i]? = some (b, blk t (bvs l))) : Sl w0 L (some ⟨b, 0, none⟩) 1 (l.map fun x => [Value.bool x]) :=
  sl_own hi (by intro row hr; obtain ⟨x, _, rfl⟩ := List.mem_map.1 hr; rfl) (by rw [bools_rows, List.length_map, Nat.mul_one, List.take_of_length_le (by rw [bvs_len]; exact Nat.le_refl _)])
theorem any_id {l : List Bool} {i : Nat} (hi : i < l.length) : ((l.take (i + 1)).any fun x => x) = (((l.take i).any fun x => x) || l[i]) := by rw [List.take_succ_eq_append_getElem hi, List.any_append]; simp
theorem bi2 {a b : Bool} {c d : Int} (h : a = b) (k : c = d) : [Value.bool a, Value.int .i64 c] = [Value.bool b, Value.int .i64 d] := by rw [h, k]
theorem c101 {w0 w : World} {F : List (Nat × Obj)} (c : Ctr) (pc : AtC) (n : Nat) (hok : c.Ok n) (hz : Sl w0 F pc.az 1 (c.zero.map fun x => [Value.int .i64 x])) (hw : Sl w0 F pc.as 1 (c.shown.map fun x => [Value.int .i64 x])) (a : Nat) (ha : a < n) (s load : Int) (hs1 : 0 ≤ s ∧ s < 100) (hl : 0 ≤ load ∧ load ≤ 40) (hs : St w0 w F) :
  Con Try.prog 101 [.agg (c.cells pc).toArray, .int .i64 s, .int .i64 (a : Int), .int .i64 load] w fun v w' => ∃ x cap B, v = .slice x (stepsC c a s load).length cap ∧ Sl w0 B x 3 (srows load (stepsC c a s load)) ∧ St w0 w' (B ++ F) := by
  refine con_of_wc (n := 88) Try.func101 rfl rfl (Nat.le_of_ble_eq_true rfl) ?_
  have k1 := hok.skip
  have k2 := hok.twice
  have k7 := hok.lz
  have k8 := hok.ls
  have haz : a < c.zero.length := by omega
  have has : a < c.shown.length := by omega
  obtain ⟨bz, oz, hbz, hxz⟩ := sl_ints hz haz
  obtain ⟨bv, ov, hbv, hxv⟩ := sl_ints hw has
  have hgz : c.zero.getD a 0 = c.zero[a] := by simp [List.getD, haz]
  have hgs : c.shown.getD a 0 = c.shown[a] := by simp [List.getD, has]
  refine w_seq (fun K2 hK1 => ?_)
  refine w_region ?_
  refine w_box (v := .agg #[.string _, .int _ _, .int _ _, .int _ _, .slice _ _ _, .slice _ _ _]) (cs := [_, _, _, _, _, _]) want_none rfl rfl rfl hs (fun b3 w4 hs5 => ?_)
  refine w_p (y_assign (v := _) rfl rfl) rfl ?_
  refine w_nil ?_
  refine q_then (hK1 _ _ ?_)
  refine w_seq (fun K7 hK6 => ?_)
  refine w_region ?_
  refine w_p (y_assign (v := _) rfl rfl) rfl ?_
  refine w_nil ?_
  refine q_then (hK6 _ _ ?_)
  refine w_seq (fun K9 hK8 => ?_)
  refine w_seq (fun K11 hK10 => ?_)
  refine w_region ?_
  refine w_p (y_assign (v := _) rfl rfl) rfl ?_
  refine w_nil ?_
  refine q_then (hK10 _ _ ?_)
  refine w_block ?_
  refine w_loop [9, 10, 11, 12, 13, 14, 15, 16, 17, 18, 19, 20, 21, 22, 23, 24, 25, 26, 27, 28, 29, 30, 31, 32, 33, 34, 35, 36, 37, 38, 39, 40, 41, 42, 43, 44, 45, 46, 47, 48, 49, 50, 51, 52, 53, 54, 55, 56, 57, 58, 59, 60, 61, 62, 63, 64, 65, 66, 67, 68, 69, 70, 71, 72, 73, 74, 75, 76, 77, 78, 79, 80, 81, 82, 83, 84, 85, 86] [9, 10] (fun kk vs w => ∃ (z : Nat) (v : Value) (B : List (Nat × Obj)), vs = [v, .int .i64 z] ∧ z ≤ 2 ∧ kk = 2 - z ∧ Rt.Own v 144 3 (sTo c a s load z).length (srows load (sTo c a s load z)).flatten B ∧ St w0 w ((b3, blk 76 (c.cells pc)) :: (B ++ F))) (2) ?_ ?_
  ·
   exact ⟨0, _, [], rfl, by omega, by omega, own_nil 144 3, hs5⟩
  ·
   intro k vs μ w14 hI K13 hN12
   obtain ⟨z, v, B, rfl, hza, rfl, hown, hs⟩ := hI
   have hzb : decide ((z : Int) = 1) = decide (z = 1) := by rw [Bool.eq_iff_iff]; simp; omega
   have hwl := sTo_len (a := a) (s := s) (load := load) hok z
   refine w_seq (fun K16 hK15 => ?_)
   refine w_seq (fun K18 hK17 => ?_)
   refine w_region ?_
   refine w_p (y_move (v := .int _ _) rfl rfl) rfl ?_
   refine w_p (y_lss rfl rfl rfl rfl) rfl ?_
   refine w_nil ?_
   refine q_then (hK17 _ _ ?_)
   refine w_cond rfl rfl (fun h19 => ?_) (fun h19 => ?_)
   ·
    try simp only [zA, zB, zC, zD, zE, zF] at h19
    refine w_skip ?_
    refine q_then (hK15 _ _ ?_)
    refine w_seq (fun K21 hK20 => ?_)
    refine w_block ?_
    refine w_seq (fun K23 hK22 => ?_)
    refine w_seq (fun K25 hK24 => ?_)
    refine w_region ?_
    refine w_p (y_move (v := .int _ _) rfl rfl) rfl ?_
    refine w_p (y_eql rfl rfl rfl rfl) rfl ?_
    refine w_p (y_move (v := .bool _) rfl rfl) rfl ?_
    refine w_split (fun h26 => ?_) (fun h26 => ?_)
    ·
     try simp only [zA, zB, zC, zD, zE, zF] at h26
     refine w_y rfl rfl rfl (y_fieldAddr (o := 4) (i := 4) Try.underlying76 rfl Try.sizeOf39 rfl rfl rfl) rfl ?_
     refine w_y rfl rfl rfl (yd_slice hbz (y_load1 Try.isAgg39 hs rfl rfl (ats_own (i := 0) (vs := [_]) rfl rfl))) rfl ?_
     refine w_y rfl rfl rfl (y_move (v := .int _ _) rfl rfl) rfl ?_
     refine w_y rfl rfl rfl (y_indexS Try.underlying39 Try.sizeOf3 rfl rfl rfl rfl (i := a) rfl haz) rfl ?_
     refine w_y rfl rfl rfl (y_load1 Try.isAgg3 hs.tail.drop rfl rfl hxz) rfl ?_
     refine w_y rfl rfl rfl (y_eql rfl rfl rfl rfl) rfl ?_
     refine w_p (y_pickT (v := .bool _) rfl rfl rfl rfl) rfl ?_
     refine w_p (y_move (v := .bool _) rfl rfl) rfl ?_
     refine w_split (fun h27 => ?_) (fun h27 => ?_)
     ·
      try simp only [zA, zB, zC, zD, zE, zF] at h27
      refine w_skipop rfl rfl rfl ?_
      refine w_skipop rfl rfl rfl ?_
      refine w_skipop rfl rfl rfl ?_
      refine w_skipop' rfl rfl rfl ?_
      refine w_skipop' rfl rfl rfl ?_
      refine w_skipop' rfl rfl rfl ?_
      refine w_skipop' rfl rfl rfl ?_
      refine w_skipop' rfl rfl rfl ?_
      refine w_skipop' rfl rfl rfl ?_
      refine w_skipop rfl rfl rfl ?_
      refine w_p (y_pickT (v := _) rfl rfl rfl rfl) rfl ?_
      refine w_nil ?_
      refine q_then (hK24 _ _ ?_)
      refine w_condT rfl rfl ?_
      refine w_exit ?_
      refine q_then_exit ?_
      refine q_blk_this ?_
      refine q_then (hK20 _ _ ?_)
      refine w_region ?_
      refine w_p (y_move (v := .int _ _) rfl rfl) rfl ?_
      refine w_p (y_add rfl rfl rfl rfl (by omega) (by omega)) rfl ?_
      refine w_p (y_assign (v := .int _ _) rfl rfl) rfl ?_
      refine w_nil ?_
      refine q_then (hN12 _ _ (Nx.intro (2 - (z + 1)) (by omega) (by repeat (first | exact agree_mix | refine agree_upd rfl ?_ | refine agree_updL rfl ?_ _ | refine agree_mixin rfl ?_)) ?_))
      first
        | exact ⟨z + 1, v, B, rfl, by omega, rfl, by rw [sTo_no (canZ_n (by omega) (by omega))]; exact hown, hs⟩
        | exact ⟨z + 1, v, B, rfl, by omega, rfl, by rw [sPart_all (canZ_y (by omega) (by omega)) (q := q) (by omega)]; exact hown2, hs⟩
     ·
      try simp only [zA, zB, zC, zD, zE, zF] at h27
      refine w_y rfl rfl rfl (y_move (v := .int _ _) rfl rfl) rfl ?_
      refine w_y rfl rfl rfl (y_eql rfl rfl rfl rfl) rfl ?_
      refine w_y rfl rfl rfl (y_move (v := .bool _) rfl rfl) rfl ?_
      refine w_split (fun h28 => ?_) (fun h28 => ?_)
      ·
       try simp only [zA, zB, zC, zD, zE, zF] at h28
       refine w_y rfl rfl rfl (y_fieldAddr (o := 4) (i := 4) Try.underlying76 rfl Try.sizeOf39 rfl rfl rfl) rfl ?_
       refine w_y rfl rfl rfl (yd_slice hbz (y_load1 Try.isAgg39 hs rfl rfl (ats_own (i := 0) (vs := [_]) rfl rfl))) rfl ?_
       refine w_y rfl rfl rfl (y_move (v := .int _ _) rfl rfl) rfl ?_
       refine w_y rfl rfl rfl (y_indexS Try.underlying39 Try.sizeOf3 rfl rfl rfl rfl (i := a) rfl haz) rfl ?_
       refine w_y rfl rfl rfl (y_load1 Try.isAgg3 hs.tail.drop rfl rfl hxz) rfl ?_
       refine w_y rfl rfl rfl (y_eql rfl rfl rfl rfl) rfl ?_
       refine w_y rfl rfl rfl (y_pickT (v := .bool _) rfl rfl rfl rfl) rfl ?_
       refine w_p (y_pickF (v := .bool _) rfl rfl rfl rfl) rfl ?_
       refine w_nil ?_
       refine q_then (hK24 _ _ ?_)
       refine w_cond rfl rfl (fun h29 => ?_) (fun h29 => ?_)
       ·
        try simp only [zA, zB, zC, zD, zE, zF] at h29
        refine w_exit ?_
        refine q_then_exit ?_
        refine q_blk_this ?_
        refine q_then (hK20 _ _ ?_)
        refine w_region ?_
        refine w_p (y_move (v := .int _ _) rfl rfl) rfl ?_
        refine w_p (y_add rfl rfl rfl rfl (by omega) (by omega)) rfl ?_
        refine w_p (y_assign (v := .int _ _) rfl rfl) rfl ?_
        refine w_nil ?_
        refine q_then (hN12 _ _ (Nx.intro (2 - (z + 1)) (by omega) (by repeat (first | exact agree_mix | refine agree_upd rfl ?_ | refine agree_updL rfl ?_ _ | refine agree_mixin rfl ?_)) ?_))
        first
          | exact ⟨z + 1, v, B, rfl, by omega, rfl, by rw [sTo_no (canZ_n (by omega) (by omega))]; exact hown, hs⟩
          | exact ⟨z + 1, v, B, rfl, by omega, rfl, by rw [sPart_all (canZ_y (by omega) (by omega)) (q := q) (by omega)]; exact hown2, hs⟩
       ·
        try simp only [zA, zB, zC, zD, zE, zF] at h29
        refine w_skip ?_
        refine q_then (hK22 _ _ ?_)
        refine w_seq (fun K31 hK30 => ?_)
        refine w_region ?_
        refine w_p (y_move (v := .int _ _) rfl rfl) rfl ?_
        refine w_p (y_assign (v := .int _ _) rfl rfl) rfl ?_
        refine w_nil ?_
        refine q_then (hK30 _ _ ?_)
        refine w_seq (fun K33 hK32 => ?_)
        refine w_cut [11, 41, 42] [11] (fun vs w => vs = [.int .i64 (if z = 1 then 0 else s)] ∧ St w0 w ((b3, blk 76 (c.cells pc)) :: (B ++ F))) (fun K35 hC34 => ?_) ?_
        ·
         refine w_seq (fun K37 hK36 => ?_)
         refine w_region ?_
         refine w_p (y_move (v := .int _ _) rfl rfl) rfl ?_
         refine w_p (y_eql rfl rfl rfl rfl) rfl ?_
         refine w_nil ?_
         refine q_then (hK36 _ _ ?_)
         refine w_cond rfl rfl (fun h38 => ?_) (fun h38 => ?_)
         ·
          try simp only [zA, zB, zC, zD, zE, zF] at h38
          refine w_region ?_
          refine w_p (y_assign (v := _) rfl rfl) rfl ?_
          refine w_nil ?_
          refine q_then (hC34 _ _ (Md.intro (by repeat (first | exact agree_refl | exact agree_mix | refine agree_upd rfl ?_ | refine agree_updL rfl ?_ _ | refine agree_mixin rfl ?_)) ?_))
          first
            | exact ⟨by rw [if_pos (by omega)]; rfl, hs⟩
            | exact ⟨by rw [if_neg (by omega)]; rfl, hs⟩
         ·
          try simp only [zA, zB, zC, zD, zE, zF] at h38
          refine w_skip ?_
          refine q_then (hC34 _ _ (Md.intro (by repeat (first | exact agree_refl | exact agree_mix | refine agree_upd rfl ?_ | refine agree_updL rfl ?_ _ | refine agree_mixin rfl ?_)) ?_))
          first
            | exact ⟨by rw [if_pos (by omega)]; rfl, hs⟩
            | exact ⟨by rw [if_neg (by omega)]; rfl, hs⟩
        ·
         intro vs μ w39 hM
         obtain ⟨rfl, hs⟩ := hM
         have hif : 0 ≤ (if z = 1 then 0 else s) ∧ (if z = 1 then 0 else s) < 100 := by split <;> omega
         refine q_then (hK32 _ _ ?_)
         refine w_seq (fun K41 hK40 => ?_)
         refine w_region ?_
         refine w_p (y_fieldAddr (o := 1) (i := 1) Try.underlying76 rfl Try.sizeOf3 rfl rfl rfl) rfl ?_
         refine w_p (y_load1 Try.isAgg3 hs rfl rfl (ats_own (i := 0) (vs := [_]) rfl rfl)) rfl ?_
         refine w_p (y_sub rfl rfl rfl rfl (by omega) (by omega)) rfl ?_
         refine w_p (y_assign (v := .int _ _) rfl rfl) rfl ?_
         refine w_nil ?_
         refine q_then (hK40 _ _ ?_)
         refine w_block ?_
         refine w_loop [9, 12, 13, 46, 47, 48, 49, 50, 51, 52, 53, 54, 55, 56, 57, 58, 59, 60, 61, 62, 63, 64, 65, 66, 67, 68, 69, 70, 71, 72, 73, 74, 75, 76, 77, 78, 79, 80, 81, 82, 83, 84, 85, 86] [9, 12] (fun kk vs w => ∃ (q : Nat) (v : Value) (B : List (Nat × Obj)), vs = [v, .int .i64 (0 - c.skip + (q : Int))] ∧ q ≤ (c.twice + 1 - (0 - c.skip)).toNat ∧ kk = (c.twice + 1 - (0 - c.skip)).toNat - q ∧ Rt.Own v 144 3 ((sTo c a s load z) ++ sPart c a s load (decide (z = 1)) q).length (srows load ((sTo c a s load z) ++ sPart c a s load (decide (z = 1)) q)).flatten B ∧ St w0 w ((b3, blk 76 (c.cells pc)) :: (B ++ F))) ((c.twice + 1 - (0 - c.skip)).toNat) ?_ ?_
         ·
          exact ⟨0, v, B, vi (by omega), by omega, by omega, by rw [show sPart c a s load (decide (z = 1)) 0 = [] from rfl, List.append_nil]; exact hown, hs⟩
         ·
          intro k vs μ w44 hI K43 hN42
          clear hs
          obtain ⟨q, v, B, rfl, hqa, rfl, hown2, hs⟩ := hI
          have hpl := sPart_len c a s load (decide (z = 1)) q
          have hpa : ((sTo c a s load z) ++ sPart c a s load (decide (z = 1)) q).length = (sTo c a s load z).length + (sPart c a s load (decide (z = 1)) q).length := List.length_append
          refine w_seq (fun K46 hK45 => ?_)
          refine w_seq (fun K48 hK47 => ?_)
          refine w_region ?_
          refine w_p (y_move (v := .int _ _) rfl rfl) rfl ?_
          refine w_p (y_fieldAddr (o := 2) (i := 2) Try.underlying76 rfl Try.sizeOf3 rfl rfl rfl) rfl ?_
          refine w_p (y_load1 Try.isAgg3 hs rfl rfl (ats_own (i := 0) (vs := [_]) rfl rfl)) rfl ?_
          refine w_p (y_leq rfl rfl rfl rfl) rfl ?_
          refine w_nil ?_
          refine q_then (hK47 _ _ ?_)
          refine w_cond rfl rfl (fun h49 => ?_) (fun h49 => ?_)
          ·
           try simp only [zA, zB, zC, zD, zE, zF] at h49
           refine w_skip ?_
           refine q_then (hK45 _ _ ?_)
           refine w_seq (fun K51 hK50 => ?_)
           refine w_block ?_
           refine w_seq (fun K53 hK52 => ?_)
           refine w_region ?_
           refine w_p (y_move (v := .int _ _) rfl rfl) rfl ?_
           refine w_p (y_move (v := .int _ _) rfl rfl) rfl ?_
           refine w_p (y_add rfl rfl rfl rfl (by omega) (by omega)) rfl ?_
           refine w_p (y_move (v := .int _ _) rfl rfl) rfl ?_
           refine w_p (y_add rfl rfl rfl rfl (by omega) (by omega)) rfl ?_
           obtain ⟨sh, hsh⟩ : ∃ sh : Int, sh = Int.tmod ((if z = 1 then 0 else s) + load + (0 - c.skip + (q : Int))) 100 := ⟨_, rfl⟩
           refine w_p (yd_cast (z' := sh) hsh.symm (y_remT rfl rfl rfl rfl (by omega))) rfl ?_
           refine w_p (y_assign (v := .int _ _) rfl rfl) rfl ?_
           refine w_nil ?_
           refine q_then (hK52 _ _ ?_)
           refine w_seq (fun K55 hK54 => ?_)
           refine w_region ?_
           refine w_p (y_move (v := .int _ _) rfl rfl) rfl ?_
           refine w_p (y_move (v := .int _ _) rfl rfl) rfl ?_
           refine w_p (y_add rfl rfl rfl rfl (by omega) (by omega)) rfl ?_
           refine w_p (y_geq rfl rfl rfl rfl) rfl ?_
           refine w_p (y_move (v := .bool _) rfl rfl) rfl ?_
           refine w_split (fun h56 => ?_) (fun h56 => ?_)
           ·
            try simp only [zA, zB, zC, zD, zE, zF] at h56
            refine w_y rfl rfl rfl (y_fieldAddr (o := 5) (i := 5) Try.underlying76 rfl Try.sizeOf39 rfl rfl rfl) rfl ?_
            refine w_y rfl rfl rfl (yd_slice hbv (y_load1 Try.isAgg39 hs rfl rfl (ats_own (i := 0) (vs := [_]) rfl rfl))) rfl ?_
            refine w_y rfl rfl rfl (y_move (v := .int _ _) rfl rfl) rfl ?_
            refine w_y rfl rfl rfl (y_indexS Try.underlying39 Try.sizeOf3 rfl rfl rfl rfl (i := a) rfl has) rfl ?_
            refine w_y rfl rfl rfl (y_load1 Try.isAgg3 hs.tail.drop rfl rfl hxv) rfl ?_
            refine w_y rfl rfl rfl (y_eql rfl rfl rfl rfl) rfl ?_
            refine w_y rfl rfl rfl (y_move (v := .bool _) rfl rfl) rfl ?_
            refine w_split (fun h57 => ?_) (fun h57 => ?_)
            ·
             try simp only [zA, zB, zC, zD, zE, zF] at h57
             refine w_skipop rfl rfl rfl ?_
             refine w_skipop rfl rfl rfl ?_
             refine w_skipop rfl rfl rfl ?_
             refine w_skipop rfl rfl rfl ?_
             refine w_skipop rfl rfl rfl ?_
             refine w_skipop rfl rfl rfl ?_
             refine w_skipop rfl rfl rfl ?_
             refine w_y rfl rfl rfl (y_pickT (v := _) rfl rfl rfl rfl) rfl ?_
             refine w_p (y_pickT (v := .bool _) rfl rfl rfl rfl) rfl ?_
             refine w_nil ?_
             refine q_then (hK54 _ _ ?_)
             refine w_condT rfl rfl ?_
             have hsh2 := hsh.trans (sh_t (n := z) (by omega) hs1.1 (show 0 ≤ load + (0 - c.skip + (q : Int)) by omega))
             refine w_region ?_
             refine w_p (y_move (v := v) rfl rfl) rfl ?_
             refine w_p (y_move (v := .int _ _) rfl rfl) rfl ?_
             refine w_p (y_move (v := .int _ _) rfl rfl) rfl ?_
             refine w_p (y_move (v := .int _ _) rfl rfl) rfl ?_
             refine w_p (y_eql rfl rfl rfl rfl) rfl ?_
             refine w_p (y_build (ps := [(0, _), (1, _), (2, _)]) (pv := [(0, .int _ _), (1, .int _ _), (2, .bool _)]) rfl rfl (fun w => Try_T_fb5 _ _ _ w)) rfl ?_
             refine w_bslice (ps := [(0, _)]) (pv := [(0, .agg #[.int _ _, .int _ _, .bool _])]) (cs := [_, _, _]) want_none rfl rfl (fun w => Try_T_fb6 _ _ _ w) hs (fun b58 w59 hs60 => ?_)
             refine w_append (X := (_ :: _ :: [])) (B := B) (rows := [[_, _, _]]) (sz := 3) (bytes := 24) want_none Try.underlying141 Try_info144 rfl rfl rfl rfl rfl rfl rfl rfl rfl hs60 hown2 (sl_own (i := 0) rfl (by simp) rfl) rfl (by simp) (by simp [Value.oneCell']) (by simp only [maxLen]; omega) (by omega) (fun v61 w62 B63 ho64 hs65 => ?_)
             replace hs65 := (show St _ _ (_ :: _ :: B63 ++ (F)) from hs65)
             refine w_p (y_assign (v := v61) rfl rfl) rfl ?_
             refine w_nil ?_
             refine q_blk_normal ?_
             refine q_then (hK50 _ _ ?_)
             refine w_region ?_
             refine w_p (y_move (v := .int _ _) rfl rfl) rfl ?_
             refine w_p (y_add rfl rfl rfl rfl (by omega) (by omega)) rfl ?_
             refine w_p (y_assign (v := .int _ _) rfl rfl) rfl ?_
             refine w_nil ?_
             refine q_then (hN42 _ _ (Nx.intro ((c.twice + 1 - (0 - c.skip)).toNat - (q + 1)) (by omega) (by repeat (first | exact agree_mix | refine agree_upd rfl ?_ | refine agree_updL rfl ?_ _ | refine agree_mixin rfl ?_)) ?_))
             exact ⟨q + 1, _, _, vi (by omega), by omega, rfl, by rw [sPart_y (by omega) (by rw [hgs, ← hsh2]; omega), ← List.append_assoc]; exact own_stp ho64 hsh2 (by show _ = load + (0 - c.skip + (q : Int)) - load; omega) hzb, hs65.tail⟩
            ·
             try simp only [zA, zB, zC, zD, zE, zF] at h57
             refine w_y rfl rfl rfl (y_fieldAddr (o := 5) (i := 5) Try.underlying76 rfl Try.sizeOf39 rfl rfl rfl) rfl ?_
             refine w_y rfl rfl rfl (yd_slice hbv (y_load1 Try.isAgg39 hs rfl rfl (ats_own (i := 0) (vs := [_]) rfl rfl))) rfl ?_
             refine w_y rfl rfl rfl (y_move (v := .int _ _) rfl rfl) rfl ?_
             refine w_y rfl rfl rfl (y_indexS Try.underlying39 Try.sizeOf3 rfl rfl rfl rfl (i := a) rfl has) rfl ?_
             refine w_y rfl rfl rfl (y_load1 Try.isAgg3 hs.tail.drop rfl rfl hxv) rfl ?_
             refine w_y rfl rfl rfl (y_move (v := .int _ _) rfl rfl) rfl ?_
             refine w_y rfl rfl rfl (y_eql rfl rfl rfl rfl) rfl ?_
             refine w_y rfl rfl rfl (y_pickF (v := .bool _) rfl rfl rfl rfl) rfl ?_
             refine w_p (y_pickT (v := .bool _) rfl rfl rfl rfl) rfl ?_
             refine w_nil ?_
             refine q_then (hK54 _ _ ?_)
             refine w_cond rfl rfl (fun h66 => ?_) (fun h66 => ?_)
             ·
              try simp only [zA, zB, zC, zD, zE, zF] at h66
              have hsh2 := hsh.trans (sh_t (n := z) (by omega) hs1.1 (show 0 ≤ load + (0 - c.skip + (q : Int)) by omega))
              refine w_region ?_
              refine w_p (y_move (v := v) rfl rfl) rfl ?_
              refine w_p (y_move (v := .int _ _) rfl rfl) rfl ?_
              refine w_p (y_move (v := .int _ _) rfl rfl) rfl ?_
              refine w_p (y_move (v := .int _ _) rfl rfl) rfl ?_
              refine w_p (y_eql rfl rfl rfl rfl) rfl ?_
              refine w_p (y_build (ps := [(0, _), (1, _), (2, _)]) (pv := [(0, .int _ _), (1, .int _ _), (2, .bool _)]) rfl rfl (fun w => Try_T_fb5 _ _ _ w)) rfl ?_
              refine w_bslice (ps := [(0, _)]) (pv := [(0, .agg #[.int _ _, .int _ _, .bool _])]) (cs := [_, _, _]) want_none rfl rfl (fun w => Try_T_fb6 _ _ _ w) hs (fun b67 w68 hs69 => ?_)
              refine w_append (X := (_ :: _ :: [])) (B := B) (rows := [[_, _, _]]) (sz := 3) (bytes := 24) want_none Try.underlying141 Try_info144 rfl rfl rfl rfl rfl rfl rfl rfl rfl hs69 hown2 (sl_own (i := 0) rfl (by simp) rfl) rfl (by simp) (by simp [Value.oneCell']) (by simp only [maxLen]; omega) (by omega) (fun v70 w71 B72 ho73 hs74 => ?_)
              replace hs74 := (show St _ _ (_ :: _ :: B72 ++ (F)) from hs74)
              refine w_p (y_assign (v := v70) rfl rfl) rfl ?_
              refine w_nil ?_
              refine q_blk_normal ?_
              refine q_then (hK50 _ _ ?_)
              refine w_region ?_
              refine w_p (y_move (v := .int _ _) rfl rfl) rfl ?_
              refine w_p (y_add rfl rfl rfl rfl (by omega) (by omega)) rfl ?_
              refine w_p (y_assign (v := .int _ _) rfl rfl) rfl ?_
              refine w_nil ?_
              refine q_then (hN42 _ _ (Nx.intro ((c.twice + 1 - (0 - c.skip)).toNat - (q + 1)) (by omega) (by repeat (first | exact agree_mix | refine agree_upd rfl ?_ | refine agree_updL rfl ?_ _ | refine agree_mixin rfl ?_)) ?_))
              exact ⟨q + 1, _, _, vi (by omega), by omega, rfl, by rw [sPart_y (by omega) (by rw [hgs, ← hsh2]; omega), ← List.append_assoc]; exact own_stp ho73 hsh2 (by show _ = load + (0 - c.skip + (q : Int)) - load; omega) hzb, hs74.tail⟩
             ·
              try simp only [zA, zB, zC, zD, zE, zF] at h66
              refine w_skip ?_
              refine q_blk_normal ?_
              refine q_then (hK50 _ _ ?_)
              refine w_region ?_
              refine w_p (y_move (v := .int _ _) rfl rfl) rfl ?_
              refine w_p (y_add rfl rfl rfl rfl (by omega) (by omega)) rfl ?_
              refine w_p (y_assign (v := .int _ _) rfl rfl) rfl ?_
              refine w_nil ?_
              refine q_then (hN42 _ _ (Nx.intro ((c.twice + 1 - (0 - c.skip)).toNat - (q + 1)) (by omega) (by repeat (first | exact agree_mix | refine agree_upd rfl ?_ | refine agree_updL rfl ?_ _ | refine agree_mixin rfl ?_)) ?_))
              first
                | exact ⟨q + 1, v, B, vi (by omega), by omega, rfl, by rw [sPart_n (.inl (by omega))]; exact hown2, hs⟩
                | (have hsh2 := hsh.trans (sh_t (n := z) (by omega) hs1.1 (show 0 ≤ load + (0 - c.skip + (q : Int)) by omega))
                   exact ⟨q + 1, v, B, vi (by omega), by omega, rfl, by rw [sPart_n (.inr (by rw [hgs, ← hsh2]; omega))]; exact hown2, hs⟩)
           ·
            try simp only [zA, zB, zC, zD, zE, zF] at h56
            refine w_skipop rfl rfl rfl ?_
            refine w_skipop rfl rfl rfl ?_
            refine w_skipop rfl rfl rfl ?_
            refine w_skipop rfl rfl rfl ?_
            refine w_skipop rfl rfl rfl ?_
            refine w_skipop rfl rfl rfl ?_
            refine w_skipop rfl rfl rfl ?_
            refine w_skipop' rfl rfl rfl ?_
            refine w_skipop' rfl rfl rfl ?_
            refine w_skipop' rfl rfl rfl ?_
            refine w_skipop' rfl rfl rfl ?_
            refine w_skipop' rfl rfl rfl ?_
            refine w_skipop' rfl rfl rfl ?_
            refine w_skipop' rfl rfl rfl ?_
            refine w_skipop rfl rfl rfl ?_
            refine w_p (y_pickF (v := _) rfl rfl rfl rfl) rfl ?_
            refine w_nil ?_
            refine q_then (hK54 _ _ ?_)
            refine w_condF rfl rfl ?_
            refine w_skip ?_
            refine q_blk_normal ?_
            refine q_then (hK50 _ _ ?_)
            refine w_region ?_
            refine w_p (y_move (v := .int _ _) rfl rfl) rfl ?_
            refine w_p (y_add rfl rfl rfl rfl (by omega) (by omega)) rfl ?_
            refine w_p (y_assign (v := .int _ _) rfl rfl) rfl ?_
            refine w_nil ?_
            refine q_then (hN42 _ _ (Nx.intro ((c.twice + 1 - (0 - c.skip)).toNat - (q + 1)) (by omega) (by repeat (first | exact agree_mix | refine agree_upd rfl ?_ | refine agree_updL rfl ?_ _ | refine agree_mixin rfl ?_)) ?_))
            first
              | exact ⟨q + 1, v, B, vi (by omega), by omega, rfl, by rw [sPart_n (.inl (by omega))]; exact hown2, hs⟩
              | (have hsh2 := hsh.trans (sh_t (n := z) (by omega) hs1.1 (show 0 ≤ load + (0 - c.skip + (q : Int)) by omega))
                 exact ⟨q + 1, v, B, vi (by omega), by omega, rfl, by rw [sPart_n (.inr (by rw [hgs, ← hsh2]; omega))]; exact hown2, hs⟩)
          ·
           try simp only [zA, zB, zC, zD, zE, zF] at h49
           refine w_exit ?_
           refine q_then_exit ?_
           refine q_then_exit ?_
           refine q_blk_this ?_
           refine q_blk_normal ?_
           refine q_then (hK20 _ _ ?_)
           refine w_region ?_
           refine w_p (y_move (v := .int _ _) rfl rfl) rfl ?_
           refine w_p (y_add rfl rfl rfl rfl (by omega) (by omega)) rfl ?_
           refine w_p (y_assign (v := .int _ _) rfl rfl) rfl ?_
           refine w_nil ?_
           refine q_then (hN12 _ _ (Nx.intro (2 - (z + 1)) (by omega) (by repeat (first | exact agree_mix | refine agree_upd rfl ?_ | refine agree_updL rfl ?_ _ | refine agree_mixin rfl ?_)) ?_))
           first
             | exact ⟨z + 1, v, B, rfl, by omega, rfl, by rw [sTo_no (canZ_n (by omega) (by omega))]; exact hown, hs⟩
             | exact ⟨z + 1, v, B, rfl, by omega, rfl, by rw [sPart_all (canZ_y (by omega) (by omega)) (q := q) (by omega)]; exact hown2, hs⟩
      ·
       try simp only [zA, zB, zC, zD, zE, zF] at h28
       refine w_skipop rfl rfl rfl ?_
       refine w_skipop rfl rfl rfl ?_
       refine w_skipop rfl rfl rfl ?_
       refine w_skipop rfl rfl rfl ?_
       refine w_skipop rfl rfl rfl ?_
       refine w_skipop rfl rfl rfl ?_
       refine w_y rfl rfl rfl (y_pickF (v := _) rfl rfl rfl rfl) rfl ?_
       refine w_p (y_pickF (v := .bool _) rfl rfl rfl rfl) rfl ?_
       refine w_nil ?_
       refine q_then (hK24 _ _ ?_)
       refine w_condF rfl rfl ?_
       refine w_skip ?_
       refine q_then (hK22 _ _ ?_)
       refine w_seq (fun K76 hK75 => ?_)
       refine w_region ?_
       refine w_p (y_move (v := .int _ _) rfl rfl) rfl ?_
       refine w_p (y_assign (v := .int _ _) rfl rfl) rfl ?_
       refine w_nil ?_
       refine q_then (hK75 _ _ ?_)
       refine w_seq (fun K78 hK77 => ?_)
       refine w_cut [11, 41, 42] [11] (fun vs w => vs = [.int .i64 (if z = 1 then 0 else s)] ∧ St w0 w ((b3, blk 76 (c.cells pc)) :: (B ++ F))) (fun K80 hC79 => ?_) ?_
       ·
        refine w_seq (fun K82 hK81 => ?_)
        refine w_region ?_
        refine w_p (y_move (v := .int _ _) rfl rfl) rfl ?_
        refine w_p (y_eql rfl rfl rfl rfl) rfl ?_
        refine w_nil ?_
        refine q_then (hK81 _ _ ?_)
        refine w_cond rfl rfl (fun h83 => ?_) (fun h83 => ?_)
        ·
         try simp only [zA, zB, zC, zD, zE, zF] at h83
         refine w_region ?_
         refine w_p (y_assign (v := _) rfl rfl) rfl ?_
         refine w_nil ?_
         refine q_then (hC79 _ _ (Md.intro (by repeat (first | exact agree_refl | exact agree_mix | refine agree_upd rfl ?_ | refine agree_updL rfl ?_ _ | refine agree_mixin rfl ?_)) ?_))
         first
           | exact ⟨by rw [if_pos (by omega)]; rfl, hs⟩
           | exact ⟨by rw [if_neg (by omega)]; rfl, hs⟩
        ·
         try simp only [zA, zB, zC, zD, zE, zF] at h83
         refine w_skip ?_
         refine q_then (hC79 _ _ (Md.intro (by repeat (first | exact agree_refl | exact agree_mix | refine agree_upd rfl ?_ | refine agree_updL rfl ?_ _ | refine agree_mixin rfl ?_)) ?_))
         first
           | exact ⟨by rw [if_pos (by omega)]; rfl, hs⟩
           | exact ⟨by rw [if_neg (by omega)]; rfl, hs⟩
       ·
        intro vs μ w84 hM
        obtain ⟨rfl, hs⟩ := hM
        have hif : 0 ≤ (if z = 1 then 0 else s) ∧ (if z = 1 then 0 else s) < 100 := by split <;> omega
        refine q_then (hK77 _ _ ?_)
        refine w_seq (fun K86 hK85 => ?_)
        refine w_region ?_
        refine w_p (y_fieldAddr (o := 1) (i := 1) Try.underlying76 rfl Try.sizeOf3 rfl rfl rfl) rfl ?_
        refine w_p (y_load1 Try.isAgg3 hs rfl rfl (ats_own (i := 0) (vs := [_]) rfl rfl)) rfl ?_
        refine w_p (y_sub rfl rfl rfl rfl (by omega) (by omega)) rfl ?_
        refine w_p (y_assign (v := .int _ _) rfl rfl) rfl ?_
        refine w_nil ?_
        refine q_then (hK85 _ _ ?_)
        refine w_block ?_
        refine w_loop [9, 12, 13, 46, 47, 48, 49, 50, 51, 52, 53, 54, 55, 56, 57, 58, 59, 60, 61, 62, 63, 64, 65, 66, 67, 68, 69, 70, 71, 72, 73, 74, 75, 76, 77, 78, 79, 80, 81, 82, 83, 84, 85, 86] [9, 12] (fun kk vs w => ∃ (q : Nat) (v : Value) (B : List (Nat × Obj)), vs = [v, .int .i64 (0 - c.skip + (q : Int))] ∧ q ≤ (c.twice + 1 - (0 - c.skip)).toNat ∧ kk = (c.twice + 1 - (0 - c.skip)).toNat - q ∧ Rt.Own v 144 3 ((sTo c a s load z) ++ sPart c a s load (decide (z = 1)) q).length (srows load ((sTo c a s load z) ++ sPart c a s load (decide (z = 1)) q)).flatten B ∧ St w0 w ((b3, blk 76 (c.cells pc)) :: (B ++ F))) ((c.twice + 1 - (0 - c.skip)).toNat) ?_ ?_
        ·
         exact ⟨0, v, B, vi (by omega), by omega, by omega, by rw [show sPart c a s load (decide (z = 1)) 0 = [] from rfl, List.append_nil]; exact hown, hs⟩
        ·
         intro k vs μ w89 hI K88 hN87
         clear hs
         obtain ⟨q, v, B, rfl, hqa, rfl, hown2, hs⟩ := hI
         have hpl := sPart_len c a s load (decide (z = 1)) q
         have hpa : ((sTo c a s load z) ++ sPart c a s load (decide (z = 1)) q).length = (sTo c a s load z).length + (sPart c a s load (decide (z = 1)) q).length := List.length_append
         refine w_seq (fun K91 hK90 => ?_)
         refine w_seq (fun K93 hK92 => ?_)
         refine w_region ?_
         refine w_p (y_move (v := .int _ _) rfl rfl) rfl ?_
         refine w_p (y_fieldAddr (o := 2) (i := 2) Try.underlying76 rfl Try.sizeOf3 rfl rfl rfl) rfl ?_
         refine w_p (y_load1 Try.isAgg3 hs rfl rfl (ats_own (i := 0) (vs := [_]) rfl rfl)) rfl ?_
         refine w_p (y_leq rfl rfl rfl rfl) rfl ?_
         refine w_nil ?_
         refine q_then (hK92 _ _ ?_)
         refine w_cond rfl rfl (fun h94 => ?_) (fun h94 => ?_)
         ·
          try simp only [zA, zB, zC, zD, zE, zF] at h94
          refine w_skip ?_
          refine q_then (hK90 _ _ ?_)
          refine w_seq (fun K96 hK95 => ?_)
          refine w_block ?_
          refine w_seq (fun K98 hK97 => ?_)
          refine w_region ?_
          refine w_p (y_move (v := .int _ _) rfl rfl) rfl ?_
          refine w_p (y_move (v := .int _ _) rfl rfl) rfl ?_
          refine w_p (y_add rfl rfl rfl rfl (by omega) (by omega)) rfl ?_
          refine w_p (y_move (v := .int _ _) rfl rfl) rfl ?_
          refine w_p (y_add rfl rfl rfl rfl (by omega) (by omega)) rfl ?_
          obtain ⟨sh, hsh⟩ : ∃ sh : Int, sh = Int.tmod ((if z = 1 then 0 else s) + load + (0 - c.skip + (q : Int))) 100 := ⟨_, rfl⟩
          refine w_p (yd_cast (z' := sh) hsh.symm (y_remT rfl rfl rfl rfl (by omega))) rfl ?_
          refine w_p (y_assign (v := .int _ _) rfl rfl) rfl ?_
          refine w_nil ?_
          refine q_then (hK97 _ _ ?_)
          refine w_seq (fun K100 hK99 => ?_)
          refine w_region ?_
          refine w_p (y_move (v := .int _ _) rfl rfl) rfl ?_
          refine w_p (y_move (v := .int _ _) rfl rfl) rfl ?_
          refine w_p (y_add rfl rfl rfl rfl (by omega) (by omega)) rfl ?_
          refine w_p (y_geq rfl rfl rfl rfl) rfl ?_
          refine w_p (y_move (v := .bool _) rfl rfl) rfl ?_
          refine w_split (fun h101 => ?_) (fun h101 => ?_)
          ·
           try simp only [zA, zB, zC, zD, zE, zF] at h101
           refine w_y rfl rfl rfl (y_fieldAddr (o := 5) (i := 5) Try.underlying76 rfl Try.sizeOf39 rfl rfl rfl) rfl ?_
           refine w_y rfl rfl rfl (yd_slice hbv (y_load1 Try.isAgg39 hs rfl rfl (ats_own (i := 0) (vs := [_]) rfl rfl))) rfl ?_
           refine w_y rfl rfl rfl (y_move (v := .int _ _) rfl rfl) rfl ?_
           refine w_y rfl rfl rfl (y_indexS Try.underlying39 Try.sizeOf3 rfl rfl rfl rfl (i := a) rfl has) rfl ?_
           refine w_y rfl rfl rfl (y_load1 Try.isAgg3 hs.tail.drop rfl rfl hxv) rfl ?_
           refine w_y rfl rfl rfl (y_eql rfl rfl rfl rfl) rfl ?_
           refine w_y rfl rfl rfl (y_move (v := .bool _) rfl rfl) rfl ?_
           refine w_split (fun h102 => ?_) (fun h102 => ?_)
           ·
            try simp only [zA, zB, zC, zD, zE, zF] at h102
            refine w_skipop rfl rfl rfl ?_
            refine w_skipop rfl rfl rfl ?_
            refine w_skipop rfl rfl rfl ?_
            refine w_skipop rfl rfl rfl ?_
            refine w_skipop rfl rfl rfl ?_
            refine w_skipop rfl rfl rfl ?_
            refine w_skipop rfl rfl rfl ?_
            refine w_y rfl rfl rfl (y_pickT (v := _) rfl rfl rfl rfl) rfl ?_
            refine w_p (y_pickT (v := .bool _) rfl rfl rfl rfl) rfl ?_
            refine w_nil ?_
            refine q_then (hK99 _ _ ?_)
            refine w_condT rfl rfl ?_
            have hsh2 := hsh.trans (sh_t (n := z) (by omega) hs1.1 (show 0 ≤ load + (0 - c.skip + (q : Int)) by omega))
            refine w_region ?_
            refine w_p (y_move (v := v) rfl rfl) rfl ?_
            refine w_p (y_move (v := .int _ _) rfl rfl) rfl ?_
            refine w_p (y_move (v := .int _ _) rfl rfl) rfl ?_
            refine w_p (y_move (v := .int _ _) rfl rfl) rfl ?_
            refine w_p (y_eql rfl rfl rfl rfl) rfl ?_
            refine w_p (y_build (ps := [(0, _), (1, _), (2, _)]) (pv := [(0, .int _ _), (1, .int _ _), (2, .bool _)]) rfl rfl (fun w => Try_T_fb5 _ _ _ w)) rfl ?_
            refine w_bslice (ps := [(0, _)]) (pv := [(0, .agg #[.int _ _, .int _ _, .bool _])]) (cs := [_, _, _]) want_none rfl rfl (fun w => Try_T_fb6 _ _ _ w) hs (fun b103 w104 hs105 => ?_)
            refine w_append (X := (_ :: _ :: [])) (B := B) (rows := [[_, _, _]]) (sz := 3) (bytes := 24) want_none Try.underlying141 Try_info144 rfl rfl rfl rfl rfl rfl rfl rfl rfl hs105 hown2 (sl_own (i := 0) rfl (by simp) rfl) rfl (by simp) (by simp [Value.oneCell']) (by simp only [maxLen]; omega) (by omega) (fun v106 w107 B108 ho109 hs110 => ?_)
            replace hs110 := (show St _ _ (_ :: _ :: B108 ++ (F)) from hs110)
            refine w_p (y_assign (v := v106) rfl rfl) rfl ?_
            refine w_nil ?_
            refine q_blk_normal ?_
            refine q_then (hK95 _ _ ?_)
            refine w_region ?_
            refine w_p (y_move (v := .int _ _) rfl rfl) rfl ?_
            refine w_p (y_add rfl rfl rfl rfl (by omega) (by omega)) rfl ?_
            refine w_p (y_assign (v := .int _ _) rfl rfl) rfl ?_
            refine w_nil ?_
            refine q_then (hN87 _ _ (Nx.intro ((c.twice + 1 - (0 - c.skip)).toNat - (q + 1)) (by omega) (by repeat (first | exact agree_mix | refine agree_upd rfl ?_ | refine agree_updL rfl ?_ _ | refine agree_mixin rfl ?_)) ?_))
            exact ⟨q + 1, _, _, vi (by omega), by omega, rfl, by rw [sPart_y (by omega) (by rw [hgs, ← hsh2]; omega), ← List.append_assoc]; exact own_stp ho109 hsh2 (by show _ = load + (0 - c.skip + (q : Int)) - load; omega) hzb, hs110.tail⟩
           ·
            try simp only [zA, zB, zC, zD, zE, zF] at h102
            refine w_y rfl rfl rfl (y_fieldAddr (o := 5) (i := 5) Try.underlying76 rfl Try.sizeOf39 rfl rfl rfl) rfl ?_
            refine w_y rfl rfl rfl (yd_slice hbv (y_load1 Try.isAgg39 hs rfl rfl (ats_own (i := 0) (vs := [_]) rfl rfl))) rfl ?_
            refine w_y rfl rfl rfl (y_move (v := .int _ _) rfl rfl) rfl ?_
            refine w_y rfl rfl rfl (y_indexS Try.underlying39 Try.sizeOf3 rfl rfl rfl rfl (i := a) rfl has) rfl ?_
            refine w_y rfl rfl rfl (y_load1 Try.isAgg3 hs.tail.drop rfl rfl hxv) rfl ?_
            refine w_y rfl rfl rfl (y_move (v := .int _ _) rfl rfl) rfl ?_
            refine w_y rfl rfl rfl (y_eql rfl rfl rfl rfl) rfl ?_
            refine w_y rfl rfl rfl (y_pickF (v := .bool _) rfl rfl rfl rfl) rfl ?_
            refine w_p (y_pickT (v := .bool _) rfl rfl rfl rfl) rfl ?_
            refine w_nil ?_
            refine q_then (hK99 _ _ ?_)
            refine w_cond rfl rfl (fun h111 => ?_) (fun h111 => ?_)
            ·
             try simp only [zA, zB, zC, zD, zE, zF] at h111
             have hsh2 := hsh.trans (sh_t (n := z) (by omega) hs1.1 (show 0 ≤ load + (0 - c.skip + (q : Int)) by omega))
             refine w_region ?_
             refine w_p (y_move (v := v) rfl rfl) rfl ?_
             refine w_p (y_move (v := .int _ _) rfl rfl) rfl ?_
             refine w_p (y_move (v := .int _ _) rfl rfl) rfl ?_
             refine w_p (y_move (v := .int _ _) rfl rfl) rfl ?_
             refine w_p (y_eql rfl rfl rfl rfl) rfl ?_
             refine w_p (y_build (ps := [(0, _), (1, _), (2, _)]) (pv := [(0, .int _ _), (1, .int _ _), (2, .bool _)]) rfl rfl (fun w => Try_T_fb5 _ _ _ w)) rfl ?_
             refine w_bslice (ps := [(0, _)]) (pv := [(0, .agg #[.int _ _, .int _ _, .bool _])]) (cs := [_, _, _]) want_none rfl rfl (fun w => Try_T_fb6 _ _ _ w) hs (fun b112 w113 hs114 => ?_)
             refine w_append (X := (_ :: _ :: [])) (B := B) (rows := [[_, _, _]]) (sz := 3) (bytes := 24) want_none Try.underlying141 Try_info144 rfl rfl rfl rfl rfl rfl rfl rfl rfl hs114 hown2 (sl_own (i := 0) rfl (by simp) rfl) rfl (by simp) (by simp [Value.oneCell']) (by simp only [maxLen]; omega) (by omega) (fun v115 w116 B117 ho118 hs119 => ?_)
             replace hs119 := (show St _ _ (_ :: _ :: B117 ++ (F)) from hs119)
             refine w_p (y_assign (v := v115) rfl rfl) rfl ?_
             refine w_nil ?_
             refine q_blk_normal ?_
             refine q_then (hK95 _ _ ?_)
             refine w_region ?_
             refine w_p (y_move (v := .int _ _) rfl rfl) rfl ?_
             refine w_p (y_add rfl rfl rfl rfl (by omega) (by omega)) rfl ?_
             refine w_p (y_assign (v := .int _ _) rfl rfl) rfl ?_
             refine w_nil ?_
             refine q_then (hN87 _ _ (Nx.intro ((c.twice + 1 - (0 - c.skip)).toNat - (q + 1)) (by omega) (by repeat (first | exact agree_mix | refine agree_upd rfl ?_ | refine agree_updL rfl ?_ _ | refine agree_mixin rfl ?_)) ?_))
             exact ⟨q + 1, _, _, vi (by omega), by omega, rfl, by rw [sPart_y (by omega) (by rw [hgs, ← hsh2]; omega), ← List.append_assoc]; exact own_stp ho118 hsh2 (by show _ = load + (0 - c.skip + (q : Int)) - load; omega) hzb, hs119.tail⟩
            ·
             try simp only [zA, zB, zC, zD, zE, zF] at h111
             refine w_skip ?_
             refine q_blk_normal ?_
             refine q_then (hK95 _ _ ?_)
             refine w_region ?_
             refine w_p (y_move (v := .int _ _) rfl rfl) rfl ?_
             refine w_p (y_add rfl rfl rfl rfl (by omega) (by omega)) rfl ?_
             refine w_p (y_assign (v := .int _ _) rfl rfl) rfl ?_
             refine w_nil ?_
             refine q_then (hN87 _ _ (Nx.intro ((c.twice + 1 - (0 - c.skip)).toNat - (q + 1)) (by omega) (by repeat (first | exact agree_mix | refine agree_upd rfl ?_ | refine agree_updL rfl ?_ _ | refine agree_mixin rfl ?_)) ?_))
             first
               | exact ⟨q + 1, v, B, vi (by omega), by omega, rfl, by rw [sPart_n (.inl (by omega))]; exact hown2, hs⟩
               | (have hsh2 := hsh.trans (sh_t (n := z) (by omega) hs1.1 (show 0 ≤ load + (0 - c.skip + (q : Int)) by omega))
                  exact ⟨q + 1, v, B, vi (by omega), by omega, rfl, by rw [sPart_n (.inr (by rw [hgs, ← hsh2]; omega))]; exact hown2, hs⟩)
          ·
           try simp only [zA, zB, zC, zD, zE, zF] at h101
           refine w_skipop rfl rfl rfl ?_
           refine w_skipop rfl rfl rfl ?_
           refine w_skipop rfl rfl rfl ?_
           refine w_skipop rfl rfl rfl ?_
           refine w_skipop rfl rfl rfl ?_
           refine w_skipop rfl rfl rfl ?_
           refine w_skipop rfl rfl rfl ?_
           refine w_skipop' rfl rfl rfl ?_
           refine w_skipop' rfl rfl rfl ?_
           refine w_skipop' rfl rfl rfl ?_
           refine w_skipop' rfl rfl rfl ?_
           refine w_skipop' rfl rfl rfl ?_
           refine w_skipop' rfl rfl rfl ?_
           refine w_skipop' rfl rfl rfl ?_
           refine w_skipop rfl rfl rfl ?_
           refine w_p (y_pickF (v := _) rfl rfl rfl rfl) rfl ?_
           refine w_nil ?_
           refine q_then (hK99 _ _ ?_)
           refine w_condF rfl rfl ?_
           refine w_skip ?_
           refine q_blk_normal ?_
           refine q_then (hK95 _ _ ?_)
           refine w_region ?_
           refine w_p (y_move (v := .int _ _) rfl rfl) rfl ?_
           refine w_p (y_add rfl rfl rfl rfl (by omega) (by omega)) rfl ?_
           refine w_p (y_assign (v := .int _ _) rfl rfl) rfl ?_
           refine w_nil ?_
           refine q_then (hN87 _ _ (Nx.intro ((c.twice + 1 - (0 - c.skip)).toNat - (q + 1)) (by omega) (by repeat (first | exact agree_mix | refine agree_upd rfl ?_ | refine agree_updL rfl ?_ _ | refine agree_mixin rfl ?_)) ?_))
           first
             | exact ⟨q + 1, v, B, vi (by omega), by omega, rfl, by rw [sPart_n (.inl (by omega))]; exact hown2, hs⟩
             | (have hsh2 := hsh.trans (sh_t (n := z) (by omega) hs1.1 (show 0 ≤ load + (0 - c.skip + (q : Int)) by omega))
                exact ⟨q + 1, v, B, vi (by omega), by omega, rfl, by rw [sPart_n (.inr (by rw [hgs, ← hsh2]; omega))]; exact hown2, hs⟩)
         ·
          try simp only [zA, zB, zC, zD, zE, zF] at h94
          refine w_exit ?_
          refine q_then_exit ?_
          refine q_then_exit ?_
          refine q_blk_this ?_
          refine q_blk_normal ?_
          refine q_then (hK20 _ _ ?_)
          refine w_region ?_
          refine w_p (y_move (v := .int _ _) rfl rfl) rfl ?_
          refine w_p (y_add rfl rfl rfl rfl (by omega) (by omega)) rfl ?_
          refine w_p (y_assign (v := .int _ _) rfl rfl) rfl ?_
          refine w_nil ?_
          refine q_then (hN12 _ _ (Nx.intro (2 - (z + 1)) (by omega) (by repeat (first | exact agree_mix | refine agree_upd rfl ?_ | refine agree_updL rfl ?_ _ | refine agree_mixin rfl ?_)) ?_))
          first
            | exact ⟨z + 1, v, B, rfl, by omega, rfl, by rw [sTo_no (canZ_n (by omega) (by omega))]; exact hown, hs⟩
            | exact ⟨z + 1, v, B, rfl, by omega, rfl, by rw [sPart_all (canZ_y (by omega) (by omega)) (q := q) (by omega)]; exact hown2, hs⟩
    ·
     try simp only [zA, zB, zC, zD, zE, zF] at h26
     refine w_skipop rfl rfl rfl ?_
     refine w_skipop rfl rfl rfl ?_
     refine w_skipop rfl rfl rfl ?_
     refine w_skipop rfl rfl rfl ?_
     refine w_skipop rfl rfl rfl ?_
     refine w_skipop rfl rfl rfl ?_
     refine w_p (y_pickF (v := _) rfl rfl rfl rfl) rfl ?_
     refine w_p (y_move (v := .bool _) rfl rfl) rfl ?_
     refine w_y rfl rfl rfl (y_move (v := .int _ _) rfl rfl) rfl ?_
     refine w_y rfl rfl rfl (y_eql rfl rfl rfl rfl) rfl ?_
     refine w_y rfl rfl rfl (y_move (v := .bool _) rfl rfl) rfl ?_
     refine w_split (fun h120 => ?_) (fun h120 => ?_)
     ·
      try simp only [zA, zB, zC, zD, zE, zF] at h120
      refine w_y rfl rfl rfl (y_fieldAddr (o := 4) (i := 4) Try.underlying76 rfl Try.sizeOf39 rfl rfl rfl) rfl ?_
      refine w_y rfl rfl rfl (yd_slice hbz (y_load1 Try.isAgg39 hs rfl rfl (ats_own (i := 0) (vs := [_]) rfl rfl))) rfl ?_
      refine w_y rfl rfl rfl (y_move (v := .int _ _) rfl rfl) rfl ?_
      refine w_y rfl rfl rfl (y_indexS Try.underlying39 Try.sizeOf3 rfl rfl rfl rfl (i := a) rfl haz) rfl ?_
      refine w_y rfl rfl rfl (y_load1 Try.isAgg3 hs.tail.drop rfl rfl hxz) rfl ?_
      refine w_y rfl rfl rfl (y_eql rfl rfl rfl rfl) rfl ?_
      refine w_y rfl rfl rfl (y_pickT (v := .bool _) rfl rfl rfl rfl) rfl ?_
      refine w_p (y_pickF (v := .bool _) rfl rfl rfl rfl) rfl ?_
      refine w_nil ?_
      refine q_then (hK24 _ _ ?_)
      refine w_cond rfl rfl (fun h121 => ?_) (fun h121 => ?_)
      ·
       try simp only [zA, zB, zC, zD, zE, zF] at h121
       refine w_exit ?_
       refine q_then_exit ?_
       refine q_blk_this ?_
       refine q_then (hK20 _ _ ?_)
       refine w_region ?_
       refine w_p (y_move (v := .int _ _) rfl rfl) rfl ?_
       refine w_p (y_add rfl rfl rfl rfl (by omega) (by omega)) rfl ?_
       refine w_p (y_assign (v := .int _ _) rfl rfl) rfl ?_
       refine w_nil ?_
       refine q_then (hN12 _ _ (Nx.intro (2 - (z + 1)) (by omega) (by repeat (first | exact agree_mix | refine agree_upd rfl ?_ | refine agree_updL rfl ?_ _ | refine agree_mixin rfl ?_)) ?_))
       first
         | exact ⟨z + 1, v, B, rfl, by omega, rfl, by rw [sTo_no (canZ_n (by omega) (by omega))]; exact hown, hs⟩
         | exact ⟨z + 1, v, B, rfl, by omega, rfl, by rw [sPart_all (canZ_y (by omega) (by omega)) (q := q) (by omega)]; exact hown2, hs⟩
      ·
       try simp only [zA, zB, zC, zD, zE, zF] at h121
       refine w_skip ?_
       refine q_then (hK22 _ _ ?_)
       refine w_seq (fun K123 hK122 => ?_)
       refine w_region ?_
       refine w_p (y_move (v := .int _ _) rfl rfl) rfl ?_
       refine w_p (y_assign (v := .int _ _) rfl rfl) rfl ?_
       refine w_nil ?_
       refine q_then (hK122 _ _ ?_)
       refine w_seq (fun K125 hK124 => ?_)
       refine w_cut [11, 41, 42] [11] (fun vs w => vs = [.int .i64 (if z = 1 then 0 else s)] ∧ St w0 w ((b3, blk 76 (c.cells pc)) :: (B ++ F))) (fun K127 hC126 => ?_) ?_
       ·
        refine w_seq (fun K129 hK128 => ?_)
        refine w_region ?_
        refine w_p (y_move (v := .int _ _) rfl rfl) rfl ?_
        refine w_p (y_eql rfl rfl rfl rfl) rfl ?_
        refine w_nil ?_
        refine q_then (hK128 _ _ ?_)
        refine w_cond rfl rfl (fun h130 => ?_) (fun h130 => ?_)
        ·
         try simp only [zA, zB, zC, zD, zE, zF] at h130
         refine w_region ?_
         refine w_p (y_assign (v := _) rfl rfl) rfl ?_
         refine w_nil ?_
         refine q_then (hC126 _ _ (Md.intro (by repeat (first | exact agree_refl | exact agree_mix | refine agree_upd rfl ?_ | refine agree_updL rfl ?_ _ | refine agree_mixin rfl ?_)) ?_))
         first
           | exact ⟨by rw [if_pos (by omega)]; rfl, hs⟩
           | exact ⟨by rw [if_neg (by omega)]; rfl, hs⟩
        ·
         try simp only [zA, zB, zC, zD, zE, zF] at h130
         refine w_skip ?_
         refine q_then (hC126 _ _ (Md.intro (by repeat (first | exact agree_refl | exact agree_mix | refine agree_upd rfl ?_ | refine agree_updL rfl ?_ _ | refine agree_mixin rfl ?_)) ?_))
         first
           | exact ⟨by rw [if_pos (by omega)]; rfl, hs⟩
           | exact ⟨by rw [if_neg (by omega)]; rfl, hs⟩
       ·
        intro vs μ w131 hM
        obtain ⟨rfl, hs⟩ := hM
        have hif : 0 ≤ (if z = 1 then 0 else s) ∧ (if z = 1 then 0 else s) < 100 := by split <;> omega
        refine q_then (hK124 _ _ ?_)
        refine w_seq (fun K133 hK132 => ?_)
        refine w_region ?_
        refine w_p (y_fieldAddr (o := 1) (i := 1) Try.underlying76 rfl Try.sizeOf3 rfl rfl rfl) rfl ?_
        refine w_p (y_load1 Try.isAgg3 hs rfl rfl (ats_own (i := 0) (vs := [_]) rfl rfl)) rfl ?_
        refine w_p (y_sub rfl rfl rfl rfl (by omega) (by omega)) rfl ?_
        refine w_p (y_assign (v := .int _ _) rfl rfl) rfl ?_
        refine w_nil ?_
        refine q_then (hK132 _ _ ?_)
        refine w_block ?_
        refine w_loop [9, 12, 13, 46, 47, 48, 49, 50, 51, 52, 53, 54, 55, 56, 57, 58, 59, 60, 61, 62, 63, 64, 65, 66, 67, 68, 69, 70, 71, 72, 73, 74, 75, 76, 77, 78, 79, 80, 81, 82, 83, 84, 85, 86] [9, 12] (fun kk vs w => ∃ (q : Nat) (v : Value) (B : List (Nat × Obj)), vs = [v, .int .i64 (0 - c.skip + (q : Int))] ∧ q ≤ (c.twice + 1 - (0 - c.skip)).toNat ∧ kk = (c.twice + 1 - (0 - c.skip)).toNat - q ∧ Rt.Own v 144 3 ((sTo c a s load z) ++ sPart c a s load (decide (z = 1)) q).length (srows load ((sTo c a s load z) ++ sPart c a s load (decide (z = 1)) q)).flatten B ∧ St w0 w ((b3, blk 76 (c.cells pc)) :: (B ++ F))) ((c.twice + 1 - (0 - c.skip)).toNat) ?_ ?_
        ·
         exact ⟨0, v, B, vi (by omega), by omega, by omega, by rw [show sPart c a s load (decide (z = 1)) 0 = [] from rfl, List.append_nil]; exact hown, hs⟩
        ·
         intro k vs μ w136 hI K135 hN134
         clear hs
         obtain ⟨q, v, B, rfl, hqa, rfl, hown2, hs⟩ := hI
         have hpl := sPart_len c a s load (decide (z = 1)) q
         have hpa : ((sTo c a s load z) ++ sPart c a s load (decide (z = 1)) q).length = (sTo c a s load z).length + (sPart c a s load (decide (z = 1)) q).length := List.length_append
         refine w_seq (fun K138 hK137 => ?_)
         refine w_seq (fun K140 hK139 => ?_)
         refine w_region ?_
         refine w_p (y_move (v := .int _ _) rfl rfl) rfl ?_
         refine w_p (y_fieldAddr (o := 2) (i := 2) Try.underlying76 rfl Try.sizeOf3 rfl rfl rfl) rfl ?_
         refine w_p (y_load1 Try.isAgg3 hs rfl rfl (ats_own (i := 0) (vs := [_]) rfl rfl)) rfl ?_
         refine w_p (y_leq rfl rfl rfl rfl) rfl ?_
         refine w_nil ?_
         refine q_then (hK139 _ _ ?_)
         refine w_cond rfl rfl (fun h141 => ?_) (fun h141 => ?_)
         ·
          try simp only [zA, zB, zC, zD, zE, zF] at h141
          refine w_skip ?_
          refine q_then (hK137 _ _ ?_)
          refine w_seq (fun K143 hK142 => ?_)
          refine w_block ?_
          refine w_seq (fun K145 hK144 => ?_)
          refine w_region ?_
          refine w_p (y_move (v := .int _ _) rfl rfl) rfl ?_
          refine w_p (y_move (v := .int _ _) rfl rfl) rfl ?_
          refine w_p (y_add rfl rfl rfl rfl (by omega) (by omega)) rfl ?_
          refine w_p (y_move (v := .int _ _) rfl rfl) rfl ?_
          refine w_p (y_add rfl rfl rfl rfl (by omega) (by omega)) rfl ?_
          obtain ⟨sh, hsh⟩ : ∃ sh : Int, sh = Int.tmod ((if z = 1 then 0 else s) + load + (0 - c.skip + (q : Int))) 100 := ⟨_, rfl⟩
          refine w_p (yd_cast (z' := sh) hsh.symm (y_remT rfl rfl rfl rfl (by omega))) rfl ?_
          refine w_p (y_assign (v := .int _ _) rfl rfl) rfl ?_
          refine w_nil ?_
          refine q_then (hK144 _ _ ?_)
          refine w_seq (fun K147 hK146 => ?_)
          refine w_region ?_
          refine w_p (y_move (v := .int _ _) rfl rfl) rfl ?_
          refine w_p (y_move (v := .int _ _) rfl rfl) rfl ?_
          refine w_p (y_add rfl rfl rfl rfl (by omega) (by omega)) rfl ?_
          refine w_p (y_geq rfl rfl rfl rfl) rfl ?_
          refine w_p (y_move (v := .bool _) rfl rfl) rfl ?_
          refine w_split (fun h148 => ?_) (fun h148 => ?_)
          ·
           try simp only [zA, zB, zC, zD, zE, zF] at h148
           refine w_y rfl rfl rfl (y_fieldAddr (o := 5) (i := 5) Try.underlying76 rfl Try.sizeOf39 rfl rfl rfl) rfl ?_
           refine w_y rfl rfl rfl (yd_slice hbv (y_load1 Try.isAgg39 hs rfl rfl (ats_own (i := 0) (vs := [_]) rfl rfl))) rfl ?_
           refine w_y rfl rfl rfl (y_move (v := .int _ _) rfl rfl) rfl ?_
           refine w_y rfl rfl rfl (y_indexS Try.underlying39 Try.sizeOf3 rfl rfl rfl rfl (i := a) rfl has) rfl ?_
           refine w_y rfl rfl rfl (y_load1 Try.isAgg3 hs.tail.drop rfl rfl hxv) rfl ?_
           refine w_y rfl rfl rfl (y_eql rfl rfl rfl rfl) rfl ?_
           refine w_y rfl rfl rfl (y_move (v := .bool _) rfl rfl) rfl ?_
           refine w_split (fun h149 => ?_) (fun h149 => ?_)
           ·
            try simp only [zA, zB, zC, zD, zE, zF] at h149
            refine w_skipop rfl rfl rfl ?_
            refine w_skipop rfl rfl rfl ?_
            refine w_skipop rfl rfl rfl ?_
            refine w_skipop rfl rfl rfl ?_
            refine w_skipop rfl rfl rfl ?_
            refine w_skipop rfl rfl rfl ?_
            refine w_skipop rfl rfl rfl ?_
            refine w_y rfl rfl rfl (y_pickT (v := _) rfl rfl rfl rfl) rfl ?_
            refine w_p (y_pickT (v := .bool _) rfl rfl rfl rfl) rfl ?_
            refine w_nil ?_
            refine q_then (hK146 _ _ ?_)
            refine w_condT rfl rfl ?_
            have hsh2 := hsh.trans (sh_t (n := z) (by omega) hs1.1 (show 0 ≤ load + (0 - c.skip + (q : Int)) by omega))
            refine w_region ?_
            refine w_p (y_move (v := v) rfl rfl) rfl ?_
            refine w_p (y_move (v := .int _ _) rfl rfl) rfl ?_
            refine w_p (y_move (v := .int _ _) rfl rfl) rfl ?_
            refine w_p (y_move (v := .int _ _) rfl rfl) rfl ?_
            refine w_p (y_eql rfl rfl rfl rfl) rfl ?_
            refine w_p (y_build (ps := [(0, _), (1, _), (2, _)]) (pv := [(0, .int _ _), (1, .int _ _), (2, .bool _)]) rfl rfl (fun w => Try_T_fb5 _ _ _ w)) rfl ?_
            refine w_bslice (ps := [(0, _)]) (pv := [(0, .agg #[.int _ _, .int _ _, .bool _])]) (cs := [_, _, _]) want_none rfl rfl (fun w => Try_T_fb6 _ _ _ w) hs (fun b150 w151 hs152 => ?_)
            refine w_append (X := (_ :: _ :: [])) (B := B) (rows := [[_, _, _]]) (sz := 3) (bytes := 24) want_none Try.underlying141 Try_info144 rfl rfl rfl rfl rfl rfl rfl rfl rfl hs152 hown2 (sl_own (i := 0) rfl (by simp) rfl) rfl (by simp) (by simp [Value.oneCell']) (by simp only [maxLen]; omega) (by omega) (fun v153 w154 B155 ho156 hs157 => ?_)
            replace hs157 := (show St _ _ (_ :: _ :: B155 ++ (F)) from hs157)
            refine w_p (y_assign (v := v153) rfl rfl) rfl ?_
            refine w_nil ?_
            refine q_blk_normal ?_
            refine q_then (hK142 _ _ ?_)
            refine w_region ?_
            refine w_p (y_move (v := .int _ _) rfl rfl) rfl ?_
            refine w_p (y_add rfl rfl rfl rfl (by omega) (by omega)) rfl ?_
            refine w_p (y_assign (v := .int _ _) rfl rfl) rfl ?_
            refine w_nil ?_
            refine q_then (hN134 _ _ (Nx.intro ((c.twice + 1 - (0 - c.skip)).toNat - (q + 1)) (by omega) (by repeat (first | exact agree_mix | refine agree_upd rfl ?_ | refine agree_updL rfl ?_ _ | refine agree_mixin rfl ?_)) ?_))
            exact ⟨q + 1, _, _, vi (by omega), by omega, rfl, by rw [sPart_y (by omega) (by rw [hgs, ← hsh2]; omega), ← List.append_assoc]; exact own_stp ho156 hsh2 (by show _ = load + (0 - c.skip + (q : Int)) - load; omega) hzb, hs157.tail⟩
           ·
            try simp only [zA, zB, zC, zD, zE, zF] at h149
            refine w_y rfl rfl rfl (y_fieldAddr (o := 5) (i := 5) Try.underlying76 rfl Try.sizeOf39 rfl rfl rfl) rfl ?_
            refine w_y rfl rfl rfl (yd_slice hbv (y_load1 Try.isAgg39 hs rfl rfl (ats_own (i := 0) (vs := [_]) rfl rfl))) rfl ?_
            refine w_y rfl rfl rfl (y_move (v := .int _ _) rfl rfl) rfl ?_
            refine w_y rfl rfl rfl (y_indexS Try.underlying39 Try.sizeOf3 rfl rfl rfl rfl (i := a) rfl has) rfl ?_
            refine w_y rfl rfl rfl (y_load1 Try.isAgg3 hs.tail.drop rfl rfl hxv) rfl ?_
            refine w_y rfl rfl rfl (y_move (v := .int _ _) rfl rfl) rfl ?_
            refine w_y rfl rfl rfl (y_eql rfl rfl rfl rfl) rfl ?_
            refine w_y rfl rfl rfl (y_pickF (v := .bool _) rfl rfl rfl rfl) rfl ?_
            refine w_p (y_pickT (v := .bool _) rfl rfl rfl rfl) rfl ?_
            refine w_nil ?_
            refine q_then (hK146 _ _ ?_)
            refine w_cond rfl rfl (fun h158 => ?_) (fun h158 => ?_)
            ·
             try simp only [zA, zB, zC, zD, zE, zF] at h158
             have hsh2 := hsh.trans (sh_t (n := z) (by omega) hs1.1 (show 0 ≤ load + (0 - c.skip + (q : Int)) by omega))
             refine w_region ?_
             refine w_p (y_move (v := v) rfl rfl) rfl ?_
             refine w_p (y_move (v := .int _ _) rfl rfl) rfl ?_
             refine w_p (y_move (v := .int _ _) rfl rfl) rfl ?_
             refine w_p (y_move (v := .int _ _) rfl rfl) rfl ?_
             refine w_p (y_eql rfl rfl rfl rfl) rfl ?_
             refine w_p (y_build (ps := [(0, _), (1, _), (2, _)]) (pv := [(0, .int _ _), (1, .int _ _), (2, .bool _)]) rfl rfl (fun w => Try_T_fb5 _ _ _ w)) rfl ?_
             refine w_bslice (ps := [(0, _)]) (pv := [(0, .agg #[.int _ _, .int _ _, .bool _])]) (cs := [_, _, _]) want_none rfl rfl (fun w => Try_T_fb6 _ _ _ w) hs (fun b159 w160 hs161 => ?_)
             refine w_append (X := (_ :: _ :: [])) (B := B) (rows := [[_, _, _]]) (sz := 3) (bytes := 24) want_none Try.underlying141 Try_info144 rfl rfl rfl rfl rfl rfl rfl rfl rfl hs161 hown2 (sl_own (i := 0) rfl (by simp) rfl) rfl (by simp) (by simp [Value.oneCell']) (by simp only [maxLen]; omega) (by omega) (fun v162 w163 B164 ho165 hs166 => ?_)
             replace hs166 := (show St _ _ (_ :: _ :: B164 ++ (F)) from hs166)
             refine w_p (y_assign (v := v162) rfl rfl) rfl ?_
             refine w_nil ?_
             refine q_blk_normal ?_
             refine q_then (hK142 _ _ ?_)
             refine w_region ?_
             refine w_p (y_move (v := .int _ _) rfl rfl) rfl ?_
             refine w_p (y_add rfl rfl rfl rfl (by omega) (by omega)) rfl ?_
             refine w_p (y_assign (v := .int _ _) rfl rfl) rfl ?_
             refine w_nil ?_
             refine q_then (hN134 _ _ (Nx.intro ((c.twice + 1 - (0 - c.skip)).toNat - (q + 1)) (by omega) (by repeat (first | exact agree_mix | refine agree_upd rfl ?_ | refine agree_updL rfl ?_ _ | refine agree_mixin rfl ?_)) ?_))
             exact ⟨q + 1, _, _, vi (by omega), by omega, rfl, by rw [sPart_y (by omega) (by rw [hgs, ← hsh2]; omega), ← List.append_assoc]; exact own_stp ho165 hsh2 (by show _ = load + (0 - c.skip + (q : Int)) - load; omega) hzb, hs166.tail⟩
            ·
             try simp only [zA, zB, zC, zD, zE, zF] at h158
             refine w_skip ?_
             refine q_blk_normal ?_
             refine q_then (hK142 _ _ ?_)
             refine w_region ?_
             refine w_p (y_move (v := .int _ _) rfl rfl) rfl ?_
             refine w_p (y_add rfl rfl rfl rfl (by omega) (by omega)) rfl ?_
             refine w_p (y_assign (v := .int _ _) rfl rfl) rfl ?_
             refine w_nil ?_
             refine q_then (hN134 _ _ (Nx.intro ((c.twice + 1 - (0 - c.skip)).toNat - (q + 1)) (by omega) (by repeat (first | exact agree_mix | refine agree_upd rfl ?_ | refine agree_updL rfl ?_ _ | refine agree_mixin rfl ?_)) ?_))
             first
               | exact ⟨q + 1, v, B, vi (by omega), by omega, rfl, by rw [sPart_n (.inl (by omega))]; exact hown2, hs⟩
               | (have hsh2 := hsh.trans (sh_t (n := z) (by omega) hs1.1 (show 0 ≤ load + (0 - c.skip + (q : Int)) by omega))
                  exact ⟨q + 1, v, B, vi (by omega), by omega, rfl, by rw [sPart_n (.inr (by rw [hgs, ← hsh2]; omega))]; exact hown2, hs⟩)
          ·
           try simp only [zA, zB, zC, zD, zE, zF] at h148
           refine w_skipop rfl rfl rfl ?_
           refine w_skipop rfl rfl rfl ?_
           refine w_skipop rfl rfl rfl ?_
           refine w_skipop rfl rfl rfl ?_
           refine w_skipop rfl rfl rfl ?_
           refine w_skipop rfl rfl rfl ?_
           refine w_skipop rfl rfl rfl ?_
           refine w_skipop' rfl rfl rfl ?_
           refine w_skipop' rfl rfl rfl ?_
           refine w_skipop' rfl rfl rfl ?_
           refine w_skipop' rfl rfl rfl ?_
           refine w_skipop' rfl rfl rfl ?_
           refine w_skipop' rfl rfl rfl ?_
           refine w_skipop' rfl rfl rfl ?_
           refine w_skipop rfl rfl rfl ?_
           refine w_p (y_pickF (v := _) rfl rfl rfl rfl) rfl ?_
           refine w_nil ?_
           refine q_then (hK146 _ _ ?_)
           refine w_condF rfl rfl ?_
           refine w_skip ?_
           refine q_blk_normal ?_
           refine q_then (hK142 _ _ ?_)
           refine w_region ?_
           refine w_p (y_move (v := .int _ _) rfl rfl) rfl ?_
           refine w_p (y_add rfl rfl rfl rfl (by omega) (by omega)) rfl ?_
           refine w_p (y_assign (v := .int _ _) rfl rfl) rfl ?_
           refine w_nil ?_
           refine q_then (hN134 _ _ (Nx.intro ((c.twice + 1 - (0 - c.skip)).toNat - (q + 1)) (by omega) (by repeat (first | exact agree_mix | refine agree_upd rfl ?_ | refine agree_updL rfl ?_ _ | refine agree_mixin rfl ?_)) ?_))
           first
             | exact ⟨q + 1, v, B, vi (by omega), by omega, rfl, by rw [sPart_n (.inl (by omega))]; exact hown2, hs⟩
             | (have hsh2 := hsh.trans (sh_t (n := z) (by omega) hs1.1 (show 0 ≤ load + (0 - c.skip + (q : Int)) by omega))
                exact ⟨q + 1, v, B, vi (by omega), by omega, rfl, by rw [sPart_n (.inr (by rw [hgs, ← hsh2]; omega))]; exact hown2, hs⟩)
         ·
          try simp only [zA, zB, zC, zD, zE, zF] at h141
          refine w_exit ?_
          refine q_then_exit ?_
          refine q_then_exit ?_
          refine q_blk_this ?_
          refine q_blk_normal ?_
          refine q_then (hK20 _ _ ?_)
          refine w_region ?_
          refine w_p (y_move (v := .int _ _) rfl rfl) rfl ?_
          refine w_p (y_add rfl rfl rfl rfl (by omega) (by omega)) rfl ?_
          refine w_p (y_assign (v := .int _ _) rfl rfl) rfl ?_
          refine w_nil ?_
          refine q_then (hN12 _ _ (Nx.intro (2 - (z + 1)) (by omega) (by repeat (first | exact agree_mix | refine agree_upd rfl ?_ | refine agree_updL rfl ?_ _ | refine agree_mixin rfl ?_)) ?_))
          first
            | exact ⟨z + 1, v, B, rfl, by omega, rfl, by rw [sTo_no (canZ_n (by omega) (by omega))]; exact hown, hs⟩
            | exact ⟨z + 1, v, B, rfl, by omega, rfl, by rw [sPart_all (canZ_y (by omega) (by omega)) (q := q) (by omega)]; exact hown2, hs⟩
     ·
      try simp only [zA, zB, zC, zD, zE, zF] at h120
      refine w_skipop rfl rfl rfl ?_
      refine w_skipop rfl rfl rfl ?_
      refine w_skipop rfl rfl rfl ?_
      refine w_skipop rfl rfl rfl ?_
      refine w_skipop rfl rfl rfl ?_
      refine w_skipop rfl rfl rfl ?_
      refine w_y rfl rfl rfl (y_pickF (v := _) rfl rfl rfl rfl) rfl ?_
      refine w_p (y_pickF (v := .bool _) rfl rfl rfl rfl) rfl ?_
      refine w_nil ?_
      refine q_then (hK24 _ _ ?_)
      refine w_condF rfl rfl ?_
      refine w_skip ?_
      refine q_then (hK22 _ _ ?_)
      refine w_seq (fun K168 hK167 => ?_)
      refine w_region ?_
      refine w_p (y_move (v := .int _ _) rfl rfl) rfl ?_
      refine w_p (y_assign (v := .int _ _) rfl rfl) rfl ?_
      refine w_nil ?_
      refine q_then (hK167 _ _ ?_)
      refine w_seq (fun K170 hK169 => ?_)
      refine w_cut [11, 41, 42] [11] (fun vs w => vs = [.int .i64 (if z = 1 then 0 else s)] ∧ St w0 w ((b3, blk 76 (c.cells pc)) :: (B ++ F))) (fun K172 hC171 => ?_) ?_
      ·
       refine w_seq (fun K174 hK173 => ?_)
       refine w_region ?_
       refine w_p (y_move (v := .int _ _) rfl rfl) rfl ?_
       refine w_p (y_eql rfl rfl rfl rfl) rfl ?_
       refine w_nil ?_
       refine q_then (hK173 _ _ ?_)
       refine w_cond rfl rfl (fun h175 => ?_) (fun h175 => ?_)
       ·
        try simp only [zA, zB, zC, zD, zE, zF] at h175
        refine w_region ?_
        refine w_p (y_assign (v := _) rfl rfl) rfl ?_
        refine w_nil ?_
        refine q_then (hC171 _ _ (Md.intro (by repeat (first | exact agree_refl | exact agree_mix | refine agree_upd rfl ?_ | refine agree_updL rfl ?_ _ | refine agree_mixin rfl ?_)) ?_))
        first
          | exact ⟨by rw [if_pos (by omega)]; rfl, hs⟩
          | exact ⟨by rw [if_neg (by omega)]; rfl, hs⟩
       ·
        try simp only [zA, zB, zC, zD, zE, zF] at h175
        refine w_skip ?_
        refine q_then (hC171 _ _ (Md.intro (by repeat (first | exact agree_refl | exact agree_mix | refine agree_upd rfl ?_ | refine agree_updL rfl ?_ _ | refine agree_mixin rfl ?_)) ?_))
        first
          | exact ⟨by rw [if_pos (by omega)]; rfl, hs⟩
          | exact ⟨by rw [if_neg (by omega)]; rfl, hs⟩
      ·
       intro vs μ w176 hM
       obtain ⟨rfl, hs⟩ := hM
       have hif : 0 ≤ (if z = 1 then 0 else s) ∧ (if z = 1 then 0 else s) < 100 := by split <;> omega
       refine q_then (hK169 _ _ ?_)
       refine w_seq (fun K178 hK177 => ?_)
       refine w_region ?_
       refine w_p (y_fieldAddr (o := 1) (i := 1) Try.underlying76 rfl Try.sizeOf3 rfl rfl rfl) rfl ?_
       refine w_p (y_load1 Try.isAgg3 hs rfl rfl (ats_own (i := 0) (vs := [_]) rfl rfl)) rfl ?_
       refine w_p (y_sub rfl rfl rfl rfl (by omega) (by omega)) rfl ?_
       refine w_p (y_assign (v := .int _ _) rfl rfl) rfl ?_
       refine w_nil ?_
       refine q_then (hK177 _ _ ?_)
       refine w_block ?_
       refine w_loop [9, 12, 13, 46, 47, 48, 49, 50, 51, 52, 53, 54, 55, 56, 57, 58, 59, 60, 61, 62, 63, 64, 65, 66, 67, 68, 69, 70, 71, 72, 73, 74, 75, 76, 77, 78, 79, 80, 81, 82, 83, 84, 85, 86] [9, 12] (fun kk vs w => ∃ (q : Nat) (v : Value) (B : List (Nat × Obj)), vs = [v, .int .i64 (0 - c.skip + (q : Int))] ∧ q ≤ (c.twice + 1 - (0 - c.skip)).toNat ∧ kk = (c.twice + 1 - (0 - c.skip)).toNat - q ∧ Rt.Own v 144 3 ((sTo c a s load z) ++ sPart c a s load (decide (z = 1)) q).length (srows load ((sTo c a s load z) ++ sPart c a s load (decide (z = 1)) q)).flatten B ∧ St w0 w ((b3, blk 76 (c.cells pc)) :: (B ++ F))) ((c.twice + 1 - (0 - c.skip)).toNat) ?_ ?_
       ·
        exact ⟨0, v, B, vi (by omega), by omega, by omega, by rw [show sPart c a s load (decide (z = 1)) 0 = [] from rfl, List.append_nil]; exact hown, hs⟩
       ·
        intro k vs μ w181 hI K180 hN179
        clear hs
        obtain ⟨q, v, B, rfl, hqa, rfl, hown2, hs⟩ := hI
        have hpl := sPart_len c a s load (decide (z = 1)) q
        have hpa : ((sTo c a s load z) ++ sPart c a s load (decide (z = 1)) q).length = (sTo c a s load z).length + (sPart c a s load (decide (z = 1)) q).length := List.length_append
        refine w_seq (fun K183 hK182 => ?_)
        refine w_seq (fun K185 hK184 => ?_)
        refine w_region ?_
        refine w_p (y_move (v := .int _ _) rfl rfl) rfl ?_
        refine w_p (y_fieldAddr (o := 2) (i := 2) Try.underlying76 rfl Try.sizeOf3 rfl rfl rfl) rfl ?_
        refine w_p (y_load1 Try.isAgg3 hs rfl rfl (ats_own (i := 0) (vs := [_]) rfl rfl)) rfl ?_
        refine w_p (y_leq rfl rfl rfl rfl) rfl ?_
        refine w_nil ?_
        refine q_then (hK184 _ _ ?_)
        refine w_cond rfl rfl (fun h186 => ?_) (fun h186 => ?_)
        ·
         try simp only [zA, zB, zC, zD, zE, zF] at h186
         refine w_skip ?_
         refine q_then (hK182 _ _ ?_)
         refine w_seq (fun K188 hK187 => ?_)
         refine w_block ?_
         refine w_seq (fun K190 hK189 => ?_)
         refine w_region ?_
         refine w_p (y_move (v := .int _ _) rfl rfl) rfl ?_
         refine w_p (y_move (v := .int _ _) rfl rfl) rfl ?_
         refine w_p (y_add rfl rfl rfl rfl (by omega) (by omega)) rfl ?_
         refine w_p (y_move (v := .int _ _) rfl rfl) rfl ?_
         refine w_p (y_add rfl rfl rfl rfl (by omega) (by omega)) rfl ?_
         obtain ⟨sh, hsh⟩ : ∃ sh : Int, sh = Int.tmod ((if z = 1 then 0 else s) + load + (0 - c.skip + (q : Int))) 100 := ⟨_, rfl⟩
         refine w_p (yd_cast (z' := sh) hsh.symm (y_remT rfl rfl rfl rfl (by omega))) rfl ?_
         refine w_p (y_assign (v := .int _ _) rfl rfl) rfl ?_
         refine w_nil ?_
         refine q_then (hK189 _ _ ?_)
         refine w_seq (fun K192 hK191 => ?_)
         refine w_region ?_
         refine w_p (y_move (v := .int _ _) rfl rfl) rfl ?_
         refine w_p (y_move (v := .int _ _) rfl rfl) rfl ?_
         refine w_p (y_add rfl rfl rfl rfl (by omega) (by omega)) rfl ?_
         refine w_p (y_geq rfl rfl rfl rfl) rfl ?_
         refine w_p (y_move (v := .bool _) rfl rfl) rfl ?_
         refine w_split (fun h193 => ?_) (fun h193 => ?_)
         ·
          try simp only [zA, zB, zC, zD, zE, zF] at h193
          refine w_y rfl rfl rfl (y_fieldAddr (o := 5) (i := 5) Try.underlying76 rfl Try.sizeOf39 rfl rfl rfl) rfl ?_
          refine w_y rfl rfl rfl (yd_slice hbv (y_load1 Try.isAgg39 hs rfl rfl (ats_own (i := 0) (vs := [_]) rfl rfl))) rfl ?_
          refine w_y rfl rfl rfl (y_move (v := .int _ _) rfl rfl) rfl ?_
          refine w_y rfl rfl rfl (y_indexS Try.underlying39 Try.sizeOf3 rfl rfl rfl rfl (i := a) rfl has) rfl ?_
          refine w_y rfl rfl rfl (y_load1 Try.isAgg3 hs.tail.drop rfl rfl hxv) rfl ?_
          refine w_y rfl rfl rfl (y_eql rfl rfl rfl rfl) rfl ?_
          refine w_y rfl rfl rfl (y_move (v := .bool _) rfl rfl) rfl ?_
          refine w_split (fun h194 => ?_) (fun h194 => ?_)
          ·
           try simp only [zA, zB, zC, zD, zE, zF] at h194
           refine w_skipop rfl rfl rfl ?_
           refine w_skipop rfl rfl rfl ?_
           refine w_skipop rfl rfl rfl ?_
           refine w_skipop rfl rfl rfl ?_
           refine w_skipop rfl rfl rfl ?_
           refine w_skipop rfl rfl rfl ?_
           refine w_skipop rfl rfl rfl ?_
           refine w_y rfl rfl rfl (y_pickT (v := _) rfl rfl rfl rfl) rfl ?_
           refine w_p (y_pickT (v := .bool _) rfl rfl rfl rfl) rfl ?_
           refine w_nil ?_
           refine q_then (hK191 _ _ ?_)
           refine w_condT rfl rfl ?_
           have hsh2 := hsh.trans (sh_t (n := z) (by omega) hs1.1 (show 0 ≤ load + (0 - c.skip + (q : Int)) by omega))
           refine w_region ?_
           refine w_p (y_move (v := v) rfl rfl) rfl ?_
           refine w_p (y_move (v := .int _ _) rfl rfl) rfl ?_
           refine w_p (y_move (v := .int _ _) rfl rfl) rfl ?_
           refine w_p (y_move (v := .int _ _) rfl rfl) rfl ?_
           refine w_p (y_eql rfl rfl rfl rfl) rfl ?_
           refine w_p (y_build (ps := [(0, _), (1, _), (2, _)]) (pv := [(0, .int _ _), (1, .int _ _), (2, .bool _)]) rfl rfl (fun w => Try_T_fb5 _ _ _ w)) rfl ?_
           refine w_bslice (ps := [(0, _)]) (pv := [(0, .agg #[.int _ _, .int _ _, .bool _])]) (cs := [_, _, _]) want_none rfl rfl (fun w => Try_T_fb6 _ _ _ w) hs (fun b195 w196 hs197 => ?_)
           refine w_append (X := (_ :: _ :: [])) (B := B) (rows := [[_, _, _]]) (sz := 3) (bytes := 24) want_none Try.underlying141 Try_info144 rfl rfl rfl rfl rfl rfl rfl rfl rfl hs197 hown2 (sl_own (i := 0) rfl (by simp) rfl) rfl (by simp) (by simp [Value.oneCell']) (by simp only [maxLen]; omega) (by omega) (fun v198 w199 B200 ho201 hs202 => ?_)
           replace hs202 := (show St _ _ (_ :: _ :: B200 ++ (F)) from hs202)
           refine w_p (y_assign (v := v198) rfl rfl) rfl ?_
           refine w_nil ?_
           refine q_blk_normal ?_
           refine q_then (hK187 _ _ ?_)
           refine w_region ?_
           refine w_p (y_move (v := .int _ _) rfl rfl) rfl ?_
           refine w_p (y_add rfl rfl rfl rfl (by omega) (by omega)) rfl ?_
           refine w_p (y_assign (v := .int _ _) rfl rfl) rfl ?_
           refine w_nil ?_
           refine q_then (hN179 _ _ (Nx.intro ((c.twice + 1 - (0 - c.skip)).toNat - (q + 1)) (by omega) (by repeat (first | exact agree_mix | refine agree_upd rfl ?_ | refine agree_updL rfl ?_ _ | refine agree_mixin rfl ?_)) ?_))
           exact ⟨q + 1, _, _, vi (by omega), by omega, rfl, by rw [sPart_y (by omega) (by rw [hgs, ← hsh2]; omega), ← List.append_assoc]; exact own_stp ho201 hsh2 (by show _ = load + (0 - c.skip + (q : Int)) - load; omega) hzb, hs202.tail⟩
          ·
           try simp only [zA, zB, zC, zD, zE, zF] at h194
           refine w_y rfl rfl rfl (y_fieldAddr (o := 5) (i := 5) Try.underlying76 rfl Try.sizeOf39 rfl rfl rfl) rfl ?_
           refine w_y rfl rfl rfl (yd_slice hbv (y_load1 Try.isAgg39 hs rfl rfl (ats_own (i := 0) (vs := [_]) rfl rfl))) rfl ?_
           refine w_y rfl rfl rfl (y_move (v := .int _ _) rfl rfl) rfl ?_
           refine w_y rfl rfl rfl (y_indexS Try.underlying39 Try.sizeOf3 rfl rfl rfl rfl (i := a) rfl has) rfl ?_
           refine w_y rfl rfl rfl (y_load1 Try.isAgg3 hs.tail.drop rfl rfl hxv) rfl ?_
           refine w_y rfl rfl rfl (y_move (v := .int _ _) rfl rfl) rfl ?_
           refine w_y rfl rfl rfl (y_eql rfl rfl rfl rfl) rfl ?_
           refine w_y rfl rfl rfl (y_pickF (v := .bool _) rfl rfl rfl rfl) rfl ?_
           refine w_p (y_pickT (v := .bool _) rfl rfl rfl rfl) rfl ?_
           refine w_nil ?_
           refine q_then (hK191 _ _ ?_)
           refine w_cond rfl rfl (fun h203 => ?_) (fun h203 => ?_)
           ·
            try simp only [zA, zB, zC, zD, zE, zF] at h203
            have hsh2 := hsh.trans (sh_t (n := z) (by omega) hs1.1 (show 0 ≤ load + (0 - c.skip + (q : Int)) by omega))
            refine w_region ?_
            refine w_p (y_move (v := v) rfl rfl) rfl ?_
            refine w_p (y_move (v := .int _ _) rfl rfl) rfl ?_
            refine w_p (y_move (v := .int _ _) rfl rfl) rfl ?_
            refine w_p (y_move (v := .int _ _) rfl rfl) rfl ?_
            refine w_p (y_eql rfl rfl rfl rfl) rfl ?_
            refine w_p (y_build (ps := [(0, _), (1, _), (2, _)]) (pv := [(0, .int _ _), (1, .int _ _), (2, .bool _)]) rfl rfl (fun w => Try_T_fb5 _ _ _ w)) rfl ?_
            refine w_bslice (ps := [(0, _)]) (pv := [(0, .agg #[.int _ _, .int _ _, .bool _])]) (cs := [_, _, _]) want_none rfl rfl (fun w => Try_T_fb6 _ _ _ w) hs (fun b204 w205 hs206 => ?_)
            refine w_append (X := (_ :: _ :: [])) (B := B) (rows := [[_, _, _]]) (sz := 3) (bytes := 24) want_none Try.underlying141 Try_info144 rfl rfl rfl rfl rfl rfl rfl rfl rfl hs206 hown2 (sl_own (i := 0) rfl (by simp) rfl) rfl (by simp) (by simp [Value.oneCell']) (by simp only [maxLen]; omega) (by omega) (fun v207 w208 B209 ho210 hs211 => ?_)
            replace hs211 := (show St _ _ (_ :: _ :: B209 ++ (F)) from hs211)
            refine w_p (y_assign (v := v207) rfl rfl) rfl ?_
            refine w_nil ?_
            refine q_blk_normal ?_
            refine q_then (hK187 _ _ ?_)
            refine w_region ?_
            refine w_p (y_move (v := .int _ _) rfl rfl) rfl ?_
            refine w_p (y_add rfl rfl rfl rfl (by omega) (by omega)) rfl ?_
            refine w_p (y_assign (v := .int _ _) rfl rfl) rfl ?_
            refine w_nil ?_
            refine q_then (hN179 _ _ (Nx.intro ((c.twice + 1 - (0 - c.skip)).toNat - (q + 1)) (by omega) (by repeat (first | exact agree_mix | refine agree_upd rfl ?_ | refine agree_updL rfl ?_ _ | refine agree_mixin rfl ?_)) ?_))
            exact ⟨q + 1, _, _, vi (by omega), by omega, rfl, by rw [sPart_y (by omega) (by rw [hgs, ← hsh2]; omega), ← List.append_assoc]; exact own_stp ho210 hsh2 (by show _ = load + (0 - c.skip + (q : Int)) - load; omega) hzb, hs211.tail⟩
           ·
            try simp only [zA, zB, zC, zD, zE, zF] at h203
            refine w_skip ?_
            refine q_blk_normal ?_
            refine q_then (hK187 _ _ ?_)
            refine w_region ?_
            refine w_p (y_move (v := .int _ _) rfl rfl) rfl ?_
            refine w_p (y_add rfl rfl rfl rfl (by omega) (by omega)) rfl ?_
            refine w_p (y_assign (v := .int _ _) rfl rfl) rfl ?_
            refine w_nil ?_
            refine q_then (hN179 _ _ (Nx.intro ((c.twice + 1 - (0 - c.skip)).toNat - (q + 1)) (by omega) (by repeat (first | exact agree_mix | refine agree_upd rfl ?_ | refine agree_updL rfl ?_ _ | refine agree_mixin rfl ?_)) ?_))
            first
              | exact ⟨q + 1, v, B, vi (by omega), by omega, rfl, by rw [sPart_n (.inl (by omega))]; exact hown2, hs⟩
              | (have hsh2 := hsh.trans (sh_t (n := z) (by omega) hs1.1 (show 0 ≤ load + (0 - c.skip + (q : Int)) by omega))
                 exact ⟨q + 1, v, B, vi (by omega), by omega, rfl, by rw [sPart_n (.inr (by rw [hgs, ← hsh2]; omega))]; exact hown2, hs⟩)
         ·
          try simp only [zA, zB, zC, zD, zE, zF] at h193
          refine w_skipop rfl rfl rfl ?_
          refine w_skipop rfl rfl rfl ?_
          refine w_skipop rfl rfl rfl ?_
          refine w_skipop rfl rfl rfl ?_
          refine w_skipop rfl rfl rfl ?_
          refine w_skipop rfl rfl rfl ?_
          refine w_skipop rfl rfl rfl ?_
          refine w_skipop' rfl rfl rfl ?_
          refine w_skipop' rfl rfl rfl ?_
          refine w_skipop' rfl rfl rfl ?_
          refine w_skipop' rfl rfl rfl ?_
          refine w_skipop' rfl rfl rfl ?_
          refine w_skipop' rfl rfl rfl ?_
          refine w_skipop' rfl rfl rfl ?_
          refine w_skipop rfl rfl rfl ?_
          refine w_p (y_pickF (v := _) rfl rfl rfl rfl) rfl ?_
          refine w_nil ?_
          refine q_then (hK191 _ _ ?_)
          refine w_condF rfl rfl ?_
          refine w_skip ?_
          refine q_blk_normal ?_
          refine q_then (hK187 _ _ ?_)
          refine w_region ?_
          refine w_p (y_move (v := .int _ _) rfl rfl) rfl ?_
          refine w_p (y_add rfl rfl rfl rfl (by omega) (by omega)) rfl ?_
          refine w_p (y_assign (v := .int _ _) rfl rfl) rfl ?_
          refine w_nil ?_
          refine q_then (hN179 _ _ (Nx.intro ((c.twice + 1 - (0 - c.skip)).toNat - (q + 1)) (by omega) (by repeat (first | exact agree_mix | refine agree_upd rfl ?_ | refine agree_updL rfl ?_ _ | refine agree_mixin rfl ?_)) ?_))
          first
            | exact ⟨q + 1, v, B, vi (by omega), by omega, rfl, by rw [sPart_n (.inl (by omega))]; exact hown2, hs⟩
            | (have hsh2 := hsh.trans (sh_t (n := z) (by omega) hs1.1 (show 0 ≤ load + (0 - c.skip + (q : Int)) by omega))
               exact ⟨q + 1, v, B, vi (by omega), by omega, rfl, by rw [sPart_n (.inr (by rw [hgs, ← hsh2]; omega))]; exact hown2, hs⟩)
        ·
         try simp only [zA, zB, zC, zD, zE, zF] at h186
         refine w_exit ?_
         refine q_then_exit ?_
         refine q_then_exit ?_
         refine q_blk_this ?_
         refine q_blk_normal ?_
         refine q_then (hK20 _ _ ?_)
         refine w_region ?_
         refine w_p (y_move (v := .int _ _) rfl rfl) rfl ?_
         refine w_p (y_add rfl rfl rfl rfl (by omega) (by omega)) rfl ?_
         refine w_p (y_assign (v := .int _ _) rfl rfl) rfl ?_
         refine w_nil ?_
         refine q_then (hN12 _ _ (Nx.intro (2 - (z + 1)) (by omega) (by repeat (first | exact agree_mix | refine agree_upd rfl ?_ | refine agree_updL rfl ?_ _ | refine agree_mixin rfl ?_)) ?_))
         first
           | exact ⟨z + 1, v, B, rfl, by omega, rfl, by rw [sTo_no (canZ_n (by omega) (by omega))]; exact hown, hs⟩
           | exact ⟨z + 1, v, B, rfl, by omega, rfl, by rw [sPart_all (canZ_y (by omega) (by omega)) (q := q) (by omega)]; exact hown2, hs⟩
   ·
    try simp only [zA, zB, zC, zD, zE, zF] at h19
    refine w_exit ?_
    refine q_then_exit ?_
    refine q_then_exit ?_
    refine q_blk_this ?_
    refine q_then (hK8 _ _ ?_)
    refine w_seq (fun K213 hK212 => ?_)
    refine w_region ?_
    refine w_p (y_move (v := v) rfl rfl) rfl ?_
    refine w_p (y_assign (v := v) rfl rfl) rfl ?_
    refine w_nil ?_
    refine q_then (hK212 _ _ ?_)
    refine w_ret ?_
    refine q_ret (l := [.tmp 8]) (vs := [_]) rfl ⟨⟨rfl, show _ = (v : Value) from rfl⟩, trivial⟩ ?_
    have hz2 : z = 2 := by omega
    subst hz2
    rw [sTo_two] at hown
    obtain ⟨x, cap, rfl, hsl, _, _⟩ := own_rows0 (w0 := w0) hown (srows_row _ _) (by simp [srows]) rfl
    exact ⟨x, cap, B, rfl, hsl, hs.tail⟩

theorem c102 {w0 w : World} {F : List (Nat × Obj)} (aa : Option Addr) (ca : Nat) (l : List Bool) (hll : l.length ≤ 9223372036854775807) (hl : Sl w0 F aa 1 (l.map fun x => [Value.bool x])) (hs : St w0 w F) :
  Con Try.prog 102 [.slice aa l.length ca] w fun v w' => v = .bool (l.any fun x => x) ∧ St w0 w' F := by
  refine con_of_wc (n := 19) Try.func102 rfl rfl (Nat.le_of_ble_eq_true rfl) ?_
  refine w_seq (fun K2 hK1 => ?_)
  refine w_region ?_
  refine w_p (y_assign (v := _) rfl rfl) rfl ?_
  refine w_nil ?_
  refine q_then (hK1 _ _ ?_)
  refine w_seq (fun K4 hK3 => ?_)
  refine w_region ?_
  refine w_p (y_assign (v := _) rfl rfl) rfl ?_
  refine w_nil ?_
  refine q_then (hK3 _ _ ?_)
  refine w_seq (fun K6 hK5 => ?_)
  refine w_seq (fun K8 hK7 => ?_)
  refine w_region ?_
  refine w_p (y_assign (v := _) rfl rfl) rfl ?_
  refine w_nil ?_
  refine q_then (hK7 _ _ ?_)
  refine w_block ?_
  refine w_loop [3, 4, 5, 6, 7, 8, 9, 10, 11, 12, 13, 14, 15, 16, 17] [3, 4] (fun k vs w => ∃ i : Nat, vs = [.bool ((l.take i).any fun x => x), .int .i64 i] ∧ i ≤ l.length ∧ k = l.length - i ∧ St w0 w F) (l.length) ?_ ?_
  ·
   exact ⟨0, rfl, by omega, by omega, hs⟩
  ·
   intro k vs μ w11 hI K10 hN9
   obtain ⟨i, rfl, hia, rfl, hs⟩ := hI
   generalize hb : ((l.take i).any fun x => x) = b
   refine w_seq (fun K13 hK12 => ?_)
   refine w_seq (fun K15 hK14 => ?_)
   refine w_region ?_
   refine w_p (y_move (v := .int _ _) rfl rfl) rfl ?_
   refine w_p (y_move (v := .slice _ _ _) rfl rfl) rfl ?_
   refine w_p (y_lenS Try.underlying50 rfl rfl) rfl ?_
   refine w_p (y_lss rfl rfl rfl rfl) rfl ?_
   refine w_nil ?_
   refine q_then (hK14 _ _ ?_)
   refine w_cond rfl rfl (fun h16 => ?_) (fun h16 => ?_)
   ·
    try simp only [zA, zB, zC, zD, zE, zF] at h16
    refine w_skip ?_
    refine q_then (hK12 _ _ ?_)
    refine w_seq (fun K18 hK17 => ?_)
    refine w_block ?_
    have hi2 : i < l.length := by omega
    obtain ⟨bx, ox, hbx, hx⟩ := sl_boolsR hl hi2
    subst hbx
    refine w_region ?_
    refine w_p (y_move (v := .bool _) rfl rfl) rfl ?_
    refine w_p (y_move (v := .bool _) rfl rfl) rfl ?_
    refine w_split (fun h19 => ?_) (fun h19 => ?_)
    ·
     subst h19
     refine w_skipop rfl rfl rfl ?_
     refine w_skipop rfl rfl rfl ?_
     refine w_skipop rfl rfl rfl ?_
     refine w_skipop rfl rfl rfl ?_
     refine w_p (y_pickT (v := _) rfl rfl rfl rfl) rfl ?_
     refine w_p (y_assign (v := .bool _) rfl rfl) rfl ?_
     refine w_nil ?_
     refine q_blk_normal ?_
     refine q_then (hK17 _ _ ?_)
     refine w_region ?_
     refine w_p (y_move (v := .int _ _) rfl rfl) rfl ?_
     refine w_p (y_add rfl rfl rfl rfl (by omega) (by omega)) rfl ?_
     refine w_p (y_assign (v := .int _ _) rfl rfl) rfl ?_
     refine w_nil ?_
     refine q_then (hN9 _ _ (Nx.intro (l.length - (i + 1)) (by omega) (by repeat (first | exact agree_mix | refine agree_upd rfl ?_ | refine agree_updL rfl ?_ _ | refine agree_mixin rfl ?_)) ?_))
     first
       | exact ⟨i + 1, bi2 (by rw [any_id hi2, hb]; simp) rfl, by omega, rfl, hs⟩
       | exact ⟨i + 1, bi2 (by rw [any_id hi2, hb]; rfl) rfl, by omega, rfl, hs⟩
    ·
     subst h19
     refine w_y rfl rfl rfl (y_move (v := .slice _ _ _) rfl rfl) rfl ?_
     refine w_y rfl rfl rfl (y_move (v := .int _ _) rfl rfl) rfl ?_
     refine w_y rfl rfl rfl (y_indexS Try.underlying50 Try.sizeOf4 rfl rfl rfl rfl (i := _) rfl (by omega)) rfl ?_
     refine w_y rfl rfl rfl (y_load1 Try.isAgg4 hs rfl rfl hx) rfl ?_
     refine w_p (y_pickF (v := .bool _) rfl rfl rfl rfl) rfl ?_
     refine w_p (y_assign (v := .bool _) rfl rfl) rfl ?_
     refine w_nil ?_
     refine q_blk_normal ?_
     refine q_then (hK17 _ _ ?_)
     refine w_region ?_
     refine w_p (y_move (v := .int _ _) rfl rfl) rfl ?_
     refine w_p (y_add rfl rfl rfl rfl (by omega) (by omega)) rfl ?_
     refine w_p (y_assign (v := .int _ _) rfl rfl) rfl ?_
     refine w_nil ?_
     refine q_then (hN9 _ _ (Nx.intro (l.length - (i + 1)) (by omega) (by repeat (first | exact agree_mix | refine agree_upd rfl ?_ | refine agree_updL rfl ?_ _ | refine agree_mixin rfl ?_)) ?_))
     first
       | exact ⟨i + 1, bi2 (by rw [any_id hi2, hb]; simp) rfl, by omega, rfl, hs⟩
       | exact ⟨i + 1, bi2 (by rw [any_id hi2, hb]; rfl) rfl, by omega, rfl, hs⟩
   ·
    try simp only [zA, zB, zC, zD, zE, zF] at h16
    refine w_exit ?_
    refine q_then_exit ?_
    refine q_then_exit ?_
    refine q_blk_this ?_
    refine q_then (hK5 _ _ ?_)
    refine w_seq (fun K21 hK20 => ?_)
    refine w_region ?_
    refine w_p (y_move (v := .bool _) rfl rfl) rfl ?_
    refine w_p (y_assign (v := .bool _) rfl rfl) rfl ?_
    refine w_nil ?_
    refine q_then (hK20 _ _ ?_)
    refine w_ret ?_
    refine q_ret (l := [.tmp 2]) (vs := [_]) rfl ⟨⟨rfl, show _ = (.bool _ : Value) from rfl⟩, trivial⟩ ?_
    exact ⟨congrArg Value.bool (by have hil : i = l.length := (by omega); subst hil; rw [List.take_length] at hb; exact hb.symm), hs⟩

end Go.Proofs
