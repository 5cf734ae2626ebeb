/- Own texts of this claim, joined. No conditions. -/
import GoSem.Core.Value
import Derived.Test.YtgndnnpadkoagaaHChainLookeda
import Derived.Test.YtgndnnpadkoagaaHChainLookedb
import Derived.Test.YtgndnnpadkoagaaHChainLookedc
import Derived.Test.YtgndnnpadkoagaaHChainLookedd
import Derived.Test.YtgndnnpadkoagaaHChainLookede
import Derived.Test.YtgndnnpadkoagaaHChainLookedf
import Derived.Test.YtgndnnpadkoagaaHChainLookedg
/- Walks of this seat, printed by gen.py over the engine: what each function returns, in whatever world. No conditions but those of each contract. -/
set_option linter.unusedVariables false
set_option linter.unusedSimpArgs false
set_option maxRecDepth 20000
namespace Go.Proofs
open Go.Rt Go.Rt.Ch
open Go.Rt.Ha (firstE firstE_step firstE_stop firstE_end failE nameE felt spanL upto span_mem listL fewest fewTo bit before fewStep drop_lt drop_get drop_next drop_done drop_notin set_take set_zero take_less)
attribute [local irreducible] WL WC Con Yd At Ats Sl Agree DW
theorem Try_N_fb3 (x0 : Int) (w : World) : (Instr.buildSlice 39 1 [(0, .int .i64 x0)].toArray).run Try.prog w = .ok (.slice (some ⟨w.heap.size, 0, none⟩) 1 1) (w.alloc (Go.Rt.blk 3 [.int .i64 x0])) := by kernel_rfl
theorem bit_not_one {b k : Nat} (h : ¬ ((bit b k : Nat) : Int) = 1) : ¬ bit b k = 1 := fun e => h (by rw [e]; rfl)
theorem bit_one {b k : Nat} (h : ((bit b k : Nat) : Int) = 1) : bit b k = 1 := by omega
theorem listL_sl {w0 : World} {L : List (Nat × Obj)} {i b : Nat} {t : TypeId} {x n : Nat} (hi : L[i]? = some (b, blk t (iv (listTo x n n)))) (hc : listL x n ≠ []) : Sl w0 L (some ⟨b, 0, none⟩) 1 ((listL x n).map fun x => [Value.int .i64 x]) := by
  have h := Sl.cut (w0 := w0) (l' := 0) (h' := (listL x n).length) (c := n) (sl_ints_own hi) (Nat.zero_le _) (by have := listL_le x n; simp [listTo_len x n n (Nat.le_refl _)]; omega) (by simp [listTo_len x n n (Nat.le_refl _)])
  rw [← List.map_drop, List.drop_zero, Nat.sub_zero, ← List.map_take, listTo_take] at h
  have hn : n ≠ 0 := by rintro rfl; exact hc rfl
  rw [if_neg hn] at h
  have e : (some (⟨b, 0, none⟩ : Addr)).map (·.add (0 * 1)) = some ⟨b, 0, none⟩ := rfl
  rwa [e] at h
theorem listL_slc {w0 : World} {L : List (Nat × Obj)} {b : Nat} {t : TypeId} {x n : Nat} (hi : L[0]? = some (b, blk t (iv (listTo x n n)))) : Sl w0 L (if n = 0 then some ⟨b, 0, none⟩ else (some (⟨b, 0, none⟩ : Addr)).map (·.add (0 * 1))) 1 ((listL x n).map fun x => [Value.int .i64 x]) := by
  by_cases hc : listL x n = []
  · rw [hc]; exact Sl.nil _ _
  · have hn : n ≠ 0 := by rintro rfl; exact hc rfl
    rw [if_neg hn]
    exact listL_sl hi hc
theorem cmp_here {a b : List Int} {i : Nat} (h : a.take i = b.take i) (ha : i < a.length) (hb : i < b.length) (hne : ¬ cmpI a[i] b[i] = 0) : decide (0 < cmpI a[i] b[i]) = less b a := by
  have hn : a[i] ≠ b[i] := fun e => hne (by unfold cmpI; rw [e]; simp)
  rw [less_here h.symm hb ha (fun e => hn e.symm)]
  unfold cmpI
  rw [Bool.eq_iff_iff]
  simp only [decide_eq_true_eq]
  split
  · simp; omega
  · split <;> simp <;> omega
theorem c104 {w0 w : World} {F : List (Nat × Obj)} (x n : Nat) (hx : x < 1000) (hn : n ≤ 40) (hs : St w0 w F) :
  Con Try.prog 104 [.int .i64 x, .int .i64 n] w fun v w' => ∃ B a c, v = .slice a (listL x n).length c ∧ Sl w0 B a 1 ((listL x n).map fun x => [Value.int .i64 x]) ∧ St w0 w' (B ++ F) := by
  refine con_of_wc (n := 31) Try.func104 rfl rfl (Nat.le_of_ble_eq_true rfl) ?_
  refine w_seq (fun K2 hK1 => ?_)
  refine w_region ?_
  refine w_p (y_assign (v := _) rfl rfl) rfl ?_
  refine w_nil ?_
  refine q_then (hK1 _ _ ?_)
  refine w_seq (fun K4 hK3 => ?_)
  refine w_region ?_
  refine w_p (y_move (v := .int _ _) rfl rfl) rfl ?_
  refine w_makeInts (k := n) want_none Try.underlying39 Try_info3 rfl rfl (by omega) rfl rfl rfl rfl rfl hs (fun b5 w6 hs7 => ?_)
  refine w_p (y_assign (v := .slice _ _ _) rfl rfl) rfl ?_
  refine w_nil ?_
  refine q_then (hK3 _ _ ?_)
  refine w_seq (fun K9 hK8 => ?_)
  refine w_region ?_
  refine w_p (y_assign (v := _) rfl rfl) rfl ?_
  refine w_nil ?_
  refine q_then (hK8 _ _ ?_)
  refine w_seq (fun K11 hK10 => ?_)
  refine w_seq (fun K13 hK12 => ?_)
  refine w_region ?_
  refine w_p (y_move (v := .int _ _) rfl rfl) rfl ?_
  refine w_p (y_move (v := _) rfl rfl) rfl ?_
  refine w_nil ?_
  refine q_then (hK12 _ _ ?_)
  refine w_block ?_
  refine w_loop [6, 7, 11, 12, 13, 14, 15, 16, 17, 18, 19, 20, 21, 22, 23, 24, 25, 26, 27] [6, 11] (fun k vs w => ∃ i : Nat, vs = [.int .i64 (listL x i).length, .int .i64 i] ∧ i ≤ n ∧ k = n - i ∧ St w0 w ((b5, blk 3 (iv (listTo x n i))) :: F)) (n) ?_ ?_
  ·
   exact ⟨0, rfl, by omega, by omega, by rw [listTo_zero]; exact hs7⟩
  ·
   intro k vs μ w16 hI K15 hN14
   obtain ⟨i, rfl, hia, rfl, hs⟩ := hI
   have hll := listL_le x i
   refine w_seq (fun K18 hK17 => ?_)
   refine w_region ?_
   refine w_p (y_lss rfl rfl rfl rfl) rfl ?_
   refine w_nil ?_
   refine q_then (hK17 _ _ ?_)
   refine w_seq (fun K20 hK19 => ?_)
   refine w_cond rfl rfl (fun h21 => ?_) (fun h21 => ?_)
   ·
    try simp only [zA, zB, zC, zD, zE, zF] at h21
    refine w_skip ?_
    refine q_then (hK19 _ _ ?_)
    refine w_seq (fun K23 hK22 => ?_)
    refine w_block ?_
    refine w_seq (fun K25 hK24 => ?_)
    refine w_region ?_
    refine w_p (y_move (v := .int _ _) rfl rfl) rfl ?_
    refine w_p (y_assign (v := .int _ _) rfl rfl) rfl ?_
    refine w_nil ?_
    refine q_then (hK24 _ _ ?_)
    refine w_seq (fun K27 hK26 => ?_)
    refine w_region ?_
    refine w_p (y_move (v := .int _ _) rfl rfl) rfl ?_
    refine w_p (y_move (v := .int _ _) rfl rfl) rfl ?_
    refine w_p (y_shr (x := _) (y := _) rfl rfl rfl rfl rfl rfl (by first | omega | exact shr_lt (by omega))) rfl ?_
    refine w_p (show Yd _ _ _ _ (.int .i64 ((bit x i : Nat) : Int)) from (y_and (x := _) (y := 1) rfl rfl rfl rfl rfl rfl (by first | omega | exact shr_lt (by omega)) (by first | omega | exact shr_lt (by omega)))) rfl ?_
    refine w_p (y_eql rfl rfl rfl rfl) rfl ?_
    refine w_nil ?_
    refine q_then (hK26 _ _ ?_)
    refine w_cond rfl rfl (fun h28 => ?_) (fun h28 => ?_)
    ·
     try simp only [zA, zB, zC, zD, zE, zF] at h28
     refine w_region ?_
     refine w_p (y_move (v := .int _ _) rfl rfl) rfl ?_
     refine w_p (y_move (v := .slice _ _ _) rfl rfl) rfl ?_
     refine w_p (y_move (v := .int _ _) rfl rfl) rfl ?_
     refine w_p (y_sliceS (l' := (listL x i).length) (h' := _) Try.underlying39 Try.sizeOf3 rfl rfl ⟨rfl, _, _, rfl, rfl⟩ rfl (by omega) (by omega)) rfl ?_
     refine w_p (y_move (v := .int _ _) rfl rfl) rfl ?_
     refine w_bslice (ps := [(0, _)]) (pv := [(0, .int _ _)]) (cs := [_]) want_none rfl rfl (fun w => Try_N_fb3 _ w) hs (fun b29 w30 hs31 => ?_)
     refine w_copy1 (i := 1) (i2 := 0) want_none Try.underlying39 Try.sizeOf3 rfl rfl rfl rfl hs31 rfl rfl (by omega) (by first | omega | rfl | (simp only [listTo_len x n i (by omega), List.length_map, List.length_set, List.length_append, List.length_take, List.length_drop, List.length_replicate, List.length_cons, List.length_nil] <;> omega)) (fun w32 hs33 => ?_)
     refine w_p (y_add rfl rfl rfl rfl (by omega) (by omega)) rfl ?_
     refine w_p (y_assign (v := .int _ _) rfl rfl) rfl ?_
     refine w_nil ?_
     refine q_blk_normal ?_
     refine q_then (hK22 _ _ ?_)
     refine w_region ?_
     refine w_p (y_add rfl rfl rfl rfl (by omega) (by omega)) rfl ?_
     refine w_p (y_move (v := .int _ _) rfl rfl) rfl ?_
     refine w_nil ?_
     refine q_then (hN14 _ _ (Nx.intro (n - (i + 1)) (by omega) (by repeat (first | exact agree_mix | refine agree_upd rfl ?_ | refine agree_updL rfl ?_ _ | refine agree_mixin rfl ?_)) ?_))
     first
       | exact ⟨i + 1, iv2 (by rw [listL_yes (bit_one (by assumption)), List.length_append]; rfl) rfl, by omega, rfl, by have hq := hs33.tail; rw [listTo_yes (by omega) (bit_one (by assumption))] at hq; exact hq⟩
       | exact ⟨i + 1, iv2 (by rw [listL_no (bit_not_one (by assumption))]) rfl, by omega, rfl, by rw [← listTo_no (bit_not_one (by assumption))]; exact hs33⟩
    ·
     try simp only [zA, zB, zC, zD, zE, zF] at h28
     refine w_skip ?_
     refine q_blk_normal ?_
     refine q_then (hK22 _ _ ?_)
     refine w_region ?_
     refine w_p (y_add rfl rfl rfl rfl (by omega) (by omega)) rfl ?_
     refine w_p (y_move (v := .int _ _) rfl rfl) rfl ?_
     refine w_nil ?_
     refine q_then (hN14 _ _ (Nx.intro (n - (i + 1)) (by omega) (by repeat (first | exact agree_mix | refine agree_upd rfl ?_ | refine agree_updL rfl ?_ _ | refine agree_mixin rfl ?_)) ?_))
     first
       | exact ⟨i + 1, iv2 (by rw [listL_yes (bit_one (by assumption)), List.length_append]; rfl) rfl, by omega, rfl, by have hq := hs.tail; rw [listTo_yes (by omega) (bit_one (by assumption))] at hq; exact hq⟩
       | exact ⟨i + 1, iv2 (by rw [listL_no (bit_not_one (by assumption))]) rfl, by omega, rfl, by rw [← listTo_no (bit_not_one (by assumption))]; exact hs⟩
   ·
    try simp only [zA, zB, zC, zD, zE, zF] at h21
    refine w_exit ?_
    refine q_then_exit ?_
    refine q_then_exit ?_
    refine q_blk_this ?_
    refine q_then (hK10 _ _ ?_)
    refine w_seq (fun K35 hK34 => ?_)
    refine w_region ?_
    refine w_p (y_move (v := .slice _ _ _) rfl rfl) rfl ?_
    refine w_p (y_move (v := .int _ _) rfl rfl) rfl ?_
    refine w_p (y_sliceS (l' := 0) (h' := (listL x i).length) Try.underlying39 Try.sizeOf3 rfl rfl rfl ⟨rfl, _, _, rfl, rfl⟩ (by omega) (by omega)) rfl ?_
    refine w_p (y_assign (v := .slice _ _ _) rfl rfl) rfl ?_
    refine w_nil ?_
    refine q_then (hK34 _ _ ?_)
    refine w_ret ?_
    refine q_ret (l := [.tmp 4]) (vs := [_]) rfl ⟨⟨rfl, show _ = (.slice _ _ _ : Value) from rfl⟩, trivial⟩ ?_
    have hin : i = n := by omega
    subst hin
    exact ⟨[_], _, _, rfl, listL_slc (L := [_]) rfl, hs⟩

theorem c112 {w0 w : World} {F : List (Nat × Obj)} (x : Int) (hs : St w0 w F) :
  Con Try.prog 112 [.int .i64 x] w fun v w' => v = .bool false ∧ St w0 w' F := by
  refine con_of_wc (n := 6) Try.func112 rfl rfl (Nat.le_of_ble_eq_true rfl) ?_
  refine w_seq (fun K2 hK1 => ?_)
  refine w_region ?_
  refine w_p (y_assign (v := _) rfl rfl) rfl ?_
  refine w_nil ?_
  refine q_then (hK1 _ _ ?_)
  refine w_seq (fun K4 hK3 => ?_)
  refine w_region ?_
  refine w_p (y_move (v := .int _ _) rfl rfl) rfl ?_
  refine w_p (y_move (v := .int _ _) rfl rfl) rfl ?_
  refine w_p (y_neq rfl rfl rfl rfl) rfl ?_
  refine w_p (y_assign (v := .bool _) rfl rfl) rfl ?_
  refine w_nil ?_
  refine q_then (hK3 _ _ ?_)
  refine w_ret ?_
  refine q_ret (l := [.tmp 2]) (vs := [_]) rfl ⟨⟨rfl, show _ = (.bool _ : Value) from rfl⟩, trivial⟩ ?_
  exact ⟨by simp [retV], hs⟩

theorem c111 {w0 w : World} {F : List (Nat × Obj)} (a b : Int) (hs : St w0 w F) :
  Con Try.prog 111 [.int .i64 a, .int .i64 b] w fun v w' => v = .int .i64 (cmpI a b) ∧ St w0 w' F := by
  refine con_of_wc (n := 20) Try.func111 rfl rfl (Nat.le_of_ble_eq_true rfl) ?_
  refine w_seq (fun K2 hK1 => ?_)
  refine w_region ?_
  refine w_p (y_assign (v := _) rfl rfl) rfl ?_
  refine w_nil ?_
  refine q_then (hK1 _ _ ?_)
  refine w_seq (fun K4 hK3 => ?_)
  refine w_region ?_
  refine w_p (y_move (v := .int _ _) rfl rfl) rfl ?_
  refine w_call want_none Try.call112 rfl rfl rfl rfl (c112 _ hs) ?_
  rintro _ w6 ⟨rfl, hs7⟩
  refine w_p (y_assign (v := .bool _) rfl rfl) rfl ?_
  refine w_nil ?_
  refine q_then (hK3 _ _ ?_)
  refine w_seq (fun K9 hK8 => ?_)
  refine w_region ?_
  refine w_p (y_move (v := .int _ _) rfl rfl) rfl ?_
  refine w_call want_none Try.call112 rfl rfl rfl rfl (c112 _ hs7) ?_
  rintro _ w11 ⟨rfl, hs12⟩
  refine w_p (y_assign (v := .bool _) rfl rfl) rfl ?_
  refine w_nil ?_
  refine q_then (hK8 _ _ ?_)
  refine w_seq (fun K14 hK13 => ?_)
  refine w_seq (fun K16 hK15 => ?_)
  refine w_region ?_
  refine w_p (y_move (v := .bool _) rfl rfl) rfl ?_
  refine w_nil ?_
  refine q_then (hK15 _ _ ?_)
  refine w_condF rfl rfl ?_
  refine w_skip ?_
  refine q_then (hK13 _ _ ?_)
  refine w_seq (fun K18 hK17 => ?_)
  refine w_seq (fun K20 hK19 => ?_)
  refine w_region ?_
  refine w_p (y_move (v := .bool _) rfl rfl) rfl ?_
  refine w_nil ?_
  refine q_then (hK19 _ _ ?_)
  refine w_condF rfl rfl ?_
  refine w_skip ?_
  refine q_then (hK17 _ _ ?_)
  refine w_seq (fun K22 hK21 => ?_)
  refine w_seq (fun K24 hK23 => ?_)
  refine w_region ?_
  refine w_p (y_move (v := .int _ _) rfl rfl) rfl ?_
  refine w_p (y_move (v := .int _ _) rfl rfl) rfl ?_
  refine w_p (y_lss rfl rfl rfl rfl) rfl ?_
  refine w_nil ?_
  refine q_then (hK23 _ _ ?_)
  refine w_cond rfl rfl (fun h25 => ?_) (fun h25 => ?_)
  ·
   try simp only [zA, zB, zC, zD, zE, zF] at h25
   refine w_seq (fun K27 hK26 => ?_)
   refine w_region ?_
   refine w_p (y_assign (v := _) rfl rfl) rfl ?_
   refine w_nil ?_
   refine q_then (hK26 _ _ ?_)
   refine w_ret ?_
   refine q_then_ret ?_
   refine q_ret (l := [.tmp 4]) (vs := [_]) rfl ⟨⟨rfl, show _ = (.int _ _ : Value) from rfl⟩, trivial⟩ ?_
   exact ⟨congrArg (Value.int .i64) (by unfold cmpI; (repeat' split) <;> first | rfl | omega), hs12⟩
  ·
   try simp only [zA, zB, zC, zD, zE, zF] at h25
   refine w_skip ?_
   refine q_then (hK21 _ _ ?_)
   refine w_seq (fun K29 hK28 => ?_)
   refine w_seq (fun K31 hK30 => ?_)
   refine w_region ?_
   refine w_p (y_move (v := .int _ _) rfl rfl) rfl ?_
   refine w_p (y_move (v := .int _ _) rfl rfl) rfl ?_
   refine w_p (y_gtr rfl rfl rfl rfl) rfl ?_
   refine w_nil ?_
   refine q_then (hK30 _ _ ?_)
   refine w_cond rfl rfl (fun h32 => ?_) (fun h32 => ?_)
   ·
    try simp only [zA, zB, zC, zD, zE, zF] at h32
    refine w_seq (fun K34 hK33 => ?_)
    refine w_region ?_
    refine w_p (y_assign (v := _) rfl rfl) rfl ?_
    refine w_nil ?_
    refine q_then (hK33 _ _ ?_)
    refine w_ret ?_
    refine q_then_ret ?_
    refine q_ret (l := [.tmp 4]) (vs := [_]) rfl ⟨⟨rfl, show _ = (.int _ _ : Value) from rfl⟩, trivial⟩ ?_
    exact ⟨congrArg (Value.int .i64) (by unfold cmpI; (repeat' split) <;> first | rfl | omega), hs12⟩
   ·
    try simp only [zA, zB, zC, zD, zE, zF] at h32
    refine w_skip ?_
    refine q_then (hK28 _ _ ?_)
    refine w_seq (fun K36 hK35 => ?_)
    refine w_region ?_
    refine w_p (y_assign (v := _) rfl rfl) rfl ?_
    refine w_nil ?_
    refine q_then (hK35 _ _ ?_)
    refine w_ret ?_
    refine q_ret (l := [.tmp 4]) (vs := [_]) rfl ⟨⟨rfl, show _ = (.int _ _ : Value) from rfl⟩, trivial⟩ ?_
    exact ⟨congrArg (Value.int .i64) (by unfold cmpI; (repeat' split) <;> first | rfl | omega), hs12⟩

theorem c105 {w0 w : World} {F : List (Nat × Obj)} (aa ab : Option Addr) (a b : List Int) (ca cb : Nat) (hla : a.length ≤ 9223372036854775807) (hlb : b.length ≤ 9223372036854775807) (ha : Sl w0 F aa 1 (a.map fun x => [Value.int .i64 x])) (hb : Sl w0 F ab 1 (b.map fun x => [Value.int .i64 x])) (hs : St w0 w F) :
  Con Try.prog 105 [.slice aa a.length ca, .slice ab b.length cb] w fun v w' => (∃ z, v = .int .i64 z ∧ decide (0 < z) = less b a) ∧ St w0 w' F := by
  refine con_of_wc (n := 36) Try.func105 rfl rfl (Nat.le_of_ble_eq_true rfl) ?_
  refine w_seq (fun K2 hK1 => ?_)
  refine w_region ?_
  refine w_p (y_assign (v := _) rfl rfl) rfl ?_
  refine w_nil ?_
  refine q_then (hK1 _ _ ?_)
  refine w_seq (fun K4 hK3 => ?_)
  refine w_seq (fun K6 hK5 => ?_)
  refine w_region ?_
  refine w_p (y_move (v := .slice _ _ _) rfl rfl) rfl ?_
  refine w_p (y_lenS Try.underlying39 rfl rfl) rfl ?_
  refine w_p (y_move (v := _) rfl rfl) rfl ?_
  refine w_nil ?_
  refine q_then (hK5 _ _ ?_)
  refine w_block ?_
  refine w_loop [4, 5, 6, 7, 8, 11, 12, 13, 14, 15, 16, 17, 18, 19, 20, 21, 22, 23, 24, 25, 26, 27, 28, 29, 30] [11] (fun k vs w => ∃ i : Nat, vs = [.int .i64 i] ∧ i ≤ a.length ∧ i ≤ b.length ∧ k = a.length - i ∧ a.take i = b.take i ∧ St w0 w F) (a.length) ?_ ?_
  ·
   exact ⟨0, rfl, by omega, by omega, by omega, rfl, hs⟩
  ·
   intro k vs μ w9 hI K8 hN7
   obtain ⟨i, rfl, hia, hib, rfl, hpre, hs⟩ := hI
   refine w_seq (fun K11 hK10 => ?_)
   refine w_region ?_
   refine w_p (y_lss rfl rfl rfl rfl) rfl ?_
   refine w_nil ?_
   refine q_then (hK10 _ _ ?_)
   refine w_seq (fun K13 hK12 => ?_)
   refine w_cond rfl rfl (fun h14 => ?_) (fun h14 => ?_)
   ·
    try simp only [zA, zB, zC, zD, zE, zF] at h14
    refine w_skip ?_
    refine q_then (hK12 _ _ ?_)
    refine w_seq (fun K16 hK15 => ?_)
    refine w_block ?_
    refine w_seq (fun K18 hK17 => ?_)
    have hia2 : i < a.length := by omega
    obtain ⟨ba, oa, rfl, hxa⟩ := sl_ints ha hia2
    refine w_region ?_
    refine w_p (y_move (v := .int _ _) rfl rfl) rfl ?_
    refine w_p (y_indexS Try.underlying39 Try.sizeOf3 rfl rfl rfl rfl (i := _) rfl (by omega)) rfl ?_
    refine w_p (y_load1 Try.isAgg3 hs rfl rfl hxa) rfl ?_
    refine w_p (y_assign (v := .int _ _) rfl rfl) rfl ?_
    refine w_p (y_assign (v := .int _ _) rfl rfl) rfl ?_
    refine w_nil ?_
    refine q_then (hK17 _ _ ?_)
    refine w_seq (fun K20 hK19 => ?_)
    refine w_seq (fun K22 hK21 => ?_)
    refine w_region ?_
    refine w_p (y_move (v := .int _ _) rfl rfl) rfl ?_
    refine w_p (y_move (v := .slice _ _ _) rfl rfl) rfl ?_
    refine w_p (y_lenS Try.underlying39 rfl rfl) rfl ?_
    refine w_p (y_geq rfl rfl rfl rfl) rfl ?_
    refine w_nil ?_
    refine q_then (hK21 _ _ ?_)
    refine w_cond rfl rfl (fun h23 => ?_) (fun h23 => ?_)
    ·
     try simp only [zA, zB, zC, zD, zE, zF] at h23
     refine w_seq (fun K25 hK24 => ?_)
     refine w_region ?_
     refine w_p (y_assign (v := _) rfl rfl) rfl ?_
     refine w_nil ?_
     refine q_then (hK24 _ _ ?_)
     refine w_ret ?_
     refine q_then_ret ?_
     refine q_blk_ret ?_
     refine q_then_ret ?_
     refine q_then_ret ?_
     refine q_blk_ret ?_
     refine q_then_ret ?_
     refine q_ret (l := [.tmp 4]) (vs := [_]) rfl ⟨⟨rfl, show _ = (.int _ _ : Value) from rfl⟩, trivial⟩ ?_
     first
       | exact ⟨⟨_, rfl, cmp_here hpre hia2 hib2 (by assumption)⟩, hs⟩
       | exact ⟨⟨_, rfl, by rw [less_short hpre.symm (by omega) (by omega)]; rfl⟩, hs⟩
       | exact ⟨⟨_, rfl, by rw [less_end hpre.symm hib (by omega)]; rfl⟩, hs⟩
    ·
     try simp only [zA, zB, zC, zD, zE, zF] at h23
     refine w_skip ?_
     refine q_then (hK19 _ _ ?_)
     refine w_seq (fun K27 hK26 => ?_)
     have hib2 : i < b.length := by omega
     obtain ⟨bb, ob, rfl, hxb⟩ := sl_ints hb hib2
     refine w_region ?_
     refine w_p (y_move (v := .slice _ _ _) rfl rfl) rfl ?_
     refine w_p (y_move (v := .int _ _) rfl rfl) rfl ?_
     refine w_p (y_indexS Try.underlying39 Try.sizeOf3 rfl rfl rfl rfl (i := _) rfl (by omega)) rfl ?_
     refine w_p (y_load1 Try.isAgg3 hs rfl rfl hxb) rfl ?_
     refine w_p (y_assign (v := .int _ _) rfl rfl) rfl ?_
     refine w_nil ?_
     refine q_then (hK26 _ _ ?_)
     refine w_seq (fun K29 hK28 => ?_)
     refine w_region ?_
     refine w_p (y_move (v := .int _ _) rfl rfl) rfl ?_
     refine w_p (y_move (v := .int _ _) rfl rfl) rfl ?_
     refine w_call want_none Try.call111 rfl rfl rfl rfl (c111 _ _ hs) ?_
     rintro _ w31 ⟨rfl, hs32⟩
     refine w_p (y_assign (v := .int _ _) rfl rfl) rfl ?_
     refine w_nil ?_
     refine q_then (hK28 _ _ ?_)
     refine w_seq (fun K34 hK33 => ?_)
     refine w_region ?_
     refine w_p (y_move (v := .int _ _) rfl rfl) rfl ?_
     refine w_p (y_neq rfl rfl rfl rfl) rfl ?_
     refine w_nil ?_
     refine q_then (hK33 _ _ ?_)
     refine w_cond rfl rfl (fun h35 => ?_) (fun h35 => ?_)
     ·
      try simp only [zA, zB, zC, zD, zE, zF] at h35
      refine w_seq (fun K37 hK36 => ?_)
      refine w_region ?_
      refine w_p (y_move (v := .int _ _) rfl rfl) rfl ?_
      refine w_p (y_assign (v := .int _ _) rfl rfl) rfl ?_
      refine w_nil ?_
      refine q_then (hK36 _ _ ?_)
      refine w_ret ?_
      refine q_blk_ret ?_
      refine q_then_ret ?_
      refine q_then_ret ?_
      refine q_blk_ret ?_
      refine q_then_ret ?_
      refine q_ret (l := [.tmp 4]) (vs := [_]) rfl ⟨⟨rfl, show _ = (.int _ _ : Value) from rfl⟩, trivial⟩ ?_
      first
        | exact ⟨⟨_, rfl, cmp_here hpre hia2 hib2 (by assumption)⟩, hs32⟩
        | exact ⟨⟨_, rfl, by rw [less_short hpre.symm (by omega) (by omega)]; rfl⟩, hs32⟩
        | exact ⟨⟨_, rfl, by rw [less_end hpre.symm hib (by omega)]; rfl⟩, hs32⟩
     ·
      try simp only [zA, zB, zC, zD, zE, zF] at h35
      refine w_skip ?_
      refine q_blk_normal ?_
      refine q_then (hK15 _ _ ?_)
      refine w_region ?_
      refine w_p (y_add rfl rfl rfl rfl (by omega) (by omega)) rfl ?_
      refine w_p (y_move (v := .int _ _) rfl rfl) rfl ?_
      refine w_nil ?_
      refine q_then (hN7 _ _ (Nx.intro (a.length - (i + 1)) (by omega) (by repeat (first | exact agree_mix | refine agree_upd rfl ?_ | refine agree_updL rfl ?_ _ | refine agree_mixin rfl ?_)) ?_))
      exact ⟨i + 1, rfl, by omega, by omega, rfl, take_snoc_eq hpre (by omega) (by omega) (cmp_zero (by assumption)), hs32⟩
   ·
    try simp only [zA, zB, zC, zD, zE, zF] at h14
    refine w_exit ?_
    refine q_then_exit ?_
    refine q_then_exit ?_
    refine q_blk_this ?_
    refine q_then (hK3 _ _ ?_)
    refine w_seq (fun K39 hK38 => ?_)
    refine w_seq (fun K41 hK40 => ?_)
    refine w_region ?_
    refine w_p (y_move (v := .slice _ _ _) rfl rfl) rfl ?_
    refine w_p (y_lenS Try.underlying39 rfl rfl) rfl ?_
    refine w_p (y_move (v := .slice _ _ _) rfl rfl) rfl ?_
    refine w_p (y_lenS Try.underlying39 rfl rfl) rfl ?_
    refine w_p (y_lss rfl rfl rfl rfl) rfl ?_
    refine w_nil ?_
    refine q_then (hK40 _ _ ?_)
    refine w_cond rfl rfl (fun h42 => ?_) (fun h42 => ?_)
    ·
     try simp only [zA, zB, zC, zD, zE, zF] at h42
     refine w_seq (fun K44 hK43 => ?_)
     refine w_region ?_
     refine w_p (y_assign (v := _) rfl rfl) rfl ?_
     refine w_nil ?_
     refine q_then (hK43 _ _ ?_)
     refine w_ret ?_
     refine q_then_ret ?_
     refine q_ret (l := [.tmp 4]) (vs := [_]) rfl ⟨⟨rfl, show _ = (.int _ _ : Value) from rfl⟩, trivial⟩ ?_
     first
       | exact ⟨⟨_, rfl, cmp_here hpre hia2 hib2 (by assumption)⟩, hs⟩
       | exact ⟨⟨_, rfl, by rw [less_short hpre.symm (by omega) (by omega)]; rfl⟩, hs⟩
       | exact ⟨⟨_, rfl, by rw [less_end hpre.symm hib (by omega)]; rfl⟩, hs⟩
    ·
     try simp only [zA, zB, zC, zD, zE, zF] at h42
     refine w_skip ?_
     refine q_then (hK38 _ _ ?_)
     refine w_seq (fun K46 hK45 => ?_)
     refine w_region ?_
     refine w_p (y_assign (v := _) rfl rfl) rfl ?_
     refine w_nil ?_
     refine q_then (hK45 _ _ ?_)
     refine w_ret ?_
     refine q_ret (l := [.tmp 4]) (vs := [_]) rfl ⟨⟨rfl, show _ = (.int _ _ : Value) from rfl⟩, trivial⟩ ?_
     first
       | exact ⟨⟨_, rfl, cmp_here hpre hia2 hib2 (by assumption)⟩, hs⟩
       | exact ⟨⟨_, rfl, by rw [less_short hpre.symm (by omega) (by omega)]; rfl⟩, hs⟩
       | exact ⟨⟨_, rfl, by rw [less_end hpre.symm hib (by omega)]; rfl⟩, hs⟩

theorem c78 {w0 w : World} {M F : List (Nat × Obj)} (n : Nat) (hn : n ≤ 8) (fv : Value) (d : Nat → Bool) (I : List (Nat × Obj) → Prop) (hd : ∀ (s : Nat) (M X : List (Nat × Obj)) (w : World), s < 1 <<< n → I M → St w0 w (X ++ (M ++ F)) → FCon Try.prog fv [.int .i64 (s : Int)] w fun v w' => v = .bool (d s) ∧ ∃ M', I M' ∧ St w0 w' (X ++ (M' ++ F))) (hI0 : I M) (hs : St w0 w (M ++ F)) :
  Con Try.prog 78 [.int .i64 (n : Int), fv] w fun v w' => ∃ B M' a c, v = .slice a (fewest d n).1.length c ∧ Sl w0 B a 1 ((fewest d n).1.map fun x => [Value.int .i64 x]) ∧ I M' ∧ St w0 w' (B ++ (M' ++ F)) := by
  refine con_of_wc (n := 43) Try.func78 rfl rfl (Nat.le_of_ble_eq_true rfl) ?_
  have hsh := shl_256 hn
  refine w_seq (fun K2 hK1 => ?_)
  refine w_region ?_
  refine w_p (y_assign (v := _) rfl rfl) rfl ?_
  refine w_nil ?_
  refine q_then (hK1 _ _ ?_)
  refine w_seq (fun K4 hK3 => ?_)
  refine w_region ?_
  refine w_p (y_assign (v := _) rfl rfl) rfl ?_
  refine w_nil ?_
  refine q_then (hK3 _ _ ?_)
  refine w_seq (fun K6 hK5 => ?_)
  refine w_seq (fun K8 hK7 => ?_)
  refine w_region ?_
  refine w_p (y_move (v := .int _ _) rfl rfl) rfl ?_
  refine w_p (y_shl (x := 1) (y := n) rfl rfl rfl rfl rfl (by first | rfl | omega) (by first | omega | exact shr_lt (by omega)) (by first | omega | exact shr_lt (by omega))) rfl ?_
  refine w_p (y_move (v := _) rfl rfl) rfl ?_
  refine w_nil ?_
  refine q_then (hK7 _ _ ?_)
  refine w_block ?_
  refine w_loop [4, 5, 6, 7, 10, 11, 12, 13, 14, 15, 16, 17, 18, 19, 20, 21, 22, 23, 24, 25, 26, 27, 28, 29, 30, 31, 32, 33, 34, 35, 36, 37, 38, 39, 40, 41] [4, 5, 10] (fun k vs w => ∃ (s : Nat) (av : Option Addr) (cv : Nat) (B M : List (Nat × Obj)), vs = [.slice av (fewTo d n s).1.length cv, .bool (fewTo d n s).2, .int .i64 s] ∧ s ≤ 1 <<< n ∧ k = (1 <<< n) - s ∧ Sl w0 B av 1 ((fewTo d n s).1.map fun x => [Value.int .i64 x]) ∧ I M ∧ St w0 w (B ++ (M ++ F))) (1 <<< n) ?_ ?_
  ·
   exact ⟨0, _, _, [], M, rfl, by omega, by omega, Sl.nil _ _, hI0, hs⟩
  ·
   intro k vs μ w11 hI K10 hN9
   clear hs
   obtain ⟨s, av, cv, B, M, rfl, hba, rfl, hslv, hIM, hs⟩ := hI
   generalize hfd : (fewTo d n s).2 = fd
   refine w_seq (fun K13 hK12 => ?_)
   refine w_region ?_
   refine w_p (y_lss rfl rfl rfl rfl) rfl ?_
   refine w_nil ?_
   refine q_then (hK12 _ _ ?_)
   refine w_seq (fun K15 hK14 => ?_)
   refine w_cond rfl rfl (fun h16 => ?_) (fun h16 => ?_)
   ·
    try simp only [zA, zB, zC, zD, zE, zF] at h16
    refine w_skip ?_
    refine q_then (hK14 _ _ ?_)
    refine w_seq (fun K18 hK17 => ?_)
    refine w_block ?_
    refine w_seq (fun K20 hK19 => ?_)
    refine w_region ?_
    refine w_p (y_move (v := .int _ _) rfl rfl) rfl ?_
    refine w_p (y_assign (v := .int _ _) rfl rfl) rfl ?_
    refine w_nil ?_
    refine q_then (hK19 _ _ ?_)
    refine w_seq (fun K22 hK21 => ?_)
    refine w_region ?_
    refine w_p (y_move (v := .int _ _) rfl rfl) rfl ?_
    refine w_p (y_move (v := .int _ _) rfl rfl) rfl ?_
    refine w_call want_none Try.call104 rfl rfl rfl rfl (c104 _ _ (by omega) (by omega) hs) ?_
    rintro _ w24 ⟨B1, a1, c1, rfl, hsl1, hs25⟩
    replace hs25 := (show St _ _ (B1 ++ (B ++ (M ++ (F)))) from hs25)
    have hle1 := listL_le s n
    have hle2 := few_len d n s
    refine w_p (y_assign (v := .slice _ _ _) rfl rfl) rfl ?_
    refine w_nil ?_
    refine q_then (hK21 _ _ ?_)
    refine w_seq (fun K27 hK26 => ?_)
    refine w_seq (fun K29 hK28 => ?_)
    refine w_region ?_
    refine w_p (y_move (v := .bool _) rfl rfl) rfl ?_
    refine w_p (y_move (v := .bool _) rfl rfl) rfl ?_
    refine w_split (fun h30 => ?_) (fun h30 => ?_)
    ·
     subst h30
     refine w_y rfl rfl rfl (y_move (v := .slice _ _ _) rfl rfl) rfl ?_
     refine w_y rfl rfl rfl (y_lenS Try.underlying39 rfl rfl) rfl ?_
     refine w_y rfl rfl rfl (y_move (v := .slice _ _ _) rfl rfl) rfl ?_
     refine w_y rfl rfl rfl (y_lenS Try.underlying39 rfl rfl) rfl ?_
     refine w_y rfl rfl rfl (y_gtr rfl rfl rfl rfl) rfl ?_
     refine w_y rfl rfl rfl (y_move (v := .bool _) rfl rfl) rfl ?_
     refine w_split (fun h31 => ?_) (fun h31 => ?_)
     ·
      try simp only [zA, zB, zC, zD, zE, zF] at h31
      refine w_skipop rfl rfl rfl ?_
      refine w_skipop rfl rfl rfl ?_
      refine w_skipop rfl rfl rfl ?_
      refine w_skipop rfl rfl rfl ?_
      refine w_skipop rfl rfl rfl ?_
      refine w_skipop rfl rfl rfl ?_
      refine w_skipop' rfl rfl rfl ?_
      refine w_skipop' rfl rfl rfl ?_
      refine w_skipop' rfl rfl rfl ?_
      refine w_skipop' rfl rfl rfl ?_
      refine w_skipop rfl rfl rfl ?_
      refine w_y rfl rfl rfl (y_pickT (v := _) rfl rfl rfl rfl) rfl ?_
      refine w_p (y_pickT (v := .bool _) rfl rfl rfl rfl) rfl ?_
      refine w_nil ?_
      refine q_then (hK28 _ _ ?_)
      refine w_condT rfl rfl ?_
      refine w_exit ?_
      refine q_then_exit ?_
      refine q_blk_this ?_
      refine q_then (hK17 _ _ ?_)
      refine w_region ?_
      refine w_p (y_add rfl rfl rfl rfl (by omega) (by omega)) rfl ?_
      refine w_p (y_move (v := .int _ _) rfl rfl) rfl ?_
      refine w_nil ?_
      refine q_then (hN9 _ _ (Nx.intro ((1 <<< n) - (s + 1)) (by omega) (by repeat (first | exact agree_mix | refine agree_upd rfl ?_ | refine agree_updL rfl ?_ _ | refine agree_mixin rfl ?_)) ?_))
      first
        | (have hq := few_skip hfd (by unfold before; simp; omega)
           exact ⟨s + 1, av, cv, B1 ++ B, M, few_vals (by rw [hq] <;> rfl) (by rw [hq, hfd] <;> rfl) rfl, by omega, rfl, by rw [hq]; exact hslv.app, hIM, (by rw [List.append_assoc]; exact hs25)⟩)
        | (have hq := few_skip hfd (by unfold before; rw [Bool.or_eq_true, Bool.and_eq_true]; exact .inr ⟨by simp; omega, by rw [← hz]; simp; omega⟩)
           exact ⟨s + 1, av, cv, B1 ++ B, M, few_vals (by rw [hq] <;> rfl) (by rw [hq, hfd] <;> rfl) rfl, by omega, rfl, by rw [hq]; exact hslv.app, hIM, (by rw [List.append_assoc]; exact hs25)⟩)
        | (have hq := few_yes (d := d) (n := n) (s := s) (by first | exact .inl hfd | exact .inr (before_no (by omega) (by omega)) | exact .inr (before_no (by omega) (fun e => by rw [← hz]; exact decide_eq_false (by omega)))) (by assumption)
           exact ⟨s + 1, a1, c1, B1 ++ B, M2, few_vals (by rw [hq] <;> rfl) (by rw [hq] <;> rfl) rfl, by omega, rfl, by rw [hq]; exact hsl1.top, hIM2, (by rw [List.append_assoc]; exact hs25)⟩)
        | (have hq := few_no (d := d) (n := n) (s := s) (by first | exact .inl hfd | exact .inr (before_no (by omega) (by omega)) | exact .inr (before_no (by omega) (fun e => by rw [← hz]; exact decide_eq_false (by omega)))) (by assumption)
           exact ⟨s + 1, av, cv, B1 ++ B, M2, few_vals (by rw [hq] <;> rfl) (by rw [hq, hfd] <;> rfl) rfl, by omega, rfl, by rw [hq]; exact hslv.app, hIM2, (by rw [List.append_assoc]; exact hs25)⟩)
     ·
      try simp only [zA, zB, zC, zD, zE, zF] at h31
      refine w_y rfl rfl rfl (y_move (v := .slice _ _ _) rfl rfl) rfl ?_
      refine w_y rfl rfl rfl (y_lenS Try.underlying39 rfl rfl) rfl ?_
      refine w_y rfl rfl rfl (y_move (v := .slice _ _ _) rfl rfl) rfl ?_
      refine w_y rfl rfl rfl (y_lenS Try.underlying39 rfl rfl) rfl ?_
      refine w_y rfl rfl rfl (y_eql rfl rfl rfl rfl) rfl ?_
      refine w_y rfl rfl rfl (y_move (v := .bool _) rfl rfl) rfl ?_
      refine w_split (fun h32 => ?_) (fun h32 => ?_)
      ·
       try simp only [zA, zB, zC, zD, zE, zF] at h32
       refine w_y rfl rfl rfl (y_move (v := .slice _ _ _) rfl rfl) rfl ?_
       refine w_y rfl rfl rfl (y_move (v := .slice _ _ _) rfl rfl) rfl ?_
       refine w_call (want_yes rfl rfl rfl) Try.call105 rfl rfl rfl rfl (c105 _ _ _ _ _ _ (by omega) (by omega) hsl1.top hslv.top.app hs25) ?_
       rintro _ w34 ⟨⟨z, rfl, hz⟩, hs35⟩
       refine w_y rfl rfl rfl (y_gtr rfl rfl rfl rfl) rfl ?_
       refine w_y rfl rfl rfl (y_pickT (v := .bool _) rfl rfl rfl rfl) rfl ?_
       refine w_y rfl rfl rfl (y_pickF (v := .bool _) rfl rfl rfl rfl) rfl ?_
       refine w_p (y_pickT (v := .bool _) rfl rfl rfl rfl) rfl ?_
       refine w_nil ?_
       refine q_then (hK28 _ _ ?_)
       refine w_cond rfl rfl (fun h36 => ?_) (fun h36 => ?_)
       ·
        try simp only [zA, zB, zC, zD, zE, zF] at h36
        refine w_exit ?_
        refine q_then_exit ?_
        refine q_blk_this ?_
        refine q_then (hK17 _ _ ?_)
        refine w_region ?_
        refine w_p (y_add rfl rfl rfl rfl (by omega) (by omega)) rfl ?_
        refine w_p (y_move (v := .int _ _) rfl rfl) rfl ?_
        refine w_nil ?_
        refine q_then (hN9 _ _ (Nx.intro ((1 <<< n) - (s + 1)) (by omega) (by repeat (first | exact agree_mix | refine agree_upd rfl ?_ | refine agree_updL rfl ?_ _ | refine agree_mixin rfl ?_)) ?_))
        first
          | (have hq := few_skip hfd (by unfold before; simp; omega)
             exact ⟨s + 1, av, cv, B1 ++ B, M, few_vals (by rw [hq] <;> rfl) (by rw [hq, hfd] <;> rfl) rfl, by omega, rfl, by rw [hq]; exact hslv.app, hIM, (by rw [List.append_assoc]; exact hs35)⟩)
          | (have hq := few_skip hfd (by unfold before; rw [Bool.or_eq_true, Bool.and_eq_true]; exact .inr ⟨by simp; omega, by rw [← hz]; simp; omega⟩)
             exact ⟨s + 1, av, cv, B1 ++ B, M, few_vals (by rw [hq] <;> rfl) (by rw [hq, hfd] <;> rfl) rfl, by omega, rfl, by rw [hq]; exact hslv.app, hIM, (by rw [List.append_assoc]; exact hs35)⟩)
          | (have hq := few_yes (d := d) (n := n) (s := s) (by first | exact .inl hfd | exact .inr (before_no (by omega) (by omega)) | exact .inr (before_no (by omega) (fun e => by rw [← hz]; exact decide_eq_false (by omega)))) (by assumption)
             exact ⟨s + 1, a1, c1, B1 ++ B, M2, few_vals (by rw [hq] <;> rfl) (by rw [hq] <;> rfl) rfl, by omega, rfl, by rw [hq]; exact hsl1.top, hIM2, (by rw [List.append_assoc]; exact hs35)⟩)
          | (have hq := few_no (d := d) (n := n) (s := s) (by first | exact .inl hfd | exact .inr (before_no (by omega) (by omega)) | exact .inr (before_no (by omega) (fun e => by rw [← hz]; exact decide_eq_false (by omega)))) (by assumption)
             exact ⟨s + 1, av, cv, B1 ++ B, M2, few_vals (by rw [hq] <;> rfl) (by rw [hq, hfd] <;> rfl) rfl, by omega, rfl, by rw [hq]; exact hslv.app, hIM2, (by rw [List.append_assoc]; exact hs35)⟩)
       ·
        try simp only [zA, zB, zC, zD, zE, zF] at h36
        refine w_skip ?_
        refine q_then (hK26 _ _ ?_)
        refine w_seq (fun K38 hK37 => ?_)
        refine w_region ?_
        refine w_p (y_move (v := fv) rfl rfl) rfl ?_
        refine w_p (y_move (v := .int _ _) rfl rfl) rfl ?_
        refine w_callV want_none rfl rfl rfl rfl (hd s M (B1 ++ B) _ (by omega) hIM (St.cast (by simp only [List.append_assoc]) hs35)) ?_
        rintro _ w40 ⟨rfl, M2, hIM2, hs41⟩
        rw [List.append_assoc] at hs41
        refine w_nil ?_
        refine q_then (hK37 _ _ ?_)
        refine w_cond rfl rfl (fun h42 => ?_) (fun h42 => ?_)
        ·
         try simp only [zA, zB, zC, zD, zE, zF] at h42
         refine w_region ?_
         refine w_p (y_move (v := .slice _ _ _) rfl rfl) rfl ?_
         refine w_p (y_assign (v := .slice _ _ _) rfl rfl) rfl ?_
         refine w_p (y_assign (v := _) rfl rfl) rfl ?_
         refine w_nil ?_
         refine q_blk_normal ?_
         refine q_then (hK17 _ _ ?_)
         refine w_region ?_
         refine w_p (y_add rfl rfl rfl rfl (by omega) (by omega)) rfl ?_
         refine w_p (y_move (v := .int _ _) rfl rfl) rfl ?_
         refine w_nil ?_
         refine q_then (hN9 _ _ (Nx.intro ((1 <<< n) - (s + 1)) (by omega) (by repeat (first | exact agree_mix | refine agree_upd rfl ?_ | refine agree_updL rfl ?_ _ | refine agree_mixin rfl ?_)) ?_))
         first
           | (have hq := few_skip hfd (by unfold before; simp; omega)
              exact ⟨s + 1, av, cv, B1 ++ B, M, few_vals (by rw [hq] <;> rfl) (by rw [hq, hfd] <;> rfl) rfl, by omega, rfl, by rw [hq]; exact hslv.app, hIM, (by rw [List.append_assoc]; exact hs41)⟩)
           | (have hq := few_skip hfd (by unfold before; rw [Bool.or_eq_true, Bool.and_eq_true]; exact .inr ⟨by simp; omega, by rw [← hz]; simp; omega⟩)
              exact ⟨s + 1, av, cv, B1 ++ B, M, few_vals (by rw [hq] <;> rfl) (by rw [hq, hfd] <;> rfl) rfl, by omega, rfl, by rw [hq]; exact hslv.app, hIM, (by rw [List.append_assoc]; exact hs41)⟩)
           | (have hq := few_yes (d := d) (n := n) (s := s) (by first | exact .inl hfd | exact .inr (before_no (by omega) (by omega)) | exact .inr (before_no (by omega) (fun e => by rw [← hz]; exact decide_eq_false (by omega)))) (by assumption)
              exact ⟨s + 1, a1, c1, B1 ++ B, M2, few_vals (by rw [hq] <;> rfl) (by rw [hq] <;> rfl) rfl, by omega, rfl, by rw [hq]; exact hsl1.top, hIM2, (by rw [List.append_assoc]; exact hs41)⟩)
           | (have hq := few_no (d := d) (n := n) (s := s) (by first | exact .inl hfd | exact .inr (before_no (by omega) (by omega)) | exact .inr (before_no (by omega) (fun e => by rw [← hz]; exact decide_eq_false (by omega)))) (by assumption)
              exact ⟨s + 1, av, cv, B1 ++ B, M2, few_vals (by rw [hq] <;> rfl) (by rw [hq, hfd] <;> rfl) rfl, by omega, rfl, by rw [hq]; exact hslv.app, hIM2, (by rw [List.append_assoc]; exact hs41)⟩)
        ·
         try simp only [zA, zB, zC, zD, zE, zF] at h42
         refine w_skip ?_
         refine q_blk_normal ?_
         refine q_then (hK17 _ _ ?_)
         refine w_region ?_
         refine w_p (y_add rfl rfl rfl rfl (by omega) (by omega)) rfl ?_
         refine w_p (y_move (v := .int _ _) rfl rfl) rfl ?_
         refine w_nil ?_
         refine q_then (hN9 _ _ (Nx.intro ((1 <<< n) - (s + 1)) (by omega) (by repeat (first | exact agree_mix | refine agree_upd rfl ?_ | refine agree_updL rfl ?_ _ | refine agree_mixin rfl ?_)) ?_))
         first
           | (have hq := few_skip hfd (by unfold before; simp; omega)
              exact ⟨s + 1, av, cv, B1 ++ B, M, few_vals (by rw [hq] <;> rfl) (by rw [hq, hfd] <;> rfl) rfl, by omega, rfl, by rw [hq]; exact hslv.app, hIM, (by rw [List.append_assoc]; exact hs41)⟩)
           | (have hq := few_skip hfd (by unfold before; rw [Bool.or_eq_true, Bool.and_eq_true]; exact .inr ⟨by simp; omega, by rw [← hz]; simp; omega⟩)
              exact ⟨s + 1, av, cv, B1 ++ B, M, few_vals (by rw [hq] <;> rfl) (by rw [hq, hfd] <;> rfl) rfl, by omega, rfl, by rw [hq]; exact hslv.app, hIM, (by rw [List.append_assoc]; exact hs41)⟩)
           | (have hq := few_yes (d := d) (n := n) (s := s) (by first | exact .inl hfd | exact .inr (before_no (by omega) (by omega)) | exact .inr (before_no (by omega) (fun e => by rw [← hz]; exact decide_eq_false (by omega)))) (by assumption)
              exact ⟨s + 1, a1, c1, B1 ++ B, M2, few_vals (by rw [hq] <;> rfl) (by rw [hq] <;> rfl) rfl, by omega, rfl, by rw [hq]; exact hsl1.top, hIM2, (by rw [List.append_assoc]; exact hs41)⟩)
           | (have hq := few_no (d := d) (n := n) (s := s) (by first | exact .inl hfd | exact .inr (before_no (by omega) (by omega)) | exact .inr (before_no (by omega) (fun e => by rw [← hz]; exact decide_eq_false (by omega)))) (by assumption)
              exact ⟨s + 1, av, cv, B1 ++ B, M2, few_vals (by rw [hq] <;> rfl) (by rw [hq, hfd] <;> rfl) rfl, by omega, rfl, by rw [hq]; exact hslv.app, hIM2, (by rw [List.append_assoc]; exact hs41)⟩)
      ·
       try simp only [zA, zB, zC, zD, zE, zF] at h32
       refine w_skipop rfl rfl rfl ?_
       refine w_skipop rfl rfl rfl ?_
       refine w_skipop rfl rfl rfl ?_
       refine w_skipop rfl rfl rfl ?_
       refine w_y rfl rfl rfl (y_pickF (v := _) rfl rfl rfl rfl) rfl ?_
       refine w_y rfl rfl rfl (y_pickF (v := .bool _) rfl rfl rfl rfl) rfl ?_
       refine w_p (y_pickT (v := .bool _) rfl rfl rfl rfl) rfl ?_
       refine w_nil ?_
       refine q_then (hK28 _ _ ?_)
       refine w_condF rfl rfl ?_
       refine w_skip ?_
       refine q_then (hK26 _ _ ?_)
       refine w_seq (fun K44 hK43 => ?_)
       refine w_region ?_
       refine w_p (y_move (v := fv) rfl rfl) rfl ?_
       refine w_p (y_move (v := .int _ _) rfl rfl) rfl ?_
       refine w_callV want_none rfl rfl rfl rfl (hd s M (B1 ++ B) _ (by omega) hIM (St.cast (by simp only [List.append_assoc]) hs25)) ?_
       rintro _ w46 ⟨rfl, M2, hIM2, hs47⟩
       rw [List.append_assoc] at hs47
       refine w_nil ?_
       refine q_then (hK43 _ _ ?_)
       refine w_cond rfl rfl (fun h48 => ?_) (fun h48 => ?_)
       ·
        try simp only [zA, zB, zC, zD, zE, zF] at h48
        refine w_region ?_
        refine w_p (y_move (v := .slice _ _ _) rfl rfl) rfl ?_
        refine w_p (y_assign (v := .slice _ _ _) rfl rfl) rfl ?_
        refine w_p (y_assign (v := _) rfl rfl) rfl ?_
        refine w_nil ?_
        refine q_blk_normal ?_
        refine q_then (hK17 _ _ ?_)
        refine w_region ?_
        refine w_p (y_add rfl rfl rfl rfl (by omega) (by omega)) rfl ?_
        refine w_p (y_move (v := .int _ _) rfl rfl) rfl ?_
        refine w_nil ?_
        refine q_then (hN9 _ _ (Nx.intro ((1 <<< n) - (s + 1)) (by omega) (by repeat (first | exact agree_mix | refine agree_upd rfl ?_ | refine agree_updL rfl ?_ _ | refine agree_mixin rfl ?_)) ?_))
        first
          | (have hq := few_skip hfd (by unfold before; simp; omega)
             exact ⟨s + 1, av, cv, B1 ++ B, M, few_vals (by rw [hq] <;> rfl) (by rw [hq, hfd] <;> rfl) rfl, by omega, rfl, by rw [hq]; exact hslv.app, hIM, (by rw [List.append_assoc]; exact hs47)⟩)
          | (have hq := few_skip hfd (by unfold before; rw [Bool.or_eq_true, Bool.and_eq_true]; exact .inr ⟨by simp; omega, by rw [← hz]; simp; omega⟩)
             exact ⟨s + 1, av, cv, B1 ++ B, M, few_vals (by rw [hq] <;> rfl) (by rw [hq, hfd] <;> rfl) rfl, by omega, rfl, by rw [hq]; exact hslv.app, hIM, (by rw [List.append_assoc]; exact hs47)⟩)
          | (have hq := few_yes (d := d) (n := n) (s := s) (by first | exact .inl hfd | exact .inr (before_no (by omega) (by omega)) | exact .inr (before_no (by omega) (fun e => by rw [← hz]; exact decide_eq_false (by omega)))) (by assumption)
             exact ⟨s + 1, a1, c1, B1 ++ B, M2, few_vals (by rw [hq] <;> rfl) (by rw [hq] <;> rfl) rfl, by omega, rfl, by rw [hq]; exact hsl1.top, hIM2, (by rw [List.append_assoc]; exact hs47)⟩)
          | (have hq := few_no (d := d) (n := n) (s := s) (by first | exact .inl hfd | exact .inr (before_no (by omega) (by omega)) | exact .inr (before_no (by omega) (fun e => by rw [← hz]; exact decide_eq_false (by omega)))) (by assumption)
             exact ⟨s + 1, av, cv, B1 ++ B, M2, few_vals (by rw [hq] <;> rfl) (by rw [hq, hfd] <;> rfl) rfl, by omega, rfl, by rw [hq]; exact hslv.app, hIM2, (by rw [List.append_assoc]; exact hs47)⟩)
       ·
        try simp only [zA, zB, zC, zD, zE, zF] at h48
        refine w_skip ?_
        refine q_blk_normal ?_
        refine q_then (hK17 _ _ ?_)
        refine w_region ?_
        refine w_p (y_add rfl rfl rfl rfl (by omega) (by omega)) rfl ?_
        refine w_p (y_move (v := .int _ _) rfl rfl) rfl ?_
        refine w_nil ?_
        refine q_then (hN9 _ _ (Nx.intro ((1 <<< n) - (s + 1)) (by omega) (by repeat (first | exact agree_mix | refine agree_upd rfl ?_ | refine agree_updL rfl ?_ _ | refine agree_mixin rfl ?_)) ?_))
        first
          | (have hq := few_skip hfd (by unfold before; simp; omega)
             exact ⟨s + 1, av, cv, B1 ++ B, M, few_vals (by rw [hq] <;> rfl) (by rw [hq, hfd] <;> rfl) rfl, by omega, rfl, by rw [hq]; exact hslv.app, hIM, (by rw [List.append_assoc]; exact hs47)⟩)
          | (have hq := few_skip hfd (by unfold before; rw [Bool.or_eq_true, Bool.and_eq_true]; exact .inr ⟨by simp; omega, by rw [← hz]; simp; omega⟩)
             exact ⟨s + 1, av, cv, B1 ++ B, M, few_vals (by rw [hq] <;> rfl) (by rw [hq, hfd] <;> rfl) rfl, by omega, rfl, by rw [hq]; exact hslv.app, hIM, (by rw [List.append_assoc]; exact hs47)⟩)
          | (have hq := few_yes (d := d) (n := n) (s := s) (by first | exact .inl hfd | exact .inr (before_no (by omega) (by omega)) | exact .inr (before_no (by omega) (fun e => by rw [← hz]; exact decide_eq_false (by omega)))) (by assumption)
             exact ⟨s + 1, a1, c1, B1 ++ B, M2, few_vals (by rw [hq] <;> rfl) (by rw [hq] <;> rfl) rfl, by omega, rfl, by rw [hq]; exact hsl1.top, hIM2, (by rw [List.append_assoc]; exact hs47)⟩)
          | (have hq := few_no (d := d) (n := n) (s := s) (by first | exact .inl hfd | exact .inr (before_no (by omega) (by omega)) | exact .inr (before_no (by omega) (fun e => by rw [← hz]; exact decide_eq_false (by omega)))) (by assumption)
             exact ⟨s + 1, av, cv, B1 ++ B, M2, few_vals (by rw [hq] <;> rfl) (by rw [hq, hfd] <;> rfl) rfl, by omega, rfl, by rw [hq]; exact hslv.app, hIM2, (by rw [List.append_assoc]; exact hs47)⟩)
    ·
     subst h30
     refine w_skipop rfl rfl rfl ?_
     refine w_skipop rfl rfl rfl ?_
     refine w_skipop rfl rfl rfl ?_
     refine w_skipop rfl rfl rfl ?_
     refine w_skipop rfl rfl rfl ?_
     refine w_skipop rfl rfl rfl ?_
     refine w_skipop' rfl rfl rfl ?_
     refine w_skipop' rfl rfl rfl ?_
     refine w_skipop' rfl rfl rfl ?_
     refine w_skipop' rfl rfl rfl ?_
     refine w_skipop' rfl rfl rfl ?_
     refine w_skipop' rfl rfl rfl ?_
     refine w_skipop' rfl rfl rfl ?_
     refine w_skipop' rfl rfl rfl ?_
     refine w_skipop' rfl rfl rfl ?_
     refine w_skipop' rfl rfl rfl ?_
     refine w_skipop' rfl rfl rfl ?_
     refine w_skipop rfl rfl rfl ?_
     refine w_p (y_pickF (v := _) rfl rfl rfl rfl) rfl ?_
     refine w_nil ?_
     refine q_then (hK28 _ _ ?_)
     refine w_condF rfl rfl ?_
     refine w_skip ?_
     refine q_then (hK26 _ _ ?_)
     refine w_seq (fun K50 hK49 => ?_)
     refine w_region ?_
     refine w_p (y_move (v := fv) rfl rfl) rfl ?_
     refine w_p (y_move (v := .int _ _) rfl rfl) rfl ?_
     refine w_callV want_none rfl rfl rfl rfl (hd s M (B1 ++ B) _ (by omega) hIM (St.cast (by simp only [List.append_assoc]) hs25)) ?_
     rintro _ w52 ⟨rfl, M2, hIM2, hs53⟩
     rw [List.append_assoc] at hs53
     refine w_nil ?_
     refine q_then (hK49 _ _ ?_)
     refine w_cond rfl rfl (fun h54 => ?_) (fun h54 => ?_)
     ·
      try simp only [zA, zB, zC, zD, zE, zF] at h54
      refine w_region ?_
      refine w_p (y_move (v := .slice _ _ _) rfl rfl) rfl ?_
      refine w_p (y_assign (v := .slice _ _ _) rfl rfl) rfl ?_
      refine w_p (y_assign (v := _) rfl rfl) rfl ?_
      refine w_nil ?_
      refine q_blk_normal ?_
      refine q_then (hK17 _ _ ?_)
      refine w_region ?_
      refine w_p (y_add rfl rfl rfl rfl (by omega) (by omega)) rfl ?_
      refine w_p (y_move (v := .int _ _) rfl rfl) rfl ?_
      refine w_nil ?_
      refine q_then (hN9 _ _ (Nx.intro ((1 <<< n) - (s + 1)) (by omega) (by repeat (first | exact agree_mix | refine agree_upd rfl ?_ | refine agree_updL rfl ?_ _ | refine agree_mixin rfl ?_)) ?_))
      first
        | (have hq := few_skip hfd (by unfold before; simp; omega)
           exact ⟨s + 1, av, cv, B1 ++ B, M, few_vals (by rw [hq] <;> rfl) (by rw [hq, hfd] <;> rfl) rfl, by omega, rfl, by rw [hq]; exact hslv.app, hIM, (by rw [List.append_assoc]; exact hs53)⟩)
        | (have hq := few_skip hfd (by unfold before; rw [Bool.or_eq_true, Bool.and_eq_true]; exact .inr ⟨by simp; omega, by rw [← hz]; simp; omega⟩)
           exact ⟨s + 1, av, cv, B1 ++ B, M, few_vals (by rw [hq] <;> rfl) (by rw [hq, hfd] <;> rfl) rfl, by omega, rfl, by rw [hq]; exact hslv.app, hIM, (by rw [List.append_assoc]; exact hs53)⟩)
        | (have hq := few_yes (d := d) (n := n) (s := s) (by first | exact .inl hfd | exact .inr (before_no (by omega) (by omega)) | exact .inr (before_no (by omega) (fun e => by rw [← hz]; exact decide_eq_false (by omega)))) (by assumption)
           exact ⟨s + 1, a1, c1, B1 ++ B, M2, few_vals (by rw [hq] <;> rfl) (by rw [hq] <;> rfl) rfl, by omega, rfl, by rw [hq]; exact hsl1.top, hIM2, (by rw [List.append_assoc]; exact hs53)⟩)
        | (have hq := few_no (d := d) (n := n) (s := s) (by first | exact .inl hfd | exact .inr (before_no (by omega) (by omega)) | exact .inr (before_no (by omega) (fun e => by rw [← hz]; exact decide_eq_false (by omega)))) (by assumption)
           exact ⟨s + 1, av, cv, B1 ++ B, M2, few_vals (by rw [hq] <;> rfl) (by rw [hq, hfd] <;> rfl) rfl, by omega, rfl, by rw [hq]; exact hslv.app, hIM2, (by rw [List.append_assoc]; exact hs53)⟩)
     ·
      try simp only [zA, zB, zC, zD, zE, zF] at h54
      refine w_skip ?_
      refine q_blk_normal ?_
      refine q_then (hK17 _ _ ?_)
      refine w_region ?_
      refine w_p (y_add rfl rfl rfl rfl (by omega) (by omega)) rfl ?_
      refine w_p (y_move (v := .int _ _) rfl rfl) rfl ?_
      refine w_nil ?_
      refine q_then (hN9 _ _ (Nx.intro ((1 <<< n) - (s + 1)) (by omega) (by repeat (first | exact agree_mix | refine agree_upd rfl ?_ | refine agree_updL rfl ?_ _ | refine agree_mixin rfl ?_)) ?_))
      first
        | (have hq := few_skip hfd (by unfold before; simp; omega)
           exact ⟨s + 1, av, cv, B1 ++ B, M, few_vals (by rw [hq] <;> rfl) (by rw [hq, hfd] <;> rfl) rfl, by omega, rfl, by rw [hq]; exact hslv.app, hIM, (by rw [List.append_assoc]; exact hs53)⟩)
        | (have hq := few_skip hfd (by unfold before; rw [Bool.or_eq_true, Bool.and_eq_true]; exact .inr ⟨by simp; omega, by rw [← hz]; simp; omega⟩)
           exact ⟨s + 1, av, cv, B1 ++ B, M, few_vals (by rw [hq] <;> rfl) (by rw [hq, hfd] <;> rfl) rfl, by omega, rfl, by rw [hq]; exact hslv.app, hIM, (by rw [List.append_assoc]; exact hs53)⟩)
        | (have hq := few_yes (d := d) (n := n) (s := s) (by first | exact .inl hfd | exact .inr (before_no (by omega) (by omega)) | exact .inr (before_no (by omega) (fun e => by rw [← hz]; exact decide_eq_false (by omega)))) (by assumption)
           exact ⟨s + 1, a1, c1, B1 ++ B, M2, few_vals (by rw [hq] <;> rfl) (by rw [hq] <;> rfl) rfl, by omega, rfl, by rw [hq]; exact hsl1.top, hIM2, (by rw [List.append_assoc]; exact hs53)⟩)
        | (have hq := few_no (d := d) (n := n) (s := s) (by first | exact .inl hfd | exact .inr (before_no (by omega) (by omega)) | exact .inr (before_no (by omega) (fun e => by rw [← hz]; exact decide_eq_false (by omega)))) (by assumption)
           exact ⟨s + 1, av, cv, B1 ++ B, M2, few_vals (by rw [hq] <;> rfl) (by rw [hq, hfd] <;> rfl) rfl, by omega, rfl, by rw [hq]; exact hslv.app, hIM2, (by rw [List.append_assoc]; exact hs53)⟩)
   ·
    try simp only [zA, zB, zC, zD, zE, zF] at h16
    refine w_exit ?_
    refine q_then_exit ?_
    refine q_then_exit ?_
    refine q_blk_this ?_
    refine q_then (hK5 _ _ ?_)
    refine w_seq (fun K56 hK55 => ?_)
    refine w_region ?_
    refine w_p (y_move (v := .slice _ _ _) rfl rfl) rfl ?_
    refine w_p (y_assign (v := .slice _ _ _) rfl rfl) rfl ?_
    refine w_nil ?_
    refine q_then (hK55 _ _ ?_)
    refine w_ret ?_
    refine q_ret (l := [.tmp 4]) (vs := [_]) rfl ⟨⟨rfl, show _ = (.slice _ _ _ : Value) from rfl⟩, trivial⟩ ?_
    have hin : s = 1 <<< n := by omega
    subst hin
    exact ⟨B, M, av, cv, rfl, hslv, hIM, hs⟩

end Go.Proofs
/- Walks of this seat, printed by gen.py over the engine: what each function returns, in whatever world. No conditions but those of each contract. -/
set_option linter.unusedVariables false
set_option linter.unusedSimpArgs false
set_option maxRecDepth 20000
namespace Go.Proofs
open Go.Rt Go.Rt.Ch
open Go.Rt.Ha (firstE firstE_step firstE_stop firstE_end failE nameE felt spanL upto span_mem listL fewest fewTo bit before fewStep drop_lt drop_get drop_next drop_done drop_notin set_take set_zero take_less)
attribute [local irreducible] WL WC Con Yd At Ats Sl Agree DW
theorem Try_O_fb3 (x0 : Int) (x1 : Int) (w : World) : (Instr.build 31 [(0, .int .i64 x0), (1, .int .i64 x1)].toArray).run Try.prog w = .ok (.agg #[.int .i64 x0, .int .i64 x1]) w := by kernel_rfl
theorem nodup_inj {α : Type} : ∀ {es : List (α × Value × Nat)}, (es.map (·.2.2)).Nodup → ∀ {a b : α × Value × Nat}, a ∈ es → b ∈ es → a.2.2 = b.2.2 → a = b
  | [], _, a, _, h, _, _ => by cases h
  | x :: es, hn, a, b, ha, hb, e => by
    rw [List.map_cons, List.nodup_cons] at hn
    have hnot : ∀ r ∈ es, r.2.2 ≠ x.2.2 := fun r hr e => hn.1 (by rw [← e]; exact List.mem_map_of_mem (f := fun r : α × Value × Nat => r.2.2) hr)
    rcases List.mem_cons.1 ha with ea | ha2
    · rcases List.mem_cons.1 hb with eb | hb2
      · rw [ea, eb]
      · exact absurd (by rw [← ea]; exact e.symm) (hnot b hb2)
    · rcases List.mem_cons.1 hb with eb | hb2
      · exact absurd (by rw [← eb]; exact e) (hnot a ha2)
      · exact nodup_inj hn.2 ha2 hb2 e
theorem key100 : KeyTy Try.prog 100 4 := keyTy_array Try.underlying100 Try.underlying3 Try.sizeOf3 (by kernel_rfl)
theorem spm_step {b : Board} {s i ck : Nat} {f : List Int → Int} {es : List (List Int × Value × Nat)} {lo hi : Int} (hi2 : i < (truths b).length) (hsp : SpM s f ((truths b).take i) es) (hn : (es.map (·.1)).Nodup)
    (h : (mask s (pad4 (truths b)[i]) ∉ es.map (·.1) ∧ lo = min (f (truths b)[i]) (f (truths b)[i]) ∧ hi = max (f (truths b)[i]) (f (truths b)[i])) ∨ (mask s (pad4 (truths b)[i]) ∈ es.map (·.1) ∧ lo = min (gS s f ((truths b).take i) (mask s (pad4 (truths b)[i]))).1 (f (truths b)[i]) ∧ hi = max (gS s f ((truths b).take i) (mask s (pad4 (truths b)[i]))).2 (f (truths b)[i]))) :
    SpM s f ((truths b).take (i + 1)) (putA (mask s (pad4 (truths b)[i])) (.agg #[.int .i64 lo, .int .i64 hi]) ck es) := by
  rw [List.take_succ_eq_append_getElem hi2]
  refine hsp.put hn (p := (lo, hi)) ?_ ck
  rcases h with ⟨h1, rfl, rfl⟩ | ⟨h1, rfl, rfl⟩
  · rw [gS_new hsp h1]
  · rw [gS_more hsp h1]
theorem mul_40 {a : Int} (s k : Nat) (h : 0 ≤ a ∧ a ≤ 40) : 0 ≤ a * ((bit s k : Nat) : Int) ∧ a * ((bit s k : Nat) : Int) ≤ 40 := by
  rcases bit_lt2 s k with e | e <;> rw [e] <;> simp <;> omega
theorem tells_no {b : Board} (hok : b.Ok) {hold within : Int} {s : Nat} {es : List (List Int × Value × Nat)} (h : SpM s (inH b hold) (truths b) es) {q : List Int × Value × Nat} (hq : q ∈ es) (hn : within < (gS s (inH b hold) (truths b) q.1).2 - (gS s (inH b hold) (truths b) q.1).1) : false = tellsS b hold within s := by
  cases ht : tellsS b hold within s with
  | false => rfl
  | true => have := (tells_map hok h).1 ht q hq; omega
theorem looksP_e {b : Board} {h n : Int} (e : ¬ enterE b (looksE b h n) = 0) : looksP b h n = ([], enterE b (looksE b h n)) := by unfold looksP; rw [if_pos e]
theorem looksP_y {b : Board} {h n : Int} (e : enterE b (looksE b h n) = 0) : looksP b h n = ((fewest (tellsS b h n) b.hours.length).1, 0) := by unfold looksP; rw [if_neg (by simp [e])]
theorem keep_front {w0 w : World} {B M P F : List (Nat × Obj)} (h : St w0 w (B ++ (M ++ (P ++ F)))) : St w0 w (B ++ F) := by
  have e : B ++ (M ++ (P ++ F)) = B ++ ((M ++ P) ++ F) := by simp only [List.append_assoc]
  rw [e] at h
  exact (h.perm (perm_mid B (M ++ P) F)).drop
theorem c79 {w0 w : World} {X M F : List (Nat × Obj)} (b : Board) (p : AtB) (bb mm : Nat) (hk : BK w0 F b p bb mm) (s : Nat) (hs1k : s < 1000) (hold within : Int) (bq bh bw : Nat) (h1 : Ats w0 F bq 0 [.pointer (some ⟨bb, 0, none⟩)]) (h2 : Ats w0 F bh 0 [.int .i64 hold]) (h3 : Ats w0 F bw 0 [.int .i64 within]) (hM : Memo w0 b mm M) (hs : St w0 w (X ++ (M ++ F))) :
  Con Try.prog 79 [.int .i64 (s : Int), .pointer (some ⟨bq, 0, none⟩), .pointer (some ⟨bh, 0, none⟩), .pointer (some ⟨bw, 0, none⟩)] w fun v w' => v = .bool (tellsS b hold within s) ∧ ∃ M', Memo w0 b mm M' ∧ St w0 w' (X ++ (M' ++ F)) := by
  refine con_of_wcM (n := 70) Try.func79 rfl rfl (Nat.le_of_ble_eq_true rfl) ?_
  have hlh := hk.ok.lh
  refine w_seq (fun K2 hK1 => ?_)
  refine w_region ?_
  refine w_box (v := .int _ _) (cs := [_]) want_none rfl rfl rfl hs (fun b3 w4 hs5 => ?_)
  refine w_p (y_assign (v := _) rfl rfl) rfl ?_
  refine w_nil ?_
  refine q_then (hK1 _ _ ?_)
  refine w_seq (fun K7 hK6 => ?_)
  refine w_region ?_
  refine w_makeMap want_none hs5 (fun b8 w9 hs10 => ?_)
  refine w_alloc (cs := [_]) want_none Try.zeroValue118 rfl hs10 (fun b11 w12 hs13 => ?_)
  refine w_store (i := 0) (v := .map _) (vs := [_]) want_none Try.sizeOf118 rfl rfl rfl rfl rfl (by simp [Value.oneCell']) hs13 rfl (Nat.le_of_ble_eq_true rfl) (fun w14 hs15 => ?_)
  refine w_nil ?_
  refine q_then (hK6 _ _ ?_)
  refine w_seq (fun K17 hK16 => ?_)
  refine w_seq (fun K19 hK18 => ?_)
  refine w_region ?_
  refine w_p (y_load1 Try.isAgg95 hs15.tail.tail.tail.drop.drop rfl rfl h1) rfl ?_
  refine w_call want_none Try.call80 rfl rfl rfl rfl (c80 _ hs15) ?_
  rintro _ w21 ⟨bp, rfl, hs22⟩
  refine w_nil ?_
  refine q_then (hK18 _ _ ?_)
  refine w_block ?_
  refine w_rangeC ([_, _] ++ M) (fun i Bx => ∃ B M, Bx = B ++ M ∧ Memo w0 b mm M ∧ ∃ (es : List (List Int × Value × Nat)) (ck : Nat), MOk es ck ∧ SpM s (inH b hold) ((truths b).take (i)) es ∧ B = [(b11, blk 118 [.map (some b8)]), (b8, .map (ents (fun l : List Int => ia l) es).toArray (ck))]) (fun c Bx => ∃ B M, Bx = B ++ M ∧ Memo w0 b mm M ∧ False) rfl rfl rfl Try.call106 (truths_iter b p bb mm hk.app.cons.cons bp (ats_own (i := 0) (vs := [_]) rfl rfl)) (clsM_range (fun i B => ∃ (es : List (List Int × Value × Nat)) (ck : Nat), MOk es ck ∧ SpM s (inH b hold) ((truths b).take (i)) es ∧ B = [(b11, blk 118 [.map (some b8)]), (b8, .map (ents (fun l : List Int => ia l) es).toArray (ck))]) (fun c B => False) (fun i Bx => Iff.rfl) (fun c Bx => Iff.rfl)) hs22 (hull_perm _ _ _ _ _ _ _) ⟨_, M, rfl, hM, [], 0, mok_nil, spm_nil _ _, rfl⟩ ?_ ?_ ?_
  ·
   intro lp i hi Bx Xr Xr2 w24 hJ hs K hK23
   obtain ⟨BB, M3, rfl, hM3, es, ck, hmk, hsp, rfl⟩ := hJ
   have hi2 : i < (truths b).length := by simpa using hi
   rw [List.getElem_map, List.getElem_map]
   have htm := List.getElem_mem hi2
   have hpl := pad_len hk.ok htm
   have h40 : ∀ k, 0 ≤ ld (pad4 (truths b)[i]) k ∧ ld (pad4 (truths b)[i]) k ≤ 40 := fun k => by rw [ld_pad]; exact ld_40 hk.ok htm k
   obtain ⟨h, hh⟩ : ∃ h, h = pad4 (truths b)[i] := ⟨_, rfl⟩
   rw [← hh] at hpl h40 ⊢
   have hx4 : Ats w0 ((bp, blk 95 [.pointer (some ⟨bb, 0, none⟩)]) :: (b3, blk 3 [.int .i64 (s : Int)]) :: (X ++ F)) b3 0 [.int .i64 (s : Int)] := ats_own (i := 1) rfl rfl
   replace hs := (show St _ _ (_ :: _ :: (M3 ++ (Xr ++ ((bp, blk 95 [.pointer (some ⟨bb, 0, none⟩)]) :: (b3, blk 3 [.int .i64 (s : Int)]) :: (X ++ F))))) from hs)
   refine w_region ?_
   refine w_alloc (cs := iv [0, 0, 0, 0]) want_none Try.zeroValue100 rfl hs (fun b25 w26 hs27 => ?_)
   refine w_storeI (i := 0) (l := _) want_none Try.sizeOf100 (by first | omega | rfl | (simp only [hpl, maskTo_len, List.length_map, List.length_set, List.length_append, List.length_take, List.length_drop, List.length_replicate, List.length_cons, List.length_nil] <;> omega)) rfl rfl rfl rfl rfl hs27 rfl (by first | omega | rfl | (simp only [hpl, maskTo_len, List.length_map, List.length_set, List.length_append, List.length_take, List.length_drop, List.length_replicate, List.length_cons, List.length_nil] <;> omega)) (fun w28 hs29 => ?_)
   refine w_nil ?_
   refine q_then (hK23 _ _ (_ :: _ :: _ :: M3) hs29 (fun w30 hs31 => ?_))
   replace hs31 := (show St _ _ (_ :: _ :: _ :: M3 ++ (Xr2 ++ (_ :: _ :: X ++ (F)))) from hs31)
   refine w_block ?_
   refine w_seq (fun K33 hK32 => ?_)
   refine w_region ?_
   refine w_p (y_load1 Try.isAgg95 hs31.tail.tail.tail.drop.drop.tail.tail.drop rfl rfl h1) rfl ?_
   refine w_p (y_loadI (i := 0) Try.isAgg100 Try.sizeOf100 (by first | omega | rfl | (simp only [hpl, maskTo_len, List.length_map, List.length_set, List.length_append, List.length_take, List.length_drop, List.length_replicate, List.length_cons, List.length_nil] <;> omega)) hs31 rfl rfl rfl) rfl ?_
   refine w_p (y_load1 Try.isAgg3 hs31.tail.tail.tail.drop.drop.tail.tail.drop rfl rfl h2) rfl ?_
   refine w_call want_none Try.call70 rfl rfl rfl rfl (c70 b p bb mm hk.app.cons.cons.app.app.cons.cons.cons h hpl h40 hold hs31) ?_
   rintro _ w35 ⟨rfl, hs36⟩
   refine w_p (y_assign (v := .int _ _) rfl rfl) rfl ?_
   refine w_nil ?_
   refine q_then (hK32 _ _ ?_)
   refine w_seq (fun K38 hK37 => ?_)
   refine w_seq (fun K40 hK39 => ?_)
   refine w_region ?_
   refine w_p (y_move (v := _) rfl rfl) rfl ?_
   refine w_nil ?_
   refine q_then (hK39 _ _ ?_)
   refine w_block ?_
   refine w_loop [9, 22, 23, 24, 25, 26, 27, 28, 29, 30, 31, 32, 33, 34] [22] (fun kk vs w => ∃ k : Nat, vs = [.int .i64 k] ∧ k ≤ 4 ∧ kk = 4 - k ∧ St w0 w ((b25, blk 100 (iv (maskTo s h k))) :: (b11, blk 118 [.map (some b8)]) :: (b8, .map (ents (fun l : List Int => ia l) es).toArray ck) :: (M3 ++ (Xr2 ++ ((bp, blk 95 [.pointer (some ⟨bb, 0, none⟩)]) :: (b3, blk 3 [.int .i64 (s : Int)]) :: (X ++ F)))))) (4) ?_ ?_
   ·
    exact ⟨0, rfl, by omega, by omega, by rw [maskTo_zero hpl]; exact hs36⟩
   ·
    intro k vs μ w43 hI K42 hN41
    obtain ⟨k, rfl, hka, rfl, hs⟩ := hI
    refine w_seq (fun K45 hK44 => ?_)
    refine w_region ?_
    refine w_p (y_lss rfl rfl rfl rfl) rfl ?_
    refine w_nil ?_
    refine q_then (hK44 _ _ ?_)
    refine w_seq (fun K47 hK46 => ?_)
    refine w_cond rfl rfl (fun h48 => ?_) (fun h48 => ?_)
    ·
     try simp only [zA, zB, zC, zD, zE, zF] at h48
     refine w_skip ?_
     refine q_then (hK46 _ _ ?_)
     refine w_seq (fun K50 hK49 => ?_)
     refine w_block ?_
     refine w_seq (fun K52 hK51 => ?_)
     refine w_region ?_
     refine w_p (y_move (v := .int _ _) rfl rfl) rfl ?_
     refine w_p (y_assign (v := .int _ _) rfl rfl) rfl ?_
     refine w_nil ?_
     refine q_then (hK51 _ _ ?_)
     have hk4 : k < 4 := by omega
     have hmg : (maskTo s h k).getD k 0 = h.getD k 0 := maskTo_get hk4
     have hm40 := h40 k
     have hml : ld h k = h.getD k 0 := rfl
     have hmb := mul_40 (a := (maskTo s h k).getD k 0) s k (by omega)
     refine w_draw [9] [(0, 0), (1, 0), (2, 1), (3, 1), (4, 0), (5, 0), (6, 0), (7, 0), (8, 0), (9, 3)] Try_mo (drawOK_of (by kernel_rfl)) hs (fun w53 hs54 => ?_)
     refine d_any rfl want_none rfl (fun _ => (y_move (v := .int _ _) rfl rfl)) ?_
     refine d_any rfl want_none rfl (fun _ => (y_indexA Try.underlying100 Try.sizeOf3 rfl rfl rfl rfl (i := k) (by first | rfl | omega) (by omega))) ?_
     refine d_take rfl want_none rfl hs54 (fun _ hq => (y_load1 Try.isAgg3 hq rfl rfl (ats_ints (i := 0) (j := k) rfl (by first | omega | rfl | (simp only [hpl, maskTo_len, List.length_map, List.length_set, List.length_append, List.length_take, List.length_drop, List.length_replicate, List.length_cons, List.length_nil] <;> omega))))) ?_
     refine d_take rfl want_none rfl hs54 (fun _ hq => (y_load1 Try.isAgg3 hq.tail.tail.tail.drop.drop rfl rfl hx4)) ?_
     refine d_any rfl want_none rfl (fun _ => (y_move (v := .int _ _) rfl rfl)) ?_
     refine d_any rfl want_none rfl (fun _ => (y_shr (x := s) (y := k) rfl rfl rfl rfl (by first | rfl | omega) (by first | rfl | omega) (by first | omega | exact shr_lt (by omega)))) ?_
     refine d_any rfl want_none rfl (fun _ => (show Yd _ _ _ _ (.int .i64 ((bit s k : Nat) : Int)) from (y_and (x := _) (y := 1) rfl rfl rfl rfl rfl rfl (by first | omega | exact shr_lt (by omega)) (by first | omega | exact shr_lt (by omega))))) ?_
     refine d_any rfl want_none rfl (fun _ => (y_mul rfl rfl rfl rfl (by omega) (by omega))) ?_
     refine d_any rfl want_none rfl (fun _ => (y_indexA Try.underlying100 Try.sizeOf3 rfl rfl rfl rfl (i := k) (by first | rfl | omega) (by omega))) ?_
     refine d_late rfl ?_
     refine w_storeAtI (i := 0) (j := k) want_none Try.sizeOf3 rfl rfl rfl rfl hs54 rfl (by first | omega | rfl | (simp only [hpl, maskTo_len, List.length_map, List.length_set, List.length_append, List.length_take, List.length_drop, List.length_replicate, List.length_cons, List.length_nil] <;> omega)) (fun w55 hs56 => ?_)
     refine w_nil ?_
     refine qn ?_
     refine d_nil ?_
     refine q_blk_normal ?_
     refine q_then (hK49 _ _ ?_)
     refine w_region ?_
     refine w_p (y_add rfl rfl rfl rfl (by omega) (by omega)) rfl ?_
     refine w_p (y_move (v := .int _ _) rfl rfl) rfl ?_
     refine w_nil ?_
     refine q_then (hN41 _ _ (Nx.intro (4 - (k + 1)) (by omega) (by repeat (first | exact agree_mix | refine agree_upd rfl ?_ | refine agree_updL rfl ?_ _ | refine agree_mixin rfl ?_)) ?_))
     exact ⟨k + 1, rfl, by omega, rfl, by rw [← maskTo_set hk4]; exact hs56⟩
    ·
     try simp only [zA, zB, zC, zD, zE, zF] at h48
     refine w_exit ?_
     refine q_then_exit ?_
     refine q_then_exit ?_
     refine q_blk_this ?_
     refine q_then (hK37 _ _ ?_)
     refine w_seq (fun K58 hK57 => ?_)
     have hk4 : k = 4 := by omega
     subst hk4
     refine w_region ?_
     refine w_p (y_load1 Try.isAgg118 hs rfl rfl (ats_own (i := 1) (vs := [_]) rfl rfl)) rfl ?_
     refine w_p (y_loadI (i := 0) Try.isAgg100 Try.sizeOf100 (by first | omega | rfl | (simp only [hpl, maskTo_len, List.length_map, List.length_set, List.length_append, List.length_take, List.length_drop, List.length_replicate, List.length_cons, List.length_nil] <;> omega)) hs rfl rfl rfl) rfl ?_
     refine w_p (G_look2V (i := 2) (a := mask s h) (l := es) (fun key => sv (gS s (inH b hold) ((truths b).take i) key)) Try.underlying118 (keyG_ia key100) (by unfold mask; exact maskTo_len _ _ _) hsp.len hsp.v (fun hn w => by rw [hsp.zero hn]; exact Try.zeroValue31 w) hs rfl rfl rfl rfl rfl) rfl ?_
     refine w_p (y_move (v := .tuple _) rfl rfl) rfl ?_
     refine w_p (y_extract (v := .agg _) rfl rfl rfl) rfl ?_
     refine w_p (y_extract (v := .bool _) rfl rfl rfl) rfl ?_
     refine w_alloc (cs := [_, _]) want_none Try.zeroValue31 rfl hs (fun b59 w60 hs61 => ?_)
     refine w_store (i := 0) (v := .agg #[.int _ _, .int _ _]) (vs := [_, _]) want_none Try.sizeOf31 rfl rfl rfl rfl rfl (by simp [Value.oneCell']) hs61 rfl (Nat.le_of_ble_eq_true rfl) (fun w62 hs63 => ?_)
     refine w_p (y_assign (v := .bool _) rfl rfl) rfl ?_
     refine w_nil ?_
     refine q_then (hK57 _ _ ?_)
     refine w_seq (fun K65 hK64 => ?_)
     refine w_seq (fun K67 hK66 => ?_)
     refine w_region ?_
     refine w_p (y_move (v := .bool _) rfl rfl) rfl ?_
     refine w_p (y_not rfl rfl) rfl ?_
     refine w_nil ?_
     refine q_then (hK66 _ _ ?_)
     refine w_cond rfl rfl (fun h68 => ?_) (fun h68 => ?_)
     ·
      try simp only [zA, zB, zC, zD, zE, zF] at h68
      refine w_region ?_
      refine w_p (y_move (v := .int _ _) rfl rfl) rfl ?_
      refine w_p (y_move (v := .int _ _) rfl rfl) rfl ?_
      refine w_p (y_build (ps := [(0, _), (1, _)]) (pv := [(0, .int _ _), (1, .int _ _)]) rfl rfl (fun w => Try_O_fb3 _ _ w)) rfl ?_
      refine w_store (i := 0) (v := .agg #[.int _ _, .int _ _]) (vs := [_, _]) want_none Try.sizeOf31 rfl rfl rfl rfl rfl (by simp [Value.oneCell']) hs63 rfl (Nat.le_of_ble_eq_true rfl) (fun w69 hs70 => ?_)
      refine w_nil ?_
      refine q_then (hK64 _ _ ?_)
      refine w_region ?_
      refine w_p (y_load1 Try.isAgg118 hs70 rfl rfl (ats_own (i := 2) (vs := [_]) rfl rfl)) rfl ?_
      refine w_p (y_loadI (i := 1) Try.isAgg100 Try.sizeOf100 (by first | omega | rfl | (simp only [hpl, maskTo_len, List.length_map, List.length_set, List.length_append, List.length_take, List.length_drop, List.length_replicate, List.length_cons, List.length_nil] <;> omega)) hs70 rfl rfl rfl) rfl ?_
      refine w_p (y_fieldAddr (o := 0) (i := 0) Try.underlying31 rfl Try.sizeOf3 rfl rfl rfl) rfl ?_
      refine w_p (y_load1 Try.isAgg3 hs70 rfl rfl (ats_own (i := 0) (vs := [_]) rfl rfl)) rfl ?_
      refine w_p (y_move (v := .int _ _) rfl rfl) rfl ?_
      refine w_p (y_min2 rfl rfl rfl rfl) rfl ?_
      refine w_p (y_fieldAddr (o := 1) (i := 1) Try.underlying31 rfl Try.sizeOf3 rfl rfl rfl) rfl ?_
      refine w_p (y_load1 Try.isAgg3 hs70 rfl rfl (ats_own (i := 0) (vs := [_]) rfl rfl)) rfl ?_
      refine w_p (y_move (v := .int _ _) rfl rfl) rfl ?_
      refine w_p (y_max2 rfl rfl rfl rfl) rfl ?_
      refine w_p (y_build (ps := [(0, _), (1, _)]) (pv := [(0, .int _ _), (1, .int _ _)]) rfl rfl (fun w => Try_O_fb3 _ _ w)) rfl ?_
      refine G_put (i := 3) (a := mask s h) (l := es) want_none Try.underlying118 (keyG_ia key100) (by unfold mask; exact maskTo_len _ _ _) hsp.len rfl rfl rfl rfl rfl rfl hs70 rfl (fun w71 hs72 => ?_)
      refine w_nil ?_
      refine q_blk_normal ?_
      refine rd_normal (_ :: _ :: M3) hs72.tail.tail ?_
      subst hh
      refine ⟨_, M3, rfl, hM3, _, _, ?_, ?_, rfl⟩
      · exact hmk.put _ _
      · refine spm_step hi2 hsp hmk.key ?_
        first
          | exact .inl ⟨by simpa using (by assumption : ¬ mask s (pad4 (truths b)[i]) ∈ es.map (·.1)), by rw [inH_pad], by rw [inH_pad]⟩
          | exact .inr ⟨by assumption, by rw [inH_pad], by rw [inH_pad]⟩
     ·
      try simp only [zA, zB, zC, zD, zE, zF] at h68
      refine w_skip ?_
      refine q_then (hK64 _ _ ?_)
      refine w_region ?_
      refine w_p (y_load1 Try.isAgg118 hs63 rfl rfl (ats_own (i := 2) (vs := [_]) rfl rfl)) rfl ?_
      refine w_p (y_loadI (i := 1) Try.isAgg100 Try.sizeOf100 (by first | omega | rfl | (simp only [hpl, maskTo_len, List.length_map, List.length_set, List.length_append, List.length_take, List.length_drop, List.length_replicate, List.length_cons, List.length_nil] <;> omega)) hs63 rfl rfl rfl) rfl ?_
      refine w_p (y_fieldAddr (o := 0) (i := 0) Try.underlying31 rfl Try.sizeOf3 rfl rfl rfl) rfl ?_
      refine w_p (y_load1 Try.isAgg3 hs63 rfl rfl (ats_own (i := 0) (vs := [_]) rfl rfl)) rfl ?_
      refine w_p (y_move (v := .int _ _) rfl rfl) rfl ?_
      refine w_p (y_min2 rfl rfl rfl rfl) rfl ?_
      refine w_p (y_fieldAddr (o := 1) (i := 1) Try.underlying31 rfl Try.sizeOf3 rfl rfl rfl) rfl ?_
      refine w_p (y_load1 Try.isAgg3 hs63 rfl rfl (ats_own (i := 0) (vs := [_]) rfl rfl)) rfl ?_
      refine w_p (y_move (v := .int _ _) rfl rfl) rfl ?_
      refine w_p (y_max2 rfl rfl rfl rfl) rfl ?_
      refine w_p (y_build (ps := [(0, _), (1, _)]) (pv := [(0, .int _ _), (1, .int _ _)]) rfl rfl (fun w => Try_O_fb3 _ _ w)) rfl ?_
      refine G_put (i := 3) (a := mask s h) (l := es) want_none Try.underlying118 (keyG_ia key100) (by unfold mask; exact maskTo_len _ _ _) hsp.len rfl rfl rfl rfl rfl rfl hs63 rfl (fun w73 hs74 => ?_)
      refine w_nil ?_
      refine q_blk_normal ?_
      refine rd_normal (_ :: _ :: M3) hs74.tail.tail ?_
      subst hh
      refine ⟨_, M3, rfl, hM3, _, _, ?_, ?_, rfl⟩
      · exact hmk.put _ _
      · refine spm_step hi2 hsp hmk.key ?_
        first
          | exact .inl ⟨by simpa using (by assumption : ¬ mask s (pad4 (truths b)[i]) ∈ es.map (·.1)), by rw [inH_pad], by rw [inH_pad]⟩
          | exact .inr ⟨by assumption, by rw [inH_pad], by rw [inH_pad]⟩
  ·
   intro bd Bx w75 hJ hs
   obtain ⟨BB, M3, rfl, hM3, es, ck, hmk, hsp, rfl⟩ := hJ
   rw [List.length_map, List.length_map, List.take_length] at hsp
   replace hs := (show St _ _ (_ :: _ :: _ :: (M3 ++ ((bp, blk 95 [.pointer (some ⟨bb, 0, none⟩)]) :: (b3, blk 3 [.int .i64 (s : Int)]) :: (X ++ F)))) from hs)
   refine q_blk_normal ?_
   refine q_then (hK16 _ _ ?_)
   refine w_seq (fun K77 hK76 => ?_)
   refine w_seq (fun K79 hK78 => ?_)
   refine w_region ?_
   refine w_p (y_load1 Try.isAgg118 hs rfl rfl (ats_own (i := 1) (vs := [_]) rfl rfl)) rfl ?_
   refine w_rangeMap (i := 2) want_none Try.underlying118 rfl rfl hs rfl (fun b80 w81 hs82 => ?_)
   refine w_nil ?_
   refine q_then (hK78 _ _ ?_)
   refine w_block ?_
   refine w_loop [5, 13, 59, 60, 61, 62, 63, 64, 65, 66, 67, 68, 69] [] (fun kk vs w => ∃ (seen : Array Nat), vs = [] ∧ kk = remN es seen ∧ (∀ q ∈ es, q.2.2 ∈ seen.toList → (gS s (inH b hold) (truths b) q.1).2 - (gS s (inH b hold) (truths b) q.1).1 ≤ within) ∧ St w0 w ((b80, .mapIter (some b8) ck seen ck) :: (bd, .deferred (some [])) :: (b11, blk 118 [.map (some b8)]) :: (b8, .map (ents (fun l : List Int => ia l) es).toArray ck) :: (M3 ++ ((bp, blk 95 [.pointer (some ⟨bb, 0, none⟩)]) :: (b3, blk 3 [.int .i64 (s : Int)]) :: (X ++ F))))) (es.length) ?_ ?_
   ·
    exact ⟨#[], rfl, (rem_zero es).symm, fun q _ h => by simp at h, hs82⟩
   ·
    intro k vs μ w85 hI K84 hN83
    clear hs
    obtain ⟨seen, rfl, rfl, hsn, hs⟩ := hI
    refine w_seq (fun K87 hK86 => ?_)
    refine w_region ?_
    refine w_nextMap (i := 0) (j := 3) want_none rfl rfl hs rfl rfl hmk.born (Nat.le_refl _) (fun r hr hnr w89 hs90 => ?_) (fun hall => ?_)
    ·
     obtain ⟨rk, rv, rb⟩ := r
     have hrv := hsp.v _ hr
     dsimp only at hrv
     subst hrv
     refine w_p (y_extract (v := .bool _) rfl rfl rfl) rfl ?_
     refine w_nil ?_
     refine q_then (hK86 _ _ ?_)
     refine w_seq (fun K92 hK91 => ?_)
     refine w_condT rfl rfl ?_
     refine w_skip ?_
     refine q_then (hK91 _ _ ?_)
     refine w_block ?_
     refine w_seq (fun K94 hK93 => ?_)
     have hgi := gS_in hk.ok (hold := hold) s (fun l h => h) rk
     refine w_region ?_
     refine w_p (y_entryG (i := 0) (j := 3) rfl rfl hs90 rfl rfl hr hmk.bnd) rfl ?_
     refine w_p (y_extract (v := .agg _) rfl rfl rfl) rfl ?_
     refine w_alloc (cs := [_, _]) want_none Try.zeroValue31 rfl hs90 (fun b95 w96 hs97 => ?_)
     refine w_store (i := 0) (v := .agg #[.int _ _, .int _ _]) (vs := [_, _]) want_none Try.sizeOf31 rfl rfl rfl rfl rfl (by simp [Value.oneCell']) hs97 rfl (Nat.le_of_ble_eq_true rfl) (fun w98 hs99 => ?_)
     refine w_nil ?_
     refine q_then (hK93 _ _ ?_)
     refine w_seq (fun K101 hK100 => ?_)
     refine w_region ?_
     refine w_p (y_fieldAddr (o := 1) (i := 1) Try.underlying31 rfl Try.sizeOf3 rfl rfl rfl) rfl ?_
     refine w_p (y_load1 Try.isAgg3 hs99 rfl rfl (ats_own (i := 0) (vs := [_]) rfl rfl)) rfl ?_
     refine w_p (y_fieldAddr (o := 0) (i := 0) Try.underlying31 rfl Try.sizeOf3 rfl rfl rfl) rfl ?_
     refine w_p (y_load1 Try.isAgg3 hs99 rfl rfl (ats_own (i := 0) (vs := [_]) rfl rfl)) rfl ?_
     refine w_p (y_sub rfl rfl rfl rfl (by omega) (by omega)) rfl ?_
     refine w_p (y_load1 Try.isAgg3 hs99.tail.tail.tail.tail.tail.drop.tail.tail.drop rfl rfl h3) rfl ?_
     refine w_p (y_gtr rfl rfl rfl rfl) rfl ?_
     refine w_nil ?_
     refine q_then (hK100 _ _ ?_)
     refine w_cond rfl rfl (fun h102 => ?_) (fun h102 => ?_)
     ·
      try simp only [zA, zB, zC, zD, zE, zF] at h102
      refine w_seq (fun K104 hK103 => ?_)
      refine w_region ?_
      refine w_p (y_assign (v := _) rfl rfl) rfl ?_
      refine w_nil ?_
      refine q_then (hK103 _ _ ?_)
      refine w_ret ?_
      refine q_blk_ret ?_
      refine q_then_ret ?_
      refine q_blk_ret ?_
      refine q_then_ret ?_
      refine q_retM (i := 2) (l := [.tmp 5]) (vs := [_]) hs99 rfl rfl (fun w105 hs106 => ⟨⟨⟨rfl, show _ = (.bool _ : Value) from rfl⟩, trivial⟩, ?_⟩)
      first
        | exact ⟨congrArg Value.bool (tells_no hk.ok hsp hr (by simpa using (by assumption))), M3, hM3, mid_back2 hs106.tail.tail.tail.tail.tail⟩
        | exact ⟨congrArg Value.bool ((tells_map hk.ok hsp).2 fun q hq => hsn q hq (hall q hq)).symm, M3, hM3, mid_back2 hs106.tail.tail.tail.tail.tail⟩
     ·
      try simp only [zA, zB, zC, zD, zE, zF] at h102
      refine w_skip ?_
      refine q_blk_normal ?_
      refine q_then (hN83 _ _ (Nx.intro (remN es (seen.push rb)) (by have := rem_push hmk.bnd hr hnr; dsimp only at this; omega) (by repeat (first | exact agree_mix | refine agree_upd rfl ?_ | refine agree_updL rfl ?_ _ | refine agree_mixin rfl ?_)) ?_))
      exact ⟨seen.push rb, rfl, rfl, fun q hq h => (by
        rw [Array.toList_push, List.mem_append, List.mem_singleton] at h
        rcases h with h | h
        · exact hsn q hq h
        · have e := nodup_inj hmk.bnd hq hr h
          rw [e]; simpa using (by assumption)), hs99.tail⟩
    ·
     refine w_p (y_extract (v := .bool _) rfl rfl rfl) rfl ?_
     refine w_nil ?_
     refine q_then (hK86 _ _ ?_)
     refine w_seq (fun K108 hK107 => ?_)
     refine w_condF rfl rfl ?_
     refine w_exit ?_
     refine q_then_exit ?_
     refine q_then_exit ?_
     refine q_blk_this ?_
     refine q_then (hK76 _ _ ?_)
     refine w_seq (fun K110 hK109 => ?_)
     refine w_region ?_
     refine w_p (y_assign (v := _) rfl rfl) rfl ?_
     refine w_nil ?_
     refine q_then (hK109 _ _ ?_)
     refine w_ret ?_
     refine q_retM (i := 1) (l := [.tmp 5]) (vs := [_]) hs rfl rfl (fun w111 hs112 => ⟨⟨⟨rfl, show _ = (.bool _ : Value) from rfl⟩, trivial⟩, ?_⟩)
     first
       | exact ⟨congrArg Value.bool (tells_no hk.ok hsp hr (by simpa using (by assumption))), M3, hM3, mid_back2 hs112.tail.tail.tail.tail⟩
       | exact ⟨congrArg Value.bool ((tells_map hk.ok hsp).2 fun q hq => hsn q hq (hall q hq)).symm, M3, hM3, mid_back2 hs112.tail.tail.tail.tail⟩
  ·
   intro _ _ _ _ hJ
   obtain ⟨_, _, _, _, h⟩ := hJ
   exact h.elim

end Go.Proofs
/- Walks of this seat, printed by gen.py over the engine: what each function returns, in whatever world. No conditions but those of each contract. -/
set_option linter.unusedVariables false
set_option linter.unusedSimpArgs false
set_option maxRecDepth 20000
namespace Go.Proofs
open Go.Rt Go.Rt.Ch
open Go.Rt.Ha (firstE firstE_step firstE_stop firstE_end failE nameE felt spanL upto span_mem listL fewest fewTo bit before fewStep drop_lt drop_get drop_next drop_done drop_notin set_take set_zero take_less)
attribute [local irreducible] WL WC Con Yd At Ats Sl Agree DW
theorem Try_P_fb3 (x0 : Int) (x1 : Int) (w : World) : (Instr.buildSlice 39 2 [(0, .int .i64 x0), (1, .int .i64 x1)].toArray).run Try.prog w = .ok (.slice (some ⟨w.heap.size, 0, none⟩) 2 2) (w.alloc (Go.Rt.blk 3 [.int .i64 x0, .int .i64 x1])) := by kernel_rfl
theorem c27 {w0 w : World} {F : List (Nat × Obj)} (b : Board) (p : AtB) (hm : BIn w0 F b p) (a n : Int) (hs : St w0 w F) :
  Con Try.prog 27 [.agg (b.cells p).toArray, .int .i64 a, .int .i64 n] w fun v w' => ∃ B a' c, v = .tuple #[.slice a' (looksP b a n).1.length c, .int .i64 (looksP b a n).2] ∧ Sl w0 B a' 1 ((looksP b a n).1.map fun x => [Value.int .i64 x]) ∧ St w0 w' (B ++ F) := by
  refine con_of_wc (n := 31) Try.func27 rfl rfl (Nat.le_of_ble_eq_true rfl) ?_
  have hlh0 := hm.lh
  have hlc0 := hm.lc
  refine w_seq (fun K2 hK1 => ?_)
  refine w_region ?_
  refine w_box (v := .agg #[.int _ _, .slice _ _ _, .slice _ _ _]) (cs := [_, _, _]) want_none rfl rfl rfl hs (fun b3 w4 hs5 => ?_)
  refine w_box (v := .int _ _) (cs := [_]) want_none rfl rfl rfl hs5 (fun b6 w7 hs8 => ?_)
  refine w_box (v := .int _ _) (cs := [_]) want_none rfl rfl rfl hs8 (fun b9 w10 hs11 => ?_)
  refine w_p (y_assign (v := _) rfl rfl) rfl ?_
  refine w_p (y_assign (v := _) rfl rfl) rfl ?_
  refine w_nil ?_
  refine q_then (hK1 _ _ ?_)
  refine w_seq (fun K13 hK12 => ?_)
  refine w_region ?_
  refine w_p (y_assign (v := _) rfl rfl) rfl ?_
  refine w_nil ?_
  refine q_then (hK12 _ _ ?_)
  refine w_seq (fun K15 hK14 => ?_)
  refine w_cut [8, 11, 12] [8] (fun vs w => vs = [.int .i64 (if n < 0 then (7 : Int) else 0)] ∧ St w0 w ((b9, blk 3 [.int .i64 n]) :: (b6, blk 3 [.int .i64 a]) :: (b3, blk 25 (b.cells p)) :: F)) (fun K17 hC16 => ?_) ?_
  ·
   refine w_seq (fun K19 hK18 => ?_)
   refine w_region ?_
   refine w_p (y_load1 Try.isAgg3 hs11 rfl rfl (ats_own (i := 0) (vs := [_]) rfl rfl)) rfl ?_
   refine w_p (y_lss rfl rfl rfl rfl) rfl ?_
   refine w_nil ?_
   refine q_then (hK18 _ _ ?_)
   refine w_cond rfl rfl (fun h20 => ?_) (fun h20 => ?_)
   ·
    try simp only [zA, zB, zC, zD, zE, zF] at h20
    refine w_region ?_
    refine w_p (y_assign (v := _) rfl rfl) rfl ?_
    refine w_nil ?_
    refine q_then (hC16 _ _ (Md.intro (by repeat (first | exact agree_refl | exact agree_mix | refine agree_upd rfl ?_ | refine agree_updL rfl ?_ _ | refine agree_mixin rfl ?_)) ?_))
    first
      | exact ⟨by rw [if_pos (by assumption)]; rfl, hs11⟩
      | exact ⟨by rw [if_neg (by omega)]; rfl, hs11⟩
   ·
    try simp only [zA, zB, zC, zD, zE, zF] at h20
    refine w_skip ?_
    refine q_then (hC16 _ _ (Md.intro (by repeat (first | exact agree_refl | exact agree_mix | refine agree_upd rfl ?_ | refine agree_updL rfl ?_ _ | refine agree_mixin rfl ?_)) ?_))
    first
      | exact ⟨by rw [if_pos (by assumption)]; rfl, hs11⟩
      | exact ⟨by rw [if_neg (by omega)]; rfl, hs11⟩
  ·
   intro vs μ w21 hM
   obtain ⟨rfl, hs⟩ := hM
   refine q_then (hK14 _ _ ?_)
   refine w_seq (fun K23 hK22 => ?_)
   have hb3 : Ats w0 ((b3, blk 25 (b.cells p)) :: F) b3 0 (b.cells p) := ats_own (i := 0) (vs := b.cells p) rfl rfl
   refine w_region ?_
   refine w_p (y_loadN (vs := [_, _, _]) Try.isAgg25 Try.sizeOf25 hs.tail.tail rfl rfl hb3) rfl ?_
   refine w_p (y_move (v := .int _ _) rfl rfl) rfl ?_
   refine w_p (y_load1 Try.isAgg3 hs rfl rfl (ats_own (i := 1) (vs := [_]) rfl rfl)) rfl ?_
   refine w_p (y_fieldAddr (o := 0) (i := 0) Try.underlying25 rfl Try.sizeOf3 rfl rfl rfl) rfl ?_
   refine w_p (y_load1 Try.isAgg3 hs.tail.tail rfl rfl (show Ats _ _ _ _ [_] from Ats.part hb3 0 1)) rfl ?_
   refine w_bslice (ps := [(0, _), (1, _)]) (pv := [(0, .int _ _), (1, .int _ _)]) (cs := [_, _]) want_none rfl rfl (fun w => Try_P_fb3 _ _ w) hs (fun b24 w25 hs26 => ?_)
   refine w_call want_none Try.call63 rfl rfl rfl rfl ((by have h := c63 b _ hm.cons.cons.cons.cons (if n < 0 then (7 : Int) else 0) (some ⟨b24, 0, none⟩) 2 [a, b.holds] (by simp) (by simp) (hns_b a) (sl_own (i := 0) (rows := [[_], [_]]) rfl (by simp) rfl) hs26; rw [pairs_looks] at h; exact h)) ?_
   rintro _ w28 (⟨hee, rfl, hs29⟩ | ⟨hee, bb, mm, M, rfl, hM, hs29⟩)
   ·
    refine w_p (y_move (v := .tuple _) rfl rfl) rfl ?_
    refine w_p (y_extract (v := .pointer _) rfl rfl rfl) rfl ?_
    refine w_p (y_extract (v := .int _ _) rfl rfl rfl) rfl ?_
    refine w_alloc (cs := [_]) want_none Try.zeroValue95 rfl hs29 (fun b30 w31 hs32 => ?_)
    refine w_store (i := 0) (v := .pointer _) (vs := [_]) want_none Try.sizeOf95 rfl rfl rfl rfl rfl (by simp [Value.oneCell']) hs32 rfl (Nat.le_of_ble_eq_true rfl) (fun w33 hs34 => ?_)
    refine w_p (y_assign (v := .int _ _) rfl rfl) rfl ?_
    refine w_nil ?_
    refine q_then (hK22 _ _ ?_)
    refine w_seq (fun K36 hK35 => ?_)
    refine w_seq (fun K38 hK37 => ?_)
    refine w_region ?_
    refine w_p (y_move (v := .int _ _) rfl rfl) rfl ?_
    refine w_p (y_neq rfl rfl rfl rfl) rfl ?_
    refine w_nil ?_
    refine q_then (hK37 _ _ ?_)
    refine w_cond rfl rfl (fun h39 => ?_) (fun h39 => ?_)
    ·
     try simp only [zA, zB, zC, zD, zE, zF] at h39
     refine w_seq (fun K41 hK40 => ?_)
     refine w_region ?_
     refine w_p (y_move (v := .int _ _) rfl rfl) rfl ?_
     refine w_p (y_assign (v := _) rfl rfl) rfl ?_
     refine w_p (y_assign (v := .int _ _) rfl rfl) rfl ?_
     refine w_nil ?_
     refine q_then (hK40 _ _ ?_)
     refine w_ret ?_
     refine q_then_ret ?_
     refine q_ret (l := [.tmp 6, .tmp 7]) (vs := [_, _]) rfl ⟨⟨rfl, show _ = (.slice _ _ _ : Value) from rfl⟩, ⟨rfl, show _ = (.int _ _ : Value) from rfl⟩, trivial⟩ ?_
     exact ⟨[], none, 0, by rw [looksP_e hee]; rfl, by rw [looksP_e hee]; exact Sl.nil _ _, hs34.tail.tail.tail.tail.tail⟩
    ·
     exfalso
     try simp only [zA, zB, zC, zD, zE, zF] at h39
     first | exact hee h39 | exact h39 hee
   ·
    replace hs29 := (show St _ _ (_ :: M ++ (_ :: _ :: _ :: _ :: F)) from hs29)
    have hs42 := (show St _ _ ([_] ++ (M ++ _)) from hs29).perm (perm_mid [_] M _)
    replace hs42 := (show St _ _ (M ++ (_ :: _ :: _ :: _ :: _ :: F)) from hs42)
    have hew := enterE_ok hee
    have hok := check_ok hew.1
    refine w_p (y_move (v := .tuple _) rfl rfl) rfl ?_
    refine w_p (y_extract (v := .pointer _) rfl rfl rfl) rfl ?_
    refine w_p (y_extract (v := .int _ _) rfl rfl rfl) rfl ?_
    refine w_alloc (cs := [_]) want_none Try.zeroValue95 rfl hs42 (fun b43 w44 hs45 => ?_)
    refine w_store (i := 0) (v := .pointer _) (vs := [_]) want_none Try.sizeOf95 rfl rfl rfl rfl rfl (by simp [Value.oneCell']) hs45 rfl (Nat.le_of_ble_eq_true rfl) (fun w46 hs47 => ?_)
    refine w_p (y_assign (v := .int _ _) rfl rfl) rfl ?_
    refine w_nil ?_
    refine q_then (hK22 _ _ ?_)
    refine w_seq (fun K49 hK48 => ?_)
    refine w_seq (fun K51 hK50 => ?_)
    refine w_region ?_
    refine w_p (y_move (v := .int _ _) rfl rfl) rfl ?_
    refine w_p (y_neq rfl rfl rfl rfl) rfl ?_
    refine w_nil ?_
    refine q_then (hK50 _ _ ?_)
    refine w_condF rfl rfl ?_
    refine w_skip ?_
    refine q_then (hK48 _ _ ?_)
    refine w_seq (fun K53 hK52 => ?_)
    refine w_region ?_
    refine w_p (y_fieldAddr (o := 1) (i := 1) Try.underlying25 rfl Try.sizeOf22 rfl rfl rfl) rfl ?_
    refine w_p (y_load1 Try.isAgg22 hs47.tail.drop.tail.tail.tail.tail rfl rfl (show Ats _ _ _ _ [_] from Ats.part hb3 1 1)) rfl ?_
    refine w_p (y_lenS Try.underlying22 rfl rfl) rfl ?_
    refine w_p (y_makeFunc (fv := []) (cv := [_, _, _]) rfl rfl rfl rfl) rfl ?_
    have hs54 := (show St _ _ ([_] ++ (M ++ _)) from hs47).perm (perm_mid [_] M _)
    replace hs54 := (show St _ _ (M ++ (_ :: _ :: _ :: _ :: _ :: _ :: F)) from hs54)
    refine w_call want_none Try.call78 rfl rfl rfl rfl (c78 (M := M) (F := _ :: (bb, blk 129 [.int .i64 b.holds, .slice p.ah b.hours.length p.ch, .slice p.ac b.ctrs.length p.cc, .map (some mm)]) :: _ :: _ :: _ :: _ :: F) b.hours.length (by have := hok.lh; omega) _ (tellsS b a n) (Memo w0 b mm) (fun s M X w hs1 hM hs => fcon_fn Try.call79 (c79 b p bb mm ⟨hm.cons.cons.cons.cons.cons.cons, ats_own (i := 1) rfl rfl, hok⟩ s (by have := (shl_256 (n := b.hours.length) (by have := hok.lh; omega)).2; omega) a n _ _ _ (ats_own (i := 0) (vs := [_]) rfl rfl) (ats_own (i := 4) (vs := [_]) rfl rfl) (ats_own (i := 3) (vs := [_]) rfl rfl) hM hs)) hM hs54) ?_
    rintro _ w56 ⟨B, M2, a2, c2, rfl, hslB, hM2, hs57⟩
    replace hs57 := (show St _ _ (B ++ (M2 ++ (_ :: _ :: _ :: _ :: _ :: _ :: F))) from hs57)
    refine w_p (y_assign (v := .slice _ _ _) rfl rfl) rfl ?_
    refine w_p (y_assign (v := _) rfl rfl) rfl ?_
    refine w_nil ?_
    refine q_then (hK52 _ _ ?_)
    refine w_ret ?_
    refine q_ret (l := [.tmp 6, .tmp 7]) (vs := [_, _]) rfl ⟨⟨rfl, show _ = (.slice _ _ _ : Value) from rfl⟩, ⟨rfl, show _ = (.int _ _ : Value) from rfl⟩, trivial⟩ ?_
    exact ⟨B, a2, c2, by rw [looksP_y hee]; rfl, by rw [looksP_y hee]; exact hslB, keep_front (P := [_, _, _, _, _, _]) hs57⟩

end Go.Proofs
/- Plain words of the chain layer: boards without some numbers shown, step by step. No conditions. -/
set_option linter.unusedSimpArgs false
set_option linter.unusedVariables false
namespace Go.Rt.Ch
open Go.Rt.Ha
theorem butFrom_len (n s : Nat) : ∀ (l : List Ctr) (i : Nat), (butFrom n s i l).length = l.length
  | [], _ => rfl
  | c :: l, i => by simp only [butFrom, List.length_cons, butFrom_len n s l (i + 1)]
theorem butFrom_get {n s : Nat} : ∀ {l : List Ctr} {i k : Nat} (h : k < l.length), (butFrom n s i l)[k]'(by rw [butFrom_len]; exact h) = butC n s (i + k) l[k]
  | c :: l, i, 0, h => rfl
  | c :: l, i, k + 1, h => by
    simp only [butFrom, List.getElem_cons_succ]
    rw [butFrom_get (l := l) (i := i + 1) (k := k) (by simpa using h), show i + 1 + k = i + (k + 1) by omega]
theorem butB_len (b : Board) (s : Nat) : (butB b s).ctrs.length = b.ctrs.length := butFrom_len _ _ _ _
theorem butB_get {b : Board} {s k : Nat} (h : k < b.ctrs.length) : (butB b s).ctrs[k]'(by rw [butB_len]; exact h) = butC b.hours.length s k b.ctrs[k] := by
  have := butFrom_get (n := b.hours.length) (s := s) (i := 0) h
  rw [Nat.zero_add] at this; exact this
theorem butC_slen (n s i : Nat) (c : Ctr) : (butC n s i c).shown.length = c.shown.length := by simp [butC]
theorem butB_ok {b : Board} (h : b.Ok) (s : Nat) : (butB b s).Ok := by
  refine ⟨h.holds, h.lh, by rw [butB_len]; exact h.lc, h.hour, fun c hc => ?_⟩
  obtain ⟨k, hk, rfl⟩ := List.getElem_of_mem hc
  have hk2 : k < b.ctrs.length := by rw [butB_len] at hk; exact hk
  rw [butB_get hk2]
  have ho := h.ctr _ (List.getElem_mem hk2)
  refine ⟨ho.skip, ho.twice, ho.start, ho.lz, by rw [butC_slen]; exact ho.ls, ho.zero, fun z hz => ?_, ho.nm⟩
  simp only [butC, List.mem_map, List.mem_range] at hz
  obtain ⟨j, hj, rfl⟩ := hz
  split
  · omega
  · have : b.ctrs[k].shown.getD j 0 = b.ctrs[k].shown[j] := by simp [List.getD, hj]
    rw [this]; exact ho.shown _ (List.getElem_mem hj)
/-- The counters, of which the first so many have been gone through. -/
def BL (b : Board) (s i : Nat) : List Ctr := (butB b s).ctrs.take i ++ b.ctrs.drop i
theorem BL_len {b : Board} {s i : Nat} (h : i ≤ b.ctrs.length) : (BL b s i).length = b.ctrs.length := by
  unfold BL; rw [List.length_append, List.length_take, List.length_drop, butB_len]; omega
theorem BL_zero (b : Board) (s : Nat) : BL b s 0 = b.ctrs := by simp [BL]
theorem BL_all {b : Board} {s i : Nat} (h : b.ctrs.length ≤ i) : BL b s i = (butB b s).ctrs := by
  unfold BL; rw [List.take_of_length_le (by rw [butB_len]; exact h), List.drop_of_length_le h, List.append_nil]
theorem BL_get {b : Board} {s i : Nat} (h : i < b.ctrs.length) : (BL b s i)[i]'(by rw [BL_len (by omega)]; exact h) = b.ctrs[i] := by
  have hl : ((butB b s).ctrs.take i).length = i := by rw [List.length_take, butB_len]; omega
  unfold BL
  rw [List.getElem_append_right (by omega)]
  simp [hl]
theorem BL_set {b : Board} {s i : Nat} (h : i < b.ctrs.length) : BL b s (i + 1) = (BL b s i).set i (butC b.hours.length s i b.ctrs[i]) := by
  have hl : ((butB b s).ctrs.take i).length = i := by rw [List.length_take, butB_len]; omega
  unfold BL
  rw [List.set_append_right _ _ (by omega), hl, Nat.sub_self, List.drop_eq_getElem_cons h, List.set_cons_zero, List.take_succ_eq_append_getElem (by rw [butB_len]; exact h), butB_get h, List.append_assoc]; rfl
def setPc (q : Nat → AtC) (i : Nat) (a : Option Addr) (c : Nat) : Nat → AtC := fun j => if j = i then { q i with «as» := a, cs := c } else q j
theorem krows_set {l : List Ctr} {q : Nat → AtC} {i : Nat} {c : Ctr} {a : Option Addr} {cp : Nat} (hi : i < l.length) (hc : c.cells { q i with «as» := a, cs := cp } = (l[i].cells (q i)).set 5 (.slice a l[i].shown.length cp)) : (krows l q).set i ((l[i].cells (q i)).set 5 (.slice a l[i].shown.length cp)) = krows (l.set i c) (setPc q i a cp) := by
  unfold krows
  apply List.ext_getElem
  · simp
  · intro k h1 h2
    have hk : k < l.length := by simpa using h1
    rw [List.getElem_set, List.getElem_mapIdx, List.getElem_mapIdx, List.getElem_set]
    by_cases e : i = k
    · subst e
      rw [if_pos rfl, if_pos rfl]
      unfold setPc; rw [if_pos rfl]; exact hc.symm
    · rw [if_neg e, if_neg e]
      unfold setPc; rw [if_neg (fun h => e h.symm)]
theorem but_cells {n s i : Nat} {c : Ctr} {q : AtC} {a : Option Addr} {cp : Nat} : (butC n s i c).cells { q with «as» := a, cs := cp } = (c.cells q).set 5 (.slice a c.shown.length cp) := by
  unfold Ctr.cells
  rw [butC_slen]; rfl
/-! ### The numbers of one counter -/
def shPart (n s i k : Nat) (l : List Int) : List Int := (List.range l.length).map fun j => if j < k ∧ bit s (i * n + j) = 1 then -1 else l.getD j 0
theorem shPart_len (n s i k : Nat) (l : List Int) : (shPart n s i k l).length = l.length := by simp [shPart]
theorem shPart_zero (n s i : Nat) (l : List Int) : shPart n s i 0 l = l := by
  apply List.ext_getElem
  · rw [shPart_len]
  · intro j h1 h2; simp [shPart, List.getD, h2]
theorem shPart_get {n s i k : Nat} {l : List Int} (hk : k < l.length) : (shPart n s i k l).getD k 0 = l.getD k 0 := by
  simp [shPart, List.getD, hk]
theorem shPart_yes {n s i k : Nat} {l : List Int} (hk : k < l.length) (h : bit s (i * n + k) = 1) : (shPart n s i k l).set k (-1) = shPart n s i (k + 1) l := by
  apply List.ext_getElem
  · simp [shPart]
  · intro j h1 h2
    have hj : j < l.length := by rwa [shPart_len] at h2
    rw [List.getElem_set]
    by_cases e : k = j
    · subst e; simp [shPart, h]
    · rw [if_neg e]
      have e2 : (j < k + 1) ↔ (j < k) := by omega
      simp [shPart, e2]
theorem shPart_no {n s i k : Nat} {l : List Int} (h : bit s (i * n + k) = 0) : shPart n s i k l = shPart n s i (k + 1) l := by
  apply List.ext_getElem
  · simp [shPart]
  · intro j h1 h2
    by_cases e : j = k
    · subst e; simp [shPart, h]
    · have e2 : (j < k + 1) ↔ (j < k) := by omega
      simp [shPart, e2]
theorem shPart_all {n s i k : Nat} {c : Ctr} (hk : c.shown.length ≤ k) : shPart n s i k c.shown = (butC n s i c).shown := by
  unfold shPart butC
  refine List.map_congr_left fun j hj => ?_
  rw [List.mem_range] at hj
  have : j < k := by omega
  simp [this]
/-! ### Whether all of a set are shown -/
def WOK (b : Board) (s m : Nat) : Prop := ∀ j, j < m → ¬ (bit s j = 1 ∧ shownAt b j = -1)
theorem shown_at {b : Board} {i k : Nat} (hi : i < b.ctrs.length) (hk : k < b.hours.length) : shownAt b (i * b.hours.length + k) = b.ctrs[i].shown.getD k 0 := by
  unfold shownAt
  have e1 : (i * b.hours.length + k) / b.hours.length = i := by
    rw [Nat.mul_comm, Nat.mul_add_div (by omega), Nat.div_eq_of_lt hk]; omega
  have e2 : (i * b.hours.length + k) % b.hours.length = k := by
    rw [Nat.mul_comm, Nat.mul_add_mod, Nat.mod_eq_of_lt hk]
  rw [e1, e2, ctr_at hi]
theorem wok_no {b : Board} {s i k : Nat} (h : WOK b s (i * b.hours.length + k)) (hb : bit s (i * b.hours.length + k) = 0) : WOK b s (i * b.hours.length + (k + 1)) := by
  intro j hj
  by_cases e : j = i * b.hours.length + k
  · subst e; rintro ⟨h1, _⟩; omega
  · exact h j (by omega)
theorem wok_yes {b : Board} {s i k : Nat} (hi : i < b.ctrs.length) (hk : k < b.hours.length) (h : WOK b s (i * b.hours.length + k)) (hs : ¬ b.ctrs[i].shown.getD k 0 = -1) : WOK b s (i * b.hours.length + (k + 1)) := by
  intro j hj
  by_cases e : j = i * b.hours.length + k
  · subst e; rintro ⟨_, h2⟩; rw [shown_at hi hk] at h2; exact hs h2
  · exact h j (by omega)
theorem wok_row {b : Board} {s i k : Nat} (hk : b.hours.length ≤ k) (hk2 : k ≤ b.hours.length) (h : WOK b s (i * b.hours.length + k)) : WOK b s ((i + 1) * b.hours.length + 0) := by
  have : k = b.hours.length := by omega
  subst this
  rw [Nat.succ_mul]; exact h
theorem wrongS_no {b : Board} {s i k : Nat} (hi : i < b.ctrs.length) (hk : k < b.hours.length) (hb : bit s (i * b.hours.length + k) = 1) (hs : b.ctrs[i].shown.getD k 0 = -1) : wrongS b s = false := by
  unfold wrongS
  rw [Bool.and_eq_false_iff]
  left
  rw [List.all_eq_false]
  have hlt : i * b.hours.length + k < b.hours.length * b.ctrs.length := by
    have h1 : (i + 1) * b.hours.length ≤ b.ctrs.length * b.hours.length := Nat.mul_le_mul_right _ (by omega)
    rw [Nat.succ_mul, Nat.mul_comm b.ctrs.length] at h1
    omega
  refine ⟨_, List.mem_range.2 hlt, ?_⟩
  rw [shown_at hi hk, hb, hs]; simp
theorem wrongS_yes {b : Board} {s i : Nat} (hi : b.ctrs.length ≤ i) (h : WOK b s (i * b.hours.length + 0)) : wrongS b s = !(truths (butB b s)).isEmpty := by
  unfold wrongS
  rw [List.all_eq_true.2, Bool.true_and]
  intro j hj
  rw [List.mem_range] at hj
  have h1 : b.ctrs.length * b.hours.length ≤ i * b.hours.length := Nat.mul_le_mul_right _ hi
  rw [Nat.mul_comm] at h1
  have := h j (by omega)
  simp only [Bool.not_eq_true', Bool.and_eq_false_iff, decide_eq_false_iff_not]
  by_cases e : bit s j = 1
  · exact .inr fun h2 => this ⟨e, h2⟩
  · exact .inl e
theorem mul_in8 {n c i k : Nat} (hn : n ≤ 4) (hc : c ≤ 2) (hi : i < c) (hk : k < n) : i * n + k < 8 ∧ i * n ≤ 4 := by
  have h1 : i * n ≤ 1 * 4 := Nat.mul_le_mul (by omega) hn
  omega
end Go.Rt.Ch
/- Rows of cells, one of which is set anew. No conditions. -/
set_option linter.unusedSimpArgs false
set_option linter.unusedVariables false
namespace Go.Rt
theorem setMany_mid : ∀ (vs old pre post : List Value), old.length = vs.length → setMany (pre ++ (old ++ post)) pre.length vs = pre ++ (vs ++ post)
  | [], [], pre, post, _ => by simp [setMany]
  | v :: vs, o :: old, pre, post, h => by
    have ih := setMany_mid vs old (pre ++ [v]) post (by simpa using h)
    simp only [setMany]
    rw [List.set_append_right _ _ (Nat.le_refl _), Nat.sub_self, List.cons_append, List.set_cons_zero]
    simpa using ih
  | [], _ :: _, _, _, h => by simp at h
  | _ :: _, [], _, _, h => by simp at h
theorem flat_len_sz {rows : List (List Value)} {sz : Nat} (hr : ∀ row ∈ rows, row.length = sz) : rows.flatten.length = rows.length * sz := by
  induction rows with
  | nil => simp
  | cons r l ih => rw [List.flatten_cons, List.length_append, hr r (.head _), ih fun x hx => hr x (.tail _ hx), List.length_cons, Nat.succ_mul]; omega
theorem setMany_rows {rows : List (List Value)} {sz i n : Nat} {row cs : List Value} (hn : rows.length = n) (hr : ∀ row ∈ rows, row.length = sz) (hi : i < rows.length) (hrow : row.length = sz) (h : cs.take (n * sz) = rows.flatten) : (setMany cs (i * sz) row).take (n * sz) = (rows.set i row).flatten := by
  have hpre : (rows.take i).flatten.length = i * sz := by
    rw [flat_len_sz (fun x hx => hr x (List.mem_of_mem_take hx)), List.length_take, Nat.min_eq_left (by omega)]
  have e1 : rows.flatten = (rows.take i).flatten ++ (rows[i] ++ (rows.drop (i + 1)).flatten) := by
    rw [← List.flatten_cons, ← List.drop_eq_getElem_cons hi, ← List.flatten_append, List.take_append_drop]
  have e2 : cs = (rows.take i).flatten ++ (rows[i] ++ ((rows.drop (i + 1)).flatten ++ cs.drop (n * sz))) := by
    have := List.take_append_drop (n * sz) cs
    rw [h, e1] at this
    simpa [List.append_assoc] using this.symm
  have e3 := setMany_mid row rows[i] (rows.take i).flatten ((rows.drop (i + 1)).flatten ++ cs.drop (n * sz)) (by rw [hrow, hr _ (List.getElem_mem hi)])
  rw [← e2, hpre] at e3
  rw [e3]
  have e4 : (rows.set i row).flatten = (rows.take i).flatten ++ (row ++ (rows.drop (i + 1)).flatten) := by
    rw [List.set_eq_take_append_cons_drop, if_pos hi, List.flatten_append, List.flatten_cons]
  have e5 : (rows.set i row).flatten.length = n * sz := by
    rw [flat_len_sz, List.length_set, hn]
    intro x hx
    rcases List.mem_or_eq_of_mem_set hx with h | h
    · exact hr x h
    · rw [h]; exact hrow
  have e6 : (rows.take i).flatten ++ (row ++ ((rows.drop (i + 1)).flatten ++ cs.drop (n * sz))) = (rows.set i row).flatten ++ cs.drop (n * sz) := by rw [e4]; simp [List.append_assoc]
  rw [e6, List.take_append_of_le_length (Nat.le_of_eq e5.symm), List.take_of_length_le (Nat.le_of_eq e5)]
theorem setMany_len : ∀ (vs cs : List Value) (off : Nat), (setMany cs off vs).length = cs.length
  | [], cs, off => rfl
  | v :: vs, cs, off => by simp only [setMany]; rw [setMany_len vs]; simp
theorem own_put {α : Type} {row : α → List Value} {t : TypeId} {sz b cap n i : Nat} (hr : ∀ x, (row x).length = sz) {cs : List Value} {l : List α} {y : α} (hi : i < l.length) (hn : l.length = n) (h1 : n ≤ cap) (h2 : cap ≤ maxLen) (h3 : cs.length = cap * sz) (h : cs.take (n * sz) = (l.map row).flatten) : Own (.slice (some ⟨b, 0, none⟩) n cap) t sz n ((l.set i y).map row).flatten [(b, blk t (setMany cs (i * sz) (row y)))] := by
  have h4 : ∀ x ∈ l.map row, x.length = sz := by intro x hx; obtain ⟨q, _, rfl⟩ := List.mem_map.1 hx; exact hr q
  refine ⟨?_, .inr ⟨b, cap, _, rfl, rfl, h1, h2, by rw [setMany_len]; exact h3, ?_⟩⟩
  · rw [flat_len_sz (sz := sz) (by intro x hx; obtain ⟨q, _, rfl⟩ := List.mem_map.1 hx; exact hr q), List.length_map, List.length_set, hn]
  · have := setMany_rows (row := row y) (i := i) (by simpa using hn) h4 (by simpa using hi) (hr y) h
    rw [this, List.map_set]
end Go.Rt
/- Walks of this seat, printed by gen.py over the engine: what each function returns, in whatever world. No conditions but those of each contract. -/
set_option linter.unusedVariables false
set_option linter.unusedSimpArgs false
set_option maxRecDepth 20000
namespace Go.Proofs
open Go.Rt Go.Rt.Ch
open Go.Rt.Ha (firstE firstE_step firstE_stop firstE_end failE nameE felt spanL upto span_mem listL fewest fewTo bit before fewStep drop_lt drop_get drop_next drop_done drop_notin set_take set_zero take_less)
attribute [local irreducible] WL WC Con Yd At Ats Sl Agree DW
theorem Try_Q_fb3  (w : World) : (Instr.buildSlice 23 0 [].toArray).run Try.prog w = .ok (.slice (some ⟨w.heap.size, 0, none⟩) 0 0) (w.alloc (Go.Rt.blk 76 [])) := by kernel_rfl
theorem Try_info76 : Try.prog.info? 76 = some Try.t76 := by kernel_rfl
theorem Try_Q_fb5  (w : World) : (Instr.buildSlice 39 0 [].toArray).run Try.prog w = .ok (.slice (some ⟨w.heap.size, 0, none⟩) 0 0) (w.alloc (Go.Rt.blk 3 [])) := by kernel_rfl
theorem krows_one (l : List Ctr) (q : Nat → AtC) : ∀ row ∈ krows l q, ∀ u ∈ row, u.oneCell' = true := by
  intro row hr u hu
  obtain ⟨i, hi, rfl⟩ := List.getElem_of_mem hr
  simp only [krows, List.getElem_mapIdx, Ctr.cells, List.mem_cons, List.not_mem_nil, or_false] at hu
  rcases hu with rfl | rfl | rfl | rfl | rfl | rfl <;> rfl
theorem ints_rows (l : List Int) : (l.map fun x => [Value.int .i64 x]).flatten = iv l := by induction l with | nil => rfl | cons x l ih => simp only [List.map_cons, List.flatten_cons, ih]; rfl
theorem ints1_one (l : List Int) : ∀ row ∈ l.map (fun x => [Value.int .i64 x]), ∀ u ∈ row, u.oneCell' = true := by
  intro row hr u hu
  obtain ⟨x, _, rfl⟩ := List.mem_map.1 hr
  rw [List.mem_singleton] at hu; subst hu; rfl
/-- Where the counters' lists lie, of which the first so many have been copied. -/
def QC (p : AtB) (qc : Nat → AtC) (i : Nat) : Prop := (∀ j, i ≤ j → qc j = p.pc j) ∧ ∀ j, (qc j).az = (p.pc j).az ∧ (qc j).cz = (p.pc j).cz
def DS (w0 : World) (DB : List (Nat × Obj)) (b : Board) (s : Nat) (qc : Nat → AtC) (i : Nat) : Prop := ∀ k (hk : k < i) (hk2 : k < b.ctrs.length), Sl w0 DB (qc k).as 1 ((butC b.hours.length s k b.ctrs[k]).shown.map fun x => [Value.int .i64 x]) ∧ b.ctrs[k].shown.length ≤ (qc k).cs
theorem qc_zero (p : AtB) : QC p p.pc 0 := ⟨fun _ _ => rfl, fun _ => ⟨rfl, rfl⟩⟩
theorem QC.next {p : AtB} {qc : Nat → AtC} {i : Nat} (h : QC p qc i) (a : Option Addr) (c : Nat) : QC p (setPc qc i a c) (i + 1) := by
  refine ⟨fun j hj => ?_, fun j => ?_⟩
  · unfold setPc; rw [if_neg (by omega)]; exact h.1 j (by omega)
  · unfold setPc
    split
    · rename_i e; subst e; exact h.2 j
    · exact h.2 j
theorem ds_zero (w0 : World) (b : Board) (s : Nat) (qc : Nat → AtC) : DS w0 [] b s qc 0 := fun k hk => by omega
theorem DS.next {w0 : World} {DB B2 : List (Nat × Obj)} {b : Board} {s i : Nat} {qc : Nat → AtC} (h : DS w0 DB b s qc i) {a : Option Addr} {c : Nat} (hi : i < b.ctrs.length) (h2 : Sl w0 B2 a 1 ((butC b.hours.length s i b.ctrs[i]).shown.map fun x => [Value.int .i64 x])) (hc : b.ctrs[i].shown.length ≤ c) : DS w0 (B2 ++ DB) b s (setPc qc i a c) (i + 1) := by
  intro k hk hk2
  unfold setPc
  by_cases e : k = i
  · subst e
    rw [if_pos rfl]
    exact ⟨h2.top, hc⟩
  · rw [if_neg e]
    exact ⟨(h k (by omega) hk2).1.app, (h k (by omega) hk2).2⟩
theorem own_int_sl {w0 : World} {a : Option Addr} {n c : Nat} {l : List Int} {B : List (Nat × Obj)} (h : Rt.Own (.slice a n c) 3 1 n (iv l) B) (hl : l.length = n) : Sl w0 B a 1 (l.map fun x => [Value.int .i64 x]) ∧ n ≤ c := by
  obtain ⟨a', c', h1, h2, h3, _⟩ := own_rows0 (w0 := w0) (rows := l.map fun x => [Value.int .i64 x]) h (by intro row hr; obtain ⟨x, _, rfl⟩ := List.mem_map.1 hr; rfl) (by rw [List.length_map, hl]) (ints_rows l).symm
  injection h1 with e1 _ e3
  subst e1 e3
  exact ⟨h2, h3⟩
theorem drop_set_cell {cs : List Value} {k : Nat} {v : Value} (h : k < cs.length) : ((cs.set k v).drop k).take [v].length = [v] := by
  rw [List.drop_eq_getElem_cons (by simpa using h)]
  simp
theorem take_get {cs : List Value} {l : List Int} {m k : Nat} (h : cs.take (m * 1) = iv l) (hl : l.length = m) (hk : k < m) : (cs.drop (0 + k * 1)).take 1 = [.int .i64 (l.getD k 0)] := by
  have hlen : k < cs.length := by
    have := congrArg List.length h
    rw [List.length_take, List.length_map] at this; omega
  rw [Nat.mul_one, Nat.zero_add, List.drop_eq_getElem_cons hlen]
  have h2 : (cs.take (m * 1))[k]? = (iv l)[k]? := by rw [h]
  rw [List.getElem?_take, if_pos (by omega), List.getElem?_eq_getElem hlen] at h2
  simp only [iv, List.getElem?_map, List.getElem?_eq_getElem (show k < l.length by omega), Option.map_some, Option.some.injEq] at h2
  simp [h2, List.getD, show k < l.length by omega]
theorem take_put {cs : List Value} {l : List Int} {m k : Nat} {z : Int} (h : cs.take (m * 1) = iv l) : (setMany cs (0 + k * 1) [.int .i64 z]).take (m * 1) = iv (l.set k z) := by
  simp only [setMany, Nat.zero_add, Nat.mul_one]
  rw [List.take_set]
  rw [Nat.mul_one] at h
  rw [h]; simp [iv, List.map_set]
theorem but_bin {w0 : World} {F B1 DB : List (Nat × Obj)} {b : Board} {p : AtB} {s i cC : Nat} {aC : Option Addr} {qc : Nat → AtC} (hm : BIn w0 F b p) (hi : b.ctrs.length ≤ i) (hown : Rt.Own (.slice aC b.ctrs.length cC) 76 6 b.ctrs.length (krows (BL b s i) qc).flatten B1) (hq : QC p qc i) (hd : DS w0 DB b s qc i) : BIn w0 (B1 ++ (DB ++ F)) (butB b s) ⟨p.ah, p.ch, aC, cC, qc⟩ := by
  rw [BL_all hi] at hown
  obtain ⟨a', c', h1, h2, h3, _⟩ := own_rows0 (w0 := w0) (rows := krows (butB b s).ctrs qc) hown (krows_row _ _) (by rw [krows_len, butB_len]) rfl
  injection h1 with e1 _ e3
  subst e1 e3
  refine ⟨hm.h.app.app, h2.top, fun k hk => ?_, fun k hk => ?_, hm.lh, by rw [butB_len]; exact hm.lc, hm.ch, by rw [butB_len]; exact h3, fun k hk => ?_, fun k hk => ?_, fun x hx => ?_⟩
  · have hk2 : k < b.ctrs.length := by rw [butB_len] at hk; exact hk
    rw [butB_get hk2, show (qc k).az = (p.pc k).az from (hq.2 k).1]; exact (hm.z k hk2).app.app
  · have hk2 : k < b.ctrs.length := by rw [butB_len] at hk; exact hk
    rw [butB_get hk2]; exact (hd k (by omega) hk2).1.top.app
  · have hk2 : k < b.ctrs.length := by rw [butB_len] at hk; exact hk
    rw [butB_get hk2, show (qc k).cz = (p.pc k).cz from (hq.2 k).2]; exact hm.lz k hk2
  · have hk2 : k < b.ctrs.length := by rw [butB_len] at hk; exact hk
    rw [butB_get hk2, butC_slen]; exact ⟨(hm.ls k hk2).1, (hd k (by omega) hk2).2⟩
  · obtain ⟨k, hk, rfl⟩ := List.getElem_of_mem hx
    have hk2 : k < b.ctrs.length := by rw [butB_len] at hk; exact hk
    rw [butB_get hk2]; exact hm.nm b.ctrs[k] (List.getElem_mem hk2)
theorem c85 {w0 w : World} {F : List (Nat × Obj)} (a : Option Addr) (c : Nat) (l : List Ctr) (q : Nat → AtC) (hl : l.length ≤ 1000000) (ha : Sl w0 F a 6 (krows l q)) (hs : St w0 w F) :
  Con Try.prog 85 [.slice a l.length c] w fun v w' => ∃ a2 c2 B', v = .slice a2 l.length c2 ∧ Rt.Own (.slice a2 l.length c2) 76 6 l.length (krows l q).flatten B' ∧ St w0 w' (B' ++ F) := by
  refine con_of_wc (n := 8) Try.func85 rfl rfl (Nat.le_of_ble_eq_true rfl) ?_
  refine w_seq (fun K2 hK1 => ?_)
  refine w_region ?_
  refine w_p (y_assign (v := _) rfl rfl) rfl ?_
  refine w_nil ?_
  refine q_then (hK1 _ _ ?_)
  refine w_seq (fun K4 hK3 => ?_)
  refine w_seq (fun K6 hK5 => ?_)
  refine w_region ?_
  refine w_p (y_move (v := .slice _ _ _) rfl rfl) rfl ?_
  refine w_p (y_sliceNil Try.underlying23 rfl rfl rfl rfl) rfl ?_
  refine w_nil ?_
  refine q_then (hK5 _ _ ?_)
  refine w_cond rfl rfl (fun h7 => ?_) (fun h7 => ?_)
  ·
   try simp only [zA, zB, zC, zD, zE, zF] at h7
   refine w_seq (fun K9 hK8 => ?_)
   refine w_region ?_
   refine w_p (y_assign (v := _) rfl rfl) rfl ?_
   refine w_nil ?_
   refine q_then (hK8 _ _ ?_)
   refine w_ret ?_
   refine q_then_ret ?_
   refine q_ret (l := [.tmp 2]) (vs := [_]) rfl ⟨⟨rfl, show _ = (.slice _ _ _ : Value) from rfl⟩, trivial⟩ ?_
   have hr := sl_none (L := F) (w0 := w0) (by have : a = none := (by simpa using ‹a.isNone = true›); subst this; exact ha)
   have hl0 : l = [] := by simpa [krows] using hr
   subst hl0
   exact ⟨none, 0, [], rfl, own_nil 76 6, hs⟩
  ·
   try simp only [zA, zB, zC, zD, zE, zF] at h7
   refine w_skip ?_
   refine q_then (hK3 _ _ ?_)
   refine w_seq (fun K11 hK10 => ?_)
   refine w_region ?_
   refine w_bslice (ps := []) (pv := []) (cs := []) want_none rfl rfl (fun w => Try_Q_fb3  w) hs (fun b12 w13 hs14 => ?_)
   refine w_p (y_move (v := .slice _ _ _) rfl rfl) rfl ?_
   refine w_append (X := ([])) (B := [_]) (rows := krows l q) (sz := 6) (bytes := 88) want_none Try.underlying23 Try_info76 rfl rfl rfl rfl rfl rfl rfl rfl rfl hs14 own_made ha.cons (by simp [krows]) (fun h => by subst h; simp at h7) (krows_one l q) (by simp only [maxLen]; omega) (by omega) (fun v15 w16 B17 ho18 hs19 => ?_)
   replace hs19 := (show St _ _ (B17 ++ (F)) from hs19)
   refine w_p (y_assign (v := v15) rfl rfl) rfl ?_
   refine w_nil ?_
   refine q_then (hK10 _ _ ?_)
   refine w_ret ?_
   refine q_ret (l := [.tmp 2]) (vs := [_]) rfl ⟨⟨rfl, show _ = (v15 : Value) from rfl⟩, trivial⟩ ?_
   rw [Nat.zero_add, List.nil_append] at ho18
   have h9 := ho18
   obtain ⟨a2, c2, rfl⟩ := h9.slice
   exact ⟨a2, c2, _, rfl, h9, hs19⟩

theorem c86 {w0 w : World} {F : List (Nat × Obj)} (a : Option Addr) (c : Nat) (l : List Int) (hl : l.length ≤ 1000000) (ha : Sl w0 F a 1 (l.map fun x => [Value.int .i64 x])) (hs : St w0 w F) :
  Con Try.prog 86 [.slice a l.length c] w fun v w' => ∃ a2 c2 B', v = .slice a2 l.length c2 ∧ Rt.Own (.slice a2 l.length c2) 3 1 l.length (iv l) B' ∧ St w0 w' (B' ++ F) := by
  refine con_of_wc (n := 8) Try.func86 rfl rfl (Nat.le_of_ble_eq_true rfl) ?_
  refine w_seq (fun K2 hK1 => ?_)
  refine w_region ?_
  refine w_p (y_assign (v := _) rfl rfl) rfl ?_
  refine w_nil ?_
  refine q_then (hK1 _ _ ?_)
  refine w_seq (fun K4 hK3 => ?_)
  refine w_seq (fun K6 hK5 => ?_)
  refine w_region ?_
  refine w_p (y_move (v := .slice _ _ _) rfl rfl) rfl ?_
  refine w_p (y_sliceNil Try.underlying39 rfl rfl rfl rfl) rfl ?_
  refine w_nil ?_
  refine q_then (hK5 _ _ ?_)
  refine w_cond rfl rfl (fun h7 => ?_) (fun h7 => ?_)
  ·
   try simp only [zA, zB, zC, zD, zE, zF] at h7
   refine w_seq (fun K9 hK8 => ?_)
   refine w_region ?_
   refine w_p (y_assign (v := _) rfl rfl) rfl ?_
   refine w_nil ?_
   refine q_then (hK8 _ _ ?_)
   refine w_ret ?_
   refine q_then_ret ?_
   refine q_ret (l := [.tmp 2]) (vs := [_]) rfl ⟨⟨rfl, show _ = (.slice _ _ _ : Value) from rfl⟩, trivial⟩ ?_
   have hr := sl_none (L := F) (w0 := w0) (by have : a = none := (by simpa using ‹a.isNone = true›); subst this; exact ha)
   have hl0 : l = [] := by simpa [krows] using hr
   subst hl0
   exact ⟨none, 0, [], rfl, own_nil 3 1, hs⟩
  ·
   try simp only [zA, zB, zC, zD, zE, zF] at h7
   refine w_skip ?_
   refine q_then (hK3 _ _ ?_)
   refine w_seq (fun K11 hK10 => ?_)
   refine w_region ?_
   refine w_bslice (ps := []) (pv := []) (cs := []) want_none rfl rfl (fun w => Try_Q_fb5  w) hs (fun b12 w13 hs14 => ?_)
   refine w_p (y_move (v := .slice _ _ _) rfl rfl) rfl ?_
   refine w_append (X := ([])) (B := [_]) (rows := (l.map fun x => [Value.int .i64 x])) (sz := 1) (bytes := 8) want_none Try.underlying39 Try_info3 rfl rfl rfl rfl rfl rfl rfl rfl rfl hs14 own_made ha.cons (by simp) (fun h => by subst h; simp at h7) (ints1_one l) (by simp only [maxLen]; omega) (by omega) (fun v15 w16 B17 ho18 hs19 => ?_)
   replace hs19 := (show St _ _ (B17 ++ (F)) from hs19)
   refine w_p (y_assign (v := v15) rfl rfl) rfl ?_
   refine w_nil ?_
   refine q_then (hK10 _ _ ?_)
   refine w_ret ?_
   refine q_ret (l := [.tmp 2]) (vs := [_]) rfl ⟨⟨rfl, show _ = (v15 : Value) from rfl⟩, trivial⟩ ?_
   rw [Nat.zero_add, List.nil_append] at ho18
   have h9 := ho18
   obtain ⟨a2, c2, rfl⟩ := h9.slice
   exact ⟨a2, c2, _, rfl, (by rw [ints_rows] at h9; exact h9), hs19⟩

theorem c83 {w0 w : World} {F : List (Nat × Obj)} (b : Board) (p : AtB) (hm : BIn w0 F b p) (hck : (check b).2.2 = 0) (s : Nat) (hs1k : s < 1000) (bq bh : Nat) (h1 : Ats w0 F bq 0 (b.cells p)) (h2 : Ats w0 F bh 0 [.int .i64 (b.hours.length : Int)]) (hs : St w0 w F) :
  Con Try.prog 83 [.int .i64 (s : Int), .pointer (some ⟨bq, 0, none⟩), .pointer (some ⟨bh, 0, none⟩)] w fun v w' => v = .bool (wrongS b s) ∧ St w0 w' F := by
  refine con_of_wc (n := 73) Try.func83 rfl rfl (Nat.le_of_ble_eq_true rfl) ?_
  have hok := check_ok hck
  have hlh := hok.lh
  have hlc := hok.lc
  refine w_seq (fun K2 hK1 => ?_)
  refine w_region ?_
  refine w_p (y_assign (v := _) rfl rfl) rfl ?_
  refine w_nil ?_
  refine q_then (hK1 _ _ ?_)
  refine w_seq (fun K4 hK3 => ?_)
  refine w_region ?_
  refine w_p (y_loadN (vs := [_, _, _]) Try.isAgg25 Try.sizeOf25 hs rfl rfl h1) rfl ?_
  refine w_call want_none Try.call84 rfl rfl rfl rfl (c84 b p hs) ?_
  rintro _ w6 ⟨bb, mm, rfl, hs7⟩
  replace hs7 := (show St _ _ (_ :: _ :: F) from hs7)
  refine w_p (y_assign (v := .pointer _) rfl rfl) rfl ?_
  refine w_nil ?_
  refine q_then (hK3 _ _ ?_)
  refine w_seq (fun K9 hK8 => ?_)
  refine w_region ?_
  refine w_p (y_move (v := .pointer _) rfl rfl) rfl ?_
  refine w_p (y_fieldAddr (o := 2) (i := 2) Try.underlying25 rfl Try.sizeOf23 rfl rfl rfl) rfl ?_
  refine w_p (y_load1 Try.isAgg23 hs7.tail.tail rfl rfl (show Ats _ _ _ _ [_] from Ats.part h1 2 1)) rfl ?_
  refine w_call want_none Try.call85 rfl rfl rfl rfl (c85 _ _ b.ctrs p.pc (by omega) hm.c.cons.cons hs7) ?_
  rintro _ w11 ⟨aC, cC, B1, rfl, hown, hs12⟩
  have hs13 := (show St _ _ (B1 ++ ([_, _] ++ F)) from hs12).perm (perm_mid B1 [_, _] F)
  replace hs13 := (show St _ _ (_ :: _ :: B1 ++ (F)) from hs13)
  refine w_p (y_nilCheck rfl rfl) rfl ?_
  refine w_p (y_fieldAddr (o := 0) (i := 0) Try.underlying129 rfl Try.sizeOf25 rfl rfl rfl) rfl ?_
  refine w_p (y_fieldAddr (o := 2) (i := 2) Try.underlying25 rfl Try.sizeOf23 rfl rfl rfl) rfl ?_
  refine w_store (i := 0) (v := .slice _ _ _) (vs := [_]) want_none Try.sizeOf23 rfl rfl rfl rfl rfl (by simp [Value.oneCell']) hs13 rfl (Nat.le_of_ble_eq_true rfl) (fun w14 hs15 => ?_)
  refine w_nil ?_
  refine q_then (hK8 _ _ ?_)
  refine w_seq (fun K17 hK16 => ?_)
  refine w_seq (fun K19 hK18 => ?_)
  refine w_region ?_
  refine w_p (y_move (v := .pointer _) rfl rfl) rfl ?_
  refine w_p (y_nilCheck rfl rfl) rfl ?_
  refine w_p (y_fieldAddr (o := 0) (i := 0) Try.underlying129 rfl Try.sizeOf25 rfl rfl rfl) rfl ?_
  refine w_p (y_fieldAddr (o := 2) (i := 2) Try.underlying25 rfl Try.sizeOf23 rfl rfl rfl) rfl ?_
  refine w_p (y_load1 Try.isAgg23 hs15 rfl rfl (ats_own (i := 0) (vs := [_]) rfl rfl)) rfl ?_
  refine w_p (y_lenS Try.underlying23 rfl rfl) rfl ?_
  refine w_p (y_move (v := _) rfl rfl) rfl ?_
  refine w_nil ?_
  refine q_then (hK18 _ _ ?_)
  refine w_block ?_
  refine w_loop [4, 6, 7, 8, 24, 25, 26, 27, 28, 29, 30, 31, 32, 33, 34, 35, 36, 37, 38, 39, 40, 41, 42, 43, 44, 45, 46, 47, 48, 49, 50, 51, 52, 53, 54, 55, 56, 57, 58, 59, 60, 61, 62, 63, 64, 65, 66, 67, 68, 69, 70] [24] (fun kk vs w => ∃ (i : Nat) (B1 DB : List (Nat × Obj)) (qc : Nat → AtC), vs = [.int .i64 i] ∧ i ≤ b.ctrs.length ∧ kk = b.ctrs.length - i ∧ Rt.Own (.slice aC b.ctrs.length cC) 76 6 b.ctrs.length (krows (BL b s i) qc).flatten B1 ∧ QC p qc i ∧ DS w0 DB b s qc i ∧ WOK b s (i * b.hours.length + 0) ∧ St w0 w ((bb, blk 129 [.int .i64 b.holds, .slice p.ah b.hours.length p.ch, .slice aC b.ctrs.length cC, .map (some mm)]) :: (mm, .map #[] 0) :: (B1 ++ (DB ++ F)))) (b.ctrs.length) ?_ ?_
  ·
   exact ⟨0, B1, [], p.pc, rfl, by omega, by omega, by rw [BL_zero]; exact hown, qc_zero p, ds_zero w0 b s _, (fun j hj => by omega), hs15⟩
  ·
   intro k vs μ w22 hI K21 hN20
   clear hs hown
   obtain ⟨i, B1, DB, qc, rfl, hia, rfl, hown, hqc, hds, hwk, hs⟩ := hI
   refine w_seq (fun K24 hK23 => ?_)
   refine w_region ?_
   refine w_p (y_lss rfl rfl rfl rfl) rfl ?_
   refine w_nil ?_
   refine q_then (hK23 _ _ ?_)
   refine w_seq (fun K26 hK25 => ?_)
   refine w_cond rfl rfl (fun h27 => ?_) (fun h27 => ?_)
   ·
    try simp only [zA, zB, zC, zD, zE, zF] at h27
    refine w_skip ?_
    refine q_then (hK25 _ _ ?_)
    refine w_seq (fun K29 hK28 => ?_)
    refine w_block ?_
    refine w_seq (fun K31 hK30 => ?_)
    refine w_region ?_
    refine w_p (y_move (v := .int _ _) rfl rfl) rfl ?_
    refine w_p (y_assign (v := .int _ _) rfl rfl) rfl ?_
    refine w_nil ?_
    refine q_then (hK30 _ _ ?_)
    refine w_seq (fun K33 hK32 => ?_)
    have hi2 : i < b.ctrs.length := by omega
    have hci := hok.ctr _ (List.getElem_mem hi2)
    have hlz := hci.ls
    obtain ⟨bc, cs, rfl, rfl, hcap, hcapm, hcl, htk⟩ := own_some2 hown (by omega)
    replace hs := (show St _ _ (_ :: _ :: _ :: DB ++ (F)) from hs)
    obtain ⟨bx, ox, hbx2, hrow⟩ := sl_krows (sl_own (w0 := w0) (L := (bc, blk 76 cs) :: (DB ++ F)) (i := 0) rfl (krows_row (BL b s i) qc) (by rw [krows_len, BL_len (by omega)]; exact htk)) (i := i) (by rw [BL_len (by omega)]; exact hi2)
    cases hbx2
    rw [BL_get hi2, hqc.1 i (Nat.le_refl _)] at hrow
    refine w_region ?_
    refine w_p (y_move (v := .pointer _) rfl rfl) rfl ?_
    refine w_p (y_nilCheck rfl rfl) rfl ?_
    refine w_p (y_fieldAddr (o := 0) (i := 0) Try.underlying129 rfl Try.sizeOf25 rfl rfl rfl) rfl ?_
    refine w_p (y_fieldAddr (o := 2) (i := 2) Try.underlying25 rfl Try.sizeOf23 rfl rfl rfl) rfl ?_
    refine w_p (y_load1 Try.isAgg23 hs rfl rfl (ats_own (i := 0) (vs := [_]) rfl rfl)) rfl ?_
    refine w_p (y_move (v := .int _ _) rfl rfl) rfl ?_
    refine w_p (y_indexS Try.underlying23 Try.sizeOf76 rfl rfl rfl rfl (i := i) rfl hi2) rfl ?_
    refine w_p (y_assign (v := .pointer _) rfl rfl) rfl ?_
    refine w_nil ?_
    refine q_then (hK32 _ _ ?_)
    refine w_seq (fun K35 hK34 => ?_)
    refine w_region ?_
    refine w_p (y_move (v := .pointer _) rfl rfl) rfl ?_
    refine w_p (y_move (v := .pointer _) rfl rfl) rfl ?_
    refine w_p (y_nilCheck rfl rfl) rfl ?_
    refine w_p (y_fieldAddr (o := 5) (i := 5) Try.underlying76 rfl Try.sizeOf39 rfl rfl rfl) rfl ?_
    refine w_p (y_load1 Try.isAgg39 hs.tail.tail rfl rfl (show Ats _ _ _ _ [_] from Ats.part hrow 5 1)) rfl ?_
    refine w_call want_none Try.call86 rfl rfl rfl rfl (c86 _ _ (b.ctrs[i]'hi2).shown (by omega) (hm.s i hi2).app.cons.cons.cons hs) ?_
    rintro _ w37 ⟨a2, c2, B2, rfl, hown2, hs38⟩
    have hs39 := (show St _ _ (B2 ++ ([_, _, _] ++ (DB ++ F))) from hs38).perm (perm_mid B2 [_, _, _] (DB ++ F))
    replace hs39 := (show St _ _ (_ :: _ :: _ :: B2 ++ (DB ++ (F))) from hs39)
    refine w_p (y_nilCheck rfl rfl) rfl ?_
    refine w_p (y_fieldAddr (o := 5) (i := 5) Try.underlying76 rfl Try.sizeOf39 rfl rfl rfl) rfl ?_
    refine w_store (i := 2) (v := .slice _ _ _) (vs := [_]) want_none Try.sizeOf39 rfl rfl rfl rfl rfl (by simp [Value.oneCell']) hs39 rfl (by show 0 + i * 6 + 5 + 1 ≤ cs.length; omega) (fun w40 hs41 => ?_)
    replace hs41 := (show St _ _ (_ :: _ :: (bc, blk 76 (setMany cs (0 + i * 6 + 5) [(Value.slice a2 (b.ctrs[i]'hi2).shown.length c2)])) :: (B2 ++ (DB ++ F))) from hs41)
    have he0 : setMany cs (0 + i * 6 + 5) [(Value.slice a2 (b.ctrs[i]'hi2).shown.length c2)] = cs.set (i * 6 + 5) (Value.slice a2 (b.ctrs[i]'hi2).shown.length c2) := by simp only [setMany, Nat.zero_add]
    rw [he0] at hs41
    obtain ⟨cs1, hcs1⟩ : ∃ cs1, cs1 = cs.set (i * 6 + 5) (Value.slice a2 (b.ctrs[i]'hi2).shown.length c2) := ⟨_, rfl⟩
    rw [← hcs1] at hs41
    have hcell : (cs1.drop (0 + i * 6 + 5)).take [(Value.slice a2 (b.ctrs[i]'hi2).shown.length c2)].length = [(Value.slice a2 (b.ctrs[i]'hi2).shown.length c2)] := by rw [hcs1, Nat.zero_add]; exact drop_set_cell (by omega)
    refine w_nil ?_
    refine q_then (hK34 _ _ ?_)
    refine w_seq (fun K43 hK42 => ?_)
    refine w_region ?_
    refine w_p (y_load1 Try.isAgg3 hs41.tail.tail.tail.drop.drop rfl rfl h2) rfl ?_
    refine w_p (y_move (v := _) rfl rfl) rfl ?_
    refine w_nil ?_
    refine q_then (hK42 _ _ ?_)
    refine w_block ?_
    refine w_loop [4, 8, 43, 44, 45, 46, 47, 48, 49, 50, 51, 52, 53, 54, 55, 56, 57, 58, 59, 60, 61, 62, 63, 64, 65, 66, 67, 68, 69] [43] (fun kk vs w => ∃ (k : Nat) (B2 : List (Nat × Obj)), vs = [.int .i64 k] ∧ k ≤ b.hours.length ∧ kk = b.hours.length - k ∧ Rt.Own (Value.slice a2 (b.ctrs[i]'hi2).shown.length c2) 3 1 (b.ctrs[i]'hi2).shown.length (iv (shPart b.hours.length s i k (b.ctrs[i]'hi2).shown)) B2 ∧ WOK b s (i * b.hours.length + k) ∧ St w0 w ((bb, blk 129 [.int .i64 b.holds, .slice p.ah b.hours.length p.ch, .slice (some ⟨bc, 0, none⟩) b.ctrs.length cC, .map (some mm)]) :: (mm, .map #[] 0) :: (bc, blk 76 cs1) :: (B2 ++ (DB ++ F)))) (b.hours.length) ?_ ?_
    ·
     exact ⟨0, B2, rfl, by omega, by omega, by rw [shPart_zero]; exact hown2, hwk, hs41⟩
    ·
     intro k vs μ w46 hI K45 hN44
     clear hs hown2
     obtain ⟨k, B2, rfl, hka, rfl, hown2, hwk2, hs⟩ := hI
     refine w_seq (fun K48 hK47 => ?_)
     refine w_region ?_
     refine w_p (y_lss rfl rfl rfl rfl) rfl ?_
     refine w_nil ?_
     refine q_then (hK47 _ _ ?_)
     refine w_seq (fun K50 hK49 => ?_)
     refine w_cond rfl rfl (fun h51 => ?_) (fun h51 => ?_)
     ·
      try simp only [zA, zB, zC, zD, zE, zF] at h51
      refine w_skip ?_
      refine q_then (hK49 _ _ ?_)
      refine w_seq (fun K53 hK52 => ?_)
      refine w_block ?_
      refine w_seq (fun K55 hK54 => ?_)
      refine w_region ?_
      refine w_p (y_move (v := .int _ _) rfl rfl) rfl ?_
      refine w_p (y_assign (v := .int _ _) rfl rfl) rfl ?_
      refine w_nil ?_
      refine q_then (hK54 _ _ ?_)
      refine w_seq (fun K57 hK56 => ?_)
      refine w_seq (fun K59 hK58 => ?_)
      have hk2 : k < b.hours.length := by omega
      have hm8 := mul_in8 hlh hlc hi2 hk2
      have hmi : ((i : Int) * (b.hours.length : Int)) = ((i * b.hours.length : Nat) : Int) := by push_cast; rfl
      refine w_region ?_
      refine w_p (y_move (v := .int _ _) rfl rfl) rfl ?_
      refine w_p (y_move (v := .int _ _) rfl rfl) rfl ?_
      refine w_p (y_load1 Try.isAgg3 hs.tail.tail.tail.drop.drop rfl rfl h2) rfl ?_
      refine w_p (yd_cast (z' := ((i * b.hours.length : Nat) : Int)) hmi (y_mul rfl rfl rfl rfl (by omega) (by omega))) rfl ?_
      refine w_p (y_move (v := .int _ _) rfl rfl) rfl ?_
      refine w_p (yd_cast (z' := ((i * b.hours.length + k : Nat) : Int)) (by omega) (y_add rfl rfl rfl rfl (by omega) (by omega))) rfl ?_
      refine w_p (y_shr (x := s) (y := i * b.hours.length + k) rfl rfl rfl rfl (by first | rfl | omega) (by first | rfl | omega) (by first | omega | exact shr_lt (by omega))) rfl ?_
      refine w_p (show Yd _ _ _ _ (.int .i64 ((bit s (i * b.hours.length + k) : Nat) : Int)) from (y_and (x := _) (y := 1) rfl rfl rfl rfl rfl rfl (by first | omega | exact shr_lt (by omega)) (by first | omega | exact shr_lt (by omega)))) rfl ?_
      refine w_p (y_eql rfl rfl rfl rfl) rfl ?_
      refine w_nil ?_
      refine q_then (hK58 _ _ ?_)
      refine w_cond rfl rfl (fun h60 => ?_) (fun h60 => ?_)
      ·
       try simp only [zA, zB, zC, zD, zE, zF] at h60
       refine w_exit ?_
       refine q_then_exit ?_
       refine q_blk_this ?_
       refine q_then (hK52 _ _ ?_)
       refine w_region ?_
       refine w_p (y_add rfl rfl rfl rfl (by omega) (by omega)) rfl ?_
       refine w_p (y_move (v := .int _ _) rfl rfl) rfl ?_
       refine w_nil ?_
       refine q_then (hN44 _ _ (Nx.intro (b.hours.length - (k + 1)) (by omega) (by repeat (first | exact agree_mix | refine agree_upd rfl ?_ | refine agree_updL rfl ?_ _ | refine agree_mixin rfl ?_)) ?_))
       exact ⟨k + 1, B2, rfl, by omega, rfl, by rw [← shPart_no (by omega)]; exact hown2, wok_no hwk2 (by omega), hs⟩
      ·
       try simp only [zA, zB, zC, zD, zE, zF] at h60
       refine w_skip ?_
       refine q_then (hK56 _ _ ?_)
       refine w_seq (fun K62 hK61 => ?_)
       refine w_seq (fun K64 hK63 => ?_)
       have hk2 : k < b.hours.length := by omega
       obtain ⟨d, cs2, rfl, rfl, hcap2, hcapm2, hcl2, htk2⟩ := own_some2 hown2 (by omega)
       replace hs := (show St _ _ (_ :: _ :: _ :: _ :: DB ++ (F)) from hs)
       refine w_region ?_
       refine w_p (y_move (v := .pointer _) rfl rfl) rfl ?_
       refine w_p (y_nilCheck rfl rfl) rfl ?_
       refine w_p (y_fieldAddr (o := 5) (i := 5) Try.underlying76 rfl Try.sizeOf39 rfl rfl rfl) rfl ?_
       refine w_p (y_load1 Try.isAgg39 hs rfl rfl (ats_own (i := 2) (vs := [_]) rfl hcell)) rfl ?_
       refine w_p (y_move (v := .int _ _) rfl rfl) rfl ?_
       refine w_p (y_indexS Try.underlying39 Try.sizeOf3 rfl rfl rfl rfl (i := k) rfl (by omega)) rfl ?_
       refine w_p (y_load1 Try.isAgg3 hs rfl rfl (ats_own (i := 3) (vs := [_]) rfl (take_get htk2 (by rw [shPart_len]) (by omega)))) rfl ?_
       refine w_p (y_eql rfl rfl rfl rfl) rfl ?_
       refine w_nil ?_
       refine q_then (hK63 _ _ ?_)
       refine w_cond rfl rfl (fun h65 => ?_) (fun h65 => ?_)
       ·
        try simp only [zA, zB, zC, zD, zE, zF] at h65
        refine w_seq (fun K67 hK66 => ?_)
        refine w_region ?_
        refine w_p (y_assign (v := _) rfl rfl) rfl ?_
        refine w_nil ?_
        refine q_then (hK66 _ _ ?_)
        refine w_ret ?_
        refine q_then_ret ?_
        refine q_blk_ret ?_
        refine q_then_ret ?_
        refine q_then_ret ?_
        refine q_blk_ret ?_
        refine q_blk_ret ?_
        refine q_then_ret ?_
        refine q_then_ret ?_
        refine q_blk_ret ?_
        refine q_then_ret ?_
        refine q_ret (l := [.tmp 4]) (vs := [_]) rfl ⟨⟨rfl, show _ = (.bool _ : Value) from rfl⟩, trivial⟩ ?_
        exact ⟨congrArg Value.bool (wrongS_no hi2 hk2 (by have := bit_lt2 s (i * b.hours.length + k); omega) (by rw [← shPart_get (n := b.hours.length) (s := s) (i := i) (by omega)]; assumption)).symm, hs.tail.tail.tail.tail.drop⟩
       ·
        try simp only [zA, zB, zC, zD, zE, zF] at h65
        refine w_skip ?_
        refine q_then (hK61 _ _ ?_)
        refine w_region ?_
        refine w_p (y_move (v := .pointer _) rfl rfl) rfl ?_
        refine w_p (y_nilCheck rfl rfl) rfl ?_
        refine w_p (y_fieldAddr (o := 5) (i := 5) Try.underlying76 rfl Try.sizeOf39 rfl rfl rfl) rfl ?_
        refine w_p (y_load1 Try.isAgg39 hs rfl rfl (ats_own (i := 2) (vs := [_]) rfl hcell)) rfl ?_
        refine w_p (y_move (v := .int _ _) rfl rfl) rfl ?_
        refine w_p (y_indexS Try.underlying39 Try.sizeOf3 rfl rfl rfl rfl (i := k) rfl (by omega)) rfl ?_
        refine w_store (i := 3) (v := .int _ _) (vs := [_]) want_none Try.sizeOf3 rfl rfl rfl rfl rfl (by simp [Value.oneCell']) hs rfl (by show 0 + k * 1 + 1 ≤ cs2.length; omega) (fun w68 hs69 => ?_)
        refine w_nil ?_
        refine q_blk_normal ?_
        refine q_then (hK52 _ _ ?_)
        refine w_region ?_
        refine w_p (y_add rfl rfl rfl rfl (by omega) (by omega)) rfl ?_
        refine w_p (y_move (v := .int _ _) rfl rfl) rfl ?_
        refine w_nil ?_
        refine q_then (hN44 _ _ (Nx.intro (b.hours.length - (k + 1)) (by omega) (by repeat (first | exact agree_mix | refine agree_upd rfl ?_ | refine agree_updL rfl ?_ _ | refine agree_mixin rfl ?_)) ?_))
        exact ⟨k + 1, [(d, blk 3 (setMany cs2 (0 + k * 1) [.int .i64 (-1)]))], rfl, by omega, rfl, own_mk (by rw [List.length_map, shPart_len]; omega) hcap2 hcapm2 (by rw [setMany_len]; exact hcl2) (by rw [← shPart_yes (by omega) (by have := bit_lt2 s (i * b.hours.length + k); omega)]; exact take_put htk2), wok_yes hi2 hk2 hwk2 (by rw [← shPart_get (n := b.hours.length) (s := s) (i := i) (by omega)]; assumption), hs69⟩
     ·
      try simp only [zA, zB, zC, zD, zE, zF] at h51
      refine w_exit ?_
      refine q_then_exit ?_
      refine q_then_exit ?_
      refine q_blk_this ?_
      refine q_blk_normal ?_
      refine q_then (hK28 _ _ ?_)
      refine w_region ?_
      refine w_p (y_add rfl rfl rfl rfl (by omega) (by omega)) rfl ?_
      refine w_p (y_move (v := .int _ _) rfl rfl) rfl ?_
      refine w_nil ?_
      refine q_then (hN20 _ _ (Nx.intro (b.ctrs.length - (i + 1)) (by omega) (by repeat (first | exact agree_mix | refine agree_upd rfl ?_ | refine agree_updL rfl ?_ _ | refine agree_mixin rfl ?_)) ?_))
      have hsl2 := own_int_sl (w0 := w0) hown2 (shPart_len _ _ _ _ _)
      rw [shPart_all (by omega)] at hsl2
      exact ⟨i + 1, [(bc, blk 76 cs1)], B2 ++ DB, setPc qc i a2 c2, rfl, by omega, rfl, own_mk (by rw [flat_len_sz (krows_row _ _), krows_len, BL_len (by omega)]) hcap hcapm (by rw [hcs1, List.length_set]; exact hcl) (by
        rw [hcs1, take_cell (by omega) (krows_row (BL b s i) qc) (by rw [krows_len, BL_len (by omega)]; exact hi2) htk, BL_set hi2, ← krows_set (by rw [BL_len (by omega)]; exact hi2) (by simp only [BL_get hi2]; exact but_cells)]
        simp only [krows, List.getElem_mapIdx, BL_get hi2]), hqc.next _ _, hds.next hi2 hsl2.1 hsl2.2, wok_row (by omega) (by omega) hwk2, (by rw [List.append_assoc]; exact hs)⟩
   ·
    try simp only [zA, zB, zC, zD, zE, zF] at h27
    refine w_exit ?_
    refine q_then_exit ?_
    refine q_then_exit ?_
    refine q_blk_this ?_
    refine q_then (hK16 _ _ ?_)
    refine w_seq (fun K71 hK70 => ?_)
    have hs72 := swp2 hs
    replace hs72 := (show St _ _ (_ :: _ :: B1 ++ (DB ++ (F))) from hs72)
    have hkb : BK w0 ((bb, blk 129 [.int .i64 b.holds, .slice p.ah b.hours.length p.ch, .slice aC b.ctrs.length cC, .map (some mm)]) :: (B1 ++ (DB ++ F))) (butB b s) ⟨p.ah, p.ch, aC, cC, qc⟩ bb mm := ⟨(but_bin hm (by omega) hown hqc hds).cons, ats_own (i := 0) rfl (by simp only [butB_len]; rfl), butB_ok hok s⟩
    refine w_region ?_
    refine w_p (y_move (v := .pointer _) rfl rfl) rfl ?_
    refine w_call want_none Try.call87 rfl rfl rfl rfl (c87 (X := []) (M := [(mm, .map #[] 0)]) (butB b s) _ bb mm hkb (memo_new w0 _ mm) hs72) ?_
    rintro _ w74 ⟨rfl, M2, hM2, hs75⟩
    replace hs75 := (show St _ _ (M2 ++ (_ :: B1 ++ (DB ++ (F)))) from hs75)
    refine w_p (y_assign (v := .bool _) rfl rfl) rfl ?_
    refine w_nil ?_
    refine q_then (hK70 _ _ ?_)
    refine w_ret ?_
    refine q_ret (l := [.tmp 4]) (vs := [_]) rfl ⟨⟨rfl, show _ = (.bool _ : Value) from rfl⟩, trivial⟩ ?_
    exact ⟨congrArg Value.bool (wrongS_yes (by omega) hwk).symm, hs75.drop.tail.drop.drop⟩

end Go.Proofs
/- Plain facts: sets of up to eight numbers, and the first of the fewest. No conditions. -/
set_option maxRecDepth 100000
set_option linter.unusedSimpArgs false
set_option linter.unusedVariables false
namespace Go.Rt.Ch
open Go.Rt.Ha
def numL (l : List Int) : Nat := l.foldl (fun s z => s + 2 ^ z.toNat) 0
end Go.Rt.Ch
/- Plain laws of the chain layer: numbers that must be wrong. No program in sight. No conditions. -/
set_option linter.unusedSimpArgs false
set_option linter.unusedVariables false
namespace Go.Rt.Ch
open Go.Rt.Ha
/-! ### The numbers that counters show -/
def subTo (b : Board) : Nat → Nat
  | 0 => 0
  | k + 1 => if shownAt b k = -1 then subTo b k else 2 ^ k + subTo b k
def mN (b : Board) : Nat := b.hours.length * b.ctrs.length
/-- All numbers shown. -/
def nums (b : Board) : List Int := listL (subTo b (mN b)) (mN b)
def numsTo (b : Board) (k : Nat) : List Int := listL (subTo b k) k
/-! ### With no number there is a truth -/
/-! ### The first of the fewest -/
def wP (b : Board) (x : List Int) : Bool := !(truths (butB b (numL x))).isEmpty
end Go.Rt.Ch
/- Walks of this seat, printed by gen.py over the engine: what each function returns, in whatever world. No conditions but those of each contract. -/
set_option linter.unusedVariables false
set_option linter.unusedSimpArgs false
set_option maxRecDepth 20000
namespace Go.Proofs
open Go.Rt Go.Rt.Ch
open Go.Rt.Ha (firstE firstE_step firstE_stop firstE_end failE nameE felt spanL upto span_mem listL fewest fewTo bit before fewStep drop_lt drop_get drop_next drop_done drop_notin set_take set_zero take_less Lot Bunch feltTo fTo fPart felt_zero felt_step fTo_succ fTo_len fPart_succ fPart_len fPart_all filt_yes filt_no upto_len at_ someOf choicesTo cfind_here cfind_next cfind_on choices_fin)
attribute [local irreducible] WL WC Con Yd At Ats Sl Agree DW
end Go.Proofs
/- Walks of this seat, printed by gen.py over the engine: what each function returns, in whatever world. No conditions but those of each contract. -/
set_option linter.unusedVariables false
set_option linter.unusedSimpArgs false
set_option maxRecDepth 20000
namespace Go.Proofs
open Go.Rt Go.Rt.Ch
open Go.Rt.Ha (firstE firstE_step firstE_stop firstE_end failE nameE felt spanL upto span_mem listL fewest fewTo bit before fewStep drop_lt drop_get drop_next drop_done drop_notin set_take set_zero take_less Lot Bunch feltTo fTo fPart felt_zero felt_step fTo_succ fTo_len fPart_succ fPart_len fPart_all filt_yes filt_no upto_len at_ someOf choicesTo cfind_here cfind_next cfind_on choices_fin)
attribute [local irreducible] WL WC Con Yd At Ats Sl Agree DW
def BT (b : Board) (s i : Nat) : List Ctr := (butB b s).ctrs.take i
end Go.Proofs
/- Plain law of the hand layer: a lot that is told by a way denies nothing. No conditions. -/
set_option linter.unusedSimpArgs false
set_option linter.unusedVariables false
namespace Go.Rt.Ha
structure TrueB (l : Lot) (h : List Int) (b : Nat) (s : Int) : Prop where
  hands : (handsP (told l h) b).2 = 0 ∧ (handsP (told l h) b).1.1 ≤ at_ h b ∧ at_ h b ≤ (handsP (told l h) b).1.2
  grade : (gradeP (told l h) b).2 = 0 ∧ hasI (gradeP (told l h) b).1 (ofG l.grades 0 (at_ h b) s) = true
  may : ofG l.grades 0 (at_ h b) s = -1 → hasI (refusedP (told l h)).2.1 b = true
  sure : ofG l.grades 0 (at_ h b) s ≠ -1 → hasI (refusedP (told l h)).1 b = false
/-- How many hands are of a grade. -/
def ofSum (l : Lot) (h : List Int) (sc : Nat → Int) (g : Int) : Nat → Int
  | 0 => 0
  | k + 1 => ofSum l h sc g k + if ofG l.grades 0 (at_ h k) (sc k) = g then at_ h k else 0
def allSum (h : List Int) : Nat → Int
  | 0 => 0
  | k + 1 => allSum h k + at_ h k
def gradeSums (l : Lot) (h : List Int) (sc : Nat → Int) (k : Nat) : Nat → Int
  | 0 => 0
  | n + 1 => gradeSums l h sc k n + ofSum l h sc n k
end Go.Rt.Ha
/- Plain law of the hand layer: one more count. No conditions. -/
set_option linter.unusedSimpArgs false
set_option linter.unusedVariables false
namespace Go.Rt.Ha
def moreL (l : Lot) (c : Count) : Lot := { l with counts := l.counts ++ [c] }
end Go.Rt.Ha
/- Plain law of the hand layer: with one more count nothing is wider. No conditions. -/
set_option linter.unusedSimpArgs false
set_option linter.unusedVariables false
namespace Go.Rt.Ha
/-- What a lot with fewer ways tells. -/
structure LessB (l l' : Lot) (b : Nat) : Prop where
  e1 : (handsP l b).2 = 0
  e2 : (handsP l' b).2 = 0
  e3 : (gradeP l b).2 = 0
  e4 : (gradeP l' b).2 = 0
  hands : (handsP l b).1.1 ≤ (handsP l' b).1.1 ∧ (handsP l' b).1.2 ≤ (handsP l b).1.2
  grade : ∀ z ∈ (gradeP l' b).1, z ∈ (gradeP l b).1
end Go.Rt.Ha
/- Plain law of the hand layer: the fewest counts that must be wrong. No conditions. -/
set_option linter.unusedSimpArgs false
set_option linter.unusedVariables false
namespace Go.Rt.Ha
def butC (but : List Int) : Nat → List Count → List Count
  | _, [] => []
  | i, c :: l => if hasI but i then butC but (i + 1) l else c :: butC but (i + 1) l
def butL (l : Lot) (but : List Int) : Lot := { l with counts := butC but 0 l.counts }
theorem listL_mod (b : Nat) : ∀ (k n : Nat), k ≤ n → listL (b % 2 ^ n) k = listL b k
  | 0, _, _ => rfl
  | k + 1, n, h => by
    have hb : bit (b % 2 ^ n) k = 1 ↔ bit b k = 1 := by
      rw [bit_iff, bit_iff, Nat.testBit_mod_two_pow]
      simp; omega
    rw [listL, listL, listL_mod b k n (by omega)]
    congr 1
    by_cases e : bit b k = 1
    · rw [if_pos e, if_pos (hb.2 e)]
    · rw [if_neg e, if_neg fun h => e (hb.1 h)]
structure FewF (l : Lot) (x : Nat) : Prop where
  e : (wrongP l).2 = 0
  is : ∃ b, b < 2 ^ l.counts.length ∧ (wrongP l).1 = listL b l.counts.length
  f : (refusedP (butL l (wrongP l).1)).2.2 = 0
  g : (refusedP (butL l (listL x l.counts.length))).2.2 = 8 ∨ ((refusedP (butL l (listL x l.counts.length))).2.2 = 0 ∧ before (listL x l.counts.length) (wrongP l).1 = false)
end Go.Rt.Ha
/- Plain help of the hand layer's laws: rising lists, fewer, counts left out. No conditions. -/
set_option linter.unusedSimpArgs false
set_option linter.unusedVariables false
namespace Go.Rt.Ha
def rising (n : Int) : Int → List Int → Bool
  | _, [] => true
  | p, x :: l => !(decide (x ≤ p) || decide (n ≤ x)) && rising n x l
theorem rising_stop {n p : Int} {l : List Int} {i : Nat} (hi : i < l.length) (h : l[i] ≤ p ∨ n ≤ l[i]) : rising n p (l.drop i) = false := by
  rw [List.drop_eq_getElem_cons hi]
  simp only [rising, Bool.and_eq_false_iff, Bool.not_eq_false', Bool.or_eq_true, decide_eq_true_eq]
  exact .inl h
theorem rising_step {n p : Int} {l : List Int} {i : Nat} (hi : i < l.length) (h : p < l[i]) (h2 : l[i] < n) : rising n p (l.drop i) = rising n l[i] (l.drop (i + 1)) := by
  rw [List.drop_eq_getElem_cons hi]
  simp only [rising]
  rw [decide_eq_false (by omega), decide_eq_false (by omega)]; rfl
theorem rising_end {n p : Int} {l : List Int} {i : Nat} (hi : l.length ≤ i) : rising n p (l.drop i) = true := by rw [List.drop_of_length_le hi]; rfl
theorem rising_snoc {n x : Int} : ∀ (l : List Int) (p : Int), (∀ y ∈ l, y < x) → p < x → x < n → rising n p l = true → rising n p (l ++ [x]) = true
  | [], p, _, h1, h2, _ => by
    simp only [List.nil_append, rising, Bool.and_true, Bool.not_eq_true', Bool.or_eq_false_iff, decide_eq_false_iff_not]; omega
  | y :: l, p, h, h1, h2, h3 => by
    simp only [List.cons_append, rising, Bool.and_eq_true] at h3 ⊢
    exact ⟨h3.1, rising_snoc l y (fun z hz => h z (.tail _ hz)) (h y (.head _)) h2 h3.2⟩
theorem listL_lt (b : Nat) : ∀ n, ∀ y ∈ listL b n, 0 ≤ y ∧ y < (n : Int)
  | 0, y, h => by simp [listL] at h
  | n + 1, y, h => by
    rw [listL, List.mem_append] at h
    rcases h with h | h
    · have := listL_lt b n y h; omega
    · split at h
      · simp at h; omega
      · simp at h
theorem list_rising {m : Int} (b : Nat) : ∀ n : Nat, (n : Int) ≤ m → rising m (-1) (listL b n) = true
  | 0, _ => rfl
  | n + 1, h => by
    rw [listL]
    split
    · exact rising_snoc _ _ (fun y hy => (listL_lt b n y hy).2) (by omega) (by omega) (list_rising b n (by omega))
    · rw [List.append_nil]; exact list_rising b n (by omega)
theorem before_fewer (a b : List Int) : (if a.length = b.length then less a b else decide (a.length < b.length)) = before a b := by
  unfold before
  by_cases h : a.length = b.length
  · rw [if_pos h]; simp [h]
  · rw [if_neg h]; simp [h]
end Go.Rt.Ha
/- Plain laws of the chain layer: the fewest numbers that must be wrong. No program in sight. No conditions. -/
set_option maxRecDepth 100000
set_option linter.unusedSimpArgs false
set_option linter.unusedVariables false
namespace Go.Rt.Ch
open Go.Rt.Ha
/-! ### Boards without an error -/
theorem out_ff {lo hi n : Int} (h : lo ≤ n ∧ n ≤ hi) : out lo hi n = false := out_f.2 h
theorem check_iff {b : Board} : (check b).2.2 = 0 ↔ (1 ≤ b.holds ∧ b.holds ≤ 3) ∧ (failE (hourE b.holds) 0 4 b.hours).2 = 0 ∧ (failE (ctrE b.hours.length) 0 2 b.ctrs).2 = 0 := by
  unfold check
  cases h1 : out 1 3 b.holds with
  | true =>
    rw [if_pos rfl]
    constructor
    · intro h; cases h
    · rintro ⟨h, _⟩; rw [out_ff h] at h1; cases h1
  | false =>
    rw [if_neg (by simp)]
    have h1' := out_f.1 h1
    by_cases h2 : (failE (hourE b.holds) 0 4 b.hours).2 = 0
    · rw [if_neg (by simp [h2])]
      by_cases h3 : (failE (ctrE b.hours.length) 0 2 b.ctrs).2 = 0
      · rw [if_neg (by simp [h3])]; exact ⟨fun _ => ⟨h1', h2, h3⟩, fun _ => rfl⟩
      · rw [if_pos h3]; exact ⟨fun h => absurd h h3, fun h => absurd h.2.2 h3⟩
    · rw [if_pos h2]; exact ⟨fun h => absurd h h2, fun h => absurd h.2.1 h2⟩
theorem hourE_ok {holds : Int} {bf : List Hour} {h : Hour} (ho : h.Ok holds) : hourE holds bf h = 0 := by
  have h1 := ho.hold; have h2 := ho.lo; have h3 := ho.le; have h4 := ho.hi; have h5 := ho.w
  unfold hourE
  rw [out_ff (by omega), out_ff (by omega), out_ff (by omega), out_ff (by omega)]; rfl
/-! ### What Wrong tells -/
structure WrongF (b : Board) (s : Nat) : Prop where
  lt : s < 2 ^ mN b
  is : wrongP b = (listL s (mN b), 0)
  yes : wrongS b s = true
  least : ∀ t, t < 2 ^ mN b → wrongS b t = true → listL t (mN b) = listL s (mN b) ∨ before (listL s (mN b)) (listL t (mN b)) = true
/-! ### Any other numbers -/
def otherTo (b : Board) (x i : Nat) : List Int := pickL (nums b) (listL x i)
end Go.Rt.Ch
/- Plain words that laws of all layers share: numbers by turns, bits. No conditions. -/
set_option linter.unusedSimpArgs false
set_option linter.unusedVariables false
namespace Go.Rt
def turnOf (x : List Int) (n : Nat) : Int := if x.length = 0 then 0 else x.getD (n % x.length) 0
theorem shr_half (b i : Nat) : (b >>> i : Nat) / 2 = b >>> (i + 1) := by rw [Nat.shiftRight_succ]
theorem shr_le (b i : Nat) : b >>> i ≤ b := by rw [Nat.shiftRight_eq_div_pow]; exact Nat.div_le_self _ _
end Go.Rt
/- Walks of this seat, printed by gen.py over the engine: what each function returns, in whatever world. No conditions but those of each contract. -/
set_option linter.unusedVariables false
set_option linter.unusedSimpArgs false
set_option maxRecDepth 20000
namespace Go.Proofs
open Go.Rt Go.Rt.Ch
open Go.Rt.Ha (firstE firstE_step firstE_stop firstE_end failE nameE felt spanL upto span_mem listL fewest fewTo bit before fewStep drop_lt drop_get drop_next drop_done drop_notin set_take set_zero take_less Lot Bunch feltTo fTo fPart felt_zero felt_step fTo_succ fTo_len fPart_succ fPart_len fPart_all filt_yes filt_no upto_len at_ someOf choicesTo cfind_here cfind_next cfind_on choices_fin pick_idx pickL_in find_on find_next rising rising_step rising_end rising_stop list_rising before_fewer)
attribute [local irreducible] WL WC Con Yd At Ats Sl Agree DW

theorem c40 {w0 w : World} {F : List (Nat × Obj)} (b n : Nat) (hb : b ≤ 9223372036854775807) (hn : n ≤ 9223372036854775807) (hs : St w0 w F) : Con Try.prog 40 [.int .i64 (b : Int), .int .i64 (n : Int)] w fun v w' => v = .bool (decide ((((b >>> n : Nat) : Int)) % 2 = 1)) ∧ St w0 w' F := by
  refine con_of_wc (n := 16) Try.func40 rfl rfl (Nat.le_of_ble_eq_true rfl) ?_
  refine w_seq (fun K2 hK1 => ?_)
  refine w_region ?_
  refine w_p (y_assign (v := _) rfl rfl) rfl ?_
  refine w_nil ?_
  refine q_then (hK1 _ _ ?_)
  refine w_seq (fun K4 hK3 => ?_)
  refine w_seq (fun K6 hK5 => ?_)
  refine w_region ?_
  refine w_p (y_assign (v := _) rfl rfl) rfl ?_
  refine w_nil ?_
  refine q_then (hK5 _ _ ?_)
  refine w_block ?_
  refine w_loop [0, 5, 6, 7, 8, 9, 10, 11, 12] [0, 5] (fun k vs w => ∃ i : Nat, vs = [.int .i64 ((b >>> i : Nat) : Int), .int .i64 i] ∧ i ≤ n ∧ k = n - i ∧ St w0 w F) (n) ?_ ?_
  ·
   exact ⟨0, rfl, by omega, by omega, hs⟩
  ·
   intro k vs μ w9 hI K8 hN7
   obtain ⟨i, rfl, hia, rfl, hs⟩ := hI
   have hsl := shr_le b i
   have hsl0 : (0 : Int) ≤ ((b >>> i : Nat) : Int) := Int.natCast_nonneg _
   refine w_seq (fun K11 hK10 => ?_)
   refine w_seq (fun K13 hK12 => ?_)
   refine w_region ?_
   refine w_p (y_move (v := .int _ _) rfl rfl) rfl ?_
   refine w_p (y_move (v := .int _ _) rfl rfl) rfl ?_
   refine w_p (y_lss rfl rfl rfl rfl) rfl ?_
   refine w_nil ?_
   refine q_then (hK12 _ _ ?_)
   refine w_cond rfl rfl (fun h14 => ?_) (fun h14 => ?_)
   ·
    try simp only [zA, zB, zC, zD, zE, zF] at h14
    refine w_skip ?_
    refine q_then (hK10 _ _ ?_)
    refine w_seq (fun K16 hK15 => ?_)
    refine w_block ?_
    refine w_region ?_
    refine w_p (y_move (v := .int _ _) rfl rfl) rfl ?_
    refine w_p (y_quo rfl rfl rfl rfl (by omega) (by omega) (by omega)) rfl ?_
    refine w_p (y_assign (v := .int _ _) rfl rfl) rfl ?_
    refine w_nil ?_
    refine q_blk_normal ?_
    refine q_then (hK15 _ _ ?_)
    refine w_region ?_
    refine w_p (y_move (v := .int _ _) rfl rfl) rfl ?_
    refine w_p (y_add rfl rfl rfl rfl (by omega) (by omega)) rfl ?_
    refine w_p (y_assign (v := .int _ _) rfl rfl) rfl ?_
    refine w_nil ?_
    refine q_then (hN7 _ _ (Nx.intro (n - (i + 1)) (by omega) (by repeat (first | exact agree_mix | refine agree_upd rfl ?_ | refine agree_updL rfl ?_ _ | refine agree_mixin rfl ?_)) ?_))
    exact ⟨i + 1, by rw [← shr_half]; rfl, by omega, rfl, hs⟩
   ·
    try simp only [zA, zB, zC, zD, zE, zF] at h14
    refine w_exit ?_
    refine q_then_exit ?_
    refine q_then_exit ?_
    refine q_blk_this ?_
    refine q_then (hK3 _ _ ?_)
    refine w_seq (fun K18 hK17 => ?_)
    refine w_region ?_
    refine w_p (y_move (v := .int _ _) rfl rfl) rfl ?_
    refine w_p (y_rem rfl rfl rfl rfl (by omega) (by omega)) rfl ?_
    refine w_p (y_eql rfl rfl rfl rfl) rfl ?_
    refine w_p (y_assign (v := .bool _) rfl rfl) rfl ?_
    refine w_nil ?_
    refine q_then (hK17 _ _ ?_)
    refine w_ret ?_
    refine q_ret (l := [.tmp 4]) (vs := [_]) rfl ⟨⟨rfl, show _ = (.bool _ : Value) from rfl⟩, trivial⟩ ?_
    have hin : i = n := by omega
    subst hin
    exact ⟨rfl, hs⟩

theorem c44 {w0 w : World} {F : List (Nat × Obj)} (aa ab : Option Addr) (a b : List Int) (ca cb : Nat) (hla : a.length ≤ 9223372036854775807) (ha : Sl w0 F aa 1 (a.map fun x => [Value.int .i64 x])) (hb : Sl w0 F ab 1 (b.map fun x => [Value.int .i64 x])) (hs : St w0 w F) : Con Try.prog 44 [.slice aa a.length ca, .slice ab b.length cb] w fun v w' => v = .bool (if a.length = b.length then less a b else decide (a.length < b.length)) ∧ St w0 w' F := by
  refine con_of_wc (n := 18) Try.func44 rfl rfl (Nat.le_of_ble_eq_true rfl) ?_
  refine w_seq (fun K2 hK1 => ?_)
  refine w_region ?_
  refine w_p (y_assign (v := _) rfl rfl) rfl ?_
  refine w_nil ?_
  refine q_then (hK1 _ _ ?_)
  refine w_seq (fun K4 hK3 => ?_)
  refine w_seq (fun K6 hK5 => ?_)
  refine w_region ?_
  refine w_p (y_move (v := .slice _ _ _) rfl rfl) rfl ?_
  refine w_p (y_lenS Try.underlying39 rfl rfl) rfl ?_
  refine w_p (y_move (v := .slice _ _ _) rfl rfl) rfl ?_
  refine w_p (y_lenS Try.underlying39 rfl rfl) rfl ?_
  refine w_p (y_neq rfl rfl rfl rfl) rfl ?_
  refine w_nil ?_
  refine q_then (hK5 _ _ ?_)
  refine w_cond rfl rfl (fun h7 => ?_) (fun h7 => ?_)
  ·
   try simp only [zA, zB, zC, zD, zE, zF] at h7
   refine w_seq (fun K9 hK8 => ?_)
   refine w_region ?_
   refine w_p (y_move (v := .slice _ _ _) rfl rfl) rfl ?_
   refine w_p (y_lenS Try.underlying39 rfl rfl) rfl ?_
   refine w_p (y_move (v := .slice _ _ _) rfl rfl) rfl ?_
   refine w_p (y_lenS Try.underlying39 rfl rfl) rfl ?_
   refine w_p (y_lss rfl rfl rfl rfl) rfl ?_
   refine w_p (y_assign (v := .bool _) rfl rfl) rfl ?_
   refine w_nil ?_
   refine q_then (hK8 _ _ ?_)
   refine w_ret ?_
   refine q_then_ret ?_
   refine q_ret (l := [.tmp 4]) (vs := [_]) rfl ⟨⟨rfl, show _ = (.bool _ : Value) from rfl⟩, trivial⟩ ?_
   first
     | exact ⟨congrArg Value.bool (by rw [if_neg (by omega)]; rw [Bool.eq_iff_iff]; simp), hs⟩
     | exact ⟨congrArg Value.bool (by rw [if_pos (by omega)]), hs⟩
  ·
   try simp only [zA, zB, zC, zD, zE, zF] at h7
   refine w_skip ?_
   refine q_then (hK3 _ _ ?_)
   refine w_seq (fun K11 hK10 => ?_)
   refine w_region ?_
   refine w_p (y_move (v := .slice _ _ _) rfl rfl) rfl ?_
   refine w_p (y_move (v := .slice _ _ _) rfl rfl) rfl ?_
   refine w_call want_none Try.call82 rfl rfl rfl rfl (c82 _ _ _ _ _ _ (by omega) (by assumption) (by assumption) hs) ?_
   rintro _ w13 ⟨rfl, hs14⟩
   refine w_p (y_assign (v := .bool _) rfl rfl) rfl ?_
   refine w_nil ?_
   refine q_then (hK10 _ _ ?_)
   refine w_ret ?_
   refine q_ret (l := [.tmp 4]) (vs := [_]) rfl ⟨⟨rfl, show _ = (.bool _ : Value) from rfl⟩, trivial⟩ ?_
   first
     | exact ⟨congrArg Value.bool (by rw [if_neg (by omega)]; rw [Bool.eq_iff_iff]; simp), hs14⟩
     | exact ⟨congrArg Value.bool (by rw [if_pos (by omega)]), hs14⟩

theorem bit_con {w0 w : World} {F : List (Nat × Obj)} (z : Int) (n : Nat) (hz : 0 ≤ z) (hz2 : z ≤ 9223372036854775807) (hn : n ≤ 9223372036854775807) (hs : St w0 w F) : Con Try.prog 40 [.int .i64 z, .int .i64 (n : Int)] w fun v w' => v = .bool (decide (bit z.toNat n = 1)) ∧ St w0 w' F := by
  have h := c40 z.toNat n (by omega) hn hs
  rw [Int.toNat_of_nonneg hz, Go.Rt.Ha.bit_dec] at h
  exact h
theorem c41 {w0 w : World} {F : List (Nat × Obj)} (al : Option Addr) (cl : Nat) (l : List Int) (hll : l.length ≤ 9223372036854775807) (hl : Sl w0 F al 1 (l.map fun x => [Value.int .i64 x])) (n : Int) (hs : St w0 w F) :
  Con Try.prog 41 [.slice al l.length cl, .int .i64 n] w fun v w' => v = .bool (rising n (-1) l) ∧ St w0 w' F := by
  refine con_of_wc (n := 31) Try.func41 rfl rfl (Nat.le_of_ble_eq_true rfl) ?_
  refine w_seq (fun K2 hK1 => ?_)
  refine w_region ?_
  refine w_p (y_assign (v := _) rfl rfl) rfl ?_
  refine w_nil ?_
  refine q_then (hK1 _ _ ?_)
  refine w_seq (fun K4 hK3 => ?_)
  refine w_region ?_
  refine w_p (y_assign (v := _) rfl rfl) rfl ?_
  refine w_nil ?_
  refine q_then (hK3 _ _ ?_)
  refine w_seq (fun K6 hK5 => ?_)
  refine w_seq (fun K8 hK7 => ?_)
  refine w_region ?_
  refine w_p (y_assign (v := _) rfl rfl) rfl ?_
  refine w_nil ?_
  refine q_then (hK7 _ _ ?_)
  refine w_block ?_
  refine w_loop [4, 5, 6, 7, 8, 9, 10, 11, 12, 13, 14, 15, 16, 17, 18, 19, 20, 21, 22, 23, 24, 25, 26, 27, 28, 29, 30] [5, 6] (fun k vs w => ∃ (i : Nat) (p : Int), vs = [.int .i64 p, .int .i64 i] ∧ i ≤ l.length ∧ k = l.length - i ∧ rising n (-1) l = rising n p (l.drop i) ∧ St w0 w F) (l.length) ?_ ?_
  ·
   exact ⟨0, -1, rfl, by omega, by omega, rfl, hs⟩
  ·
   intro k vs μ w11 hI K10 hN9
   obtain ⟨i, p, rfl, hia, rfl, hri, hs⟩ := hI
   refine w_seq (fun K13 hK12 => ?_)
   refine w_seq (fun K15 hK14 => ?_)
   refine w_region ?_
   refine w_p (y_move (v := .int _ _) rfl rfl) rfl ?_
   refine w_p (y_move (v := .slice _ _ _) rfl rfl) rfl ?_
   refine w_p (y_lenS Try.underlying39 rfl rfl) rfl ?_
   refine w_p (y_lss rfl rfl rfl rfl) rfl ?_
   refine w_nil ?_
   refine q_then (hK14 _ _ ?_)
   refine w_cond rfl rfl (fun h16 => ?_) (fun h16 => ?_)
   ·
    try simp only [zA, zB, zC, zD, zE, zF] at h16
    refine w_skip ?_
    refine q_then (hK12 _ _ ?_)
    refine w_seq (fun K18 hK17 => ?_)
    refine w_block ?_
    refine w_seq (fun K20 hK19 => ?_)
    refine w_seq (fun K22 hK21 => ?_)
    have hi2 : i < l.length := by omega
    obtain ⟨bx, ox, hbx, hx⟩ := sl_ints hl hi2
    subst hbx
    refine w_region ?_
    refine w_p (y_move (v := .slice _ _ _) rfl rfl) rfl ?_
    refine w_p (y_move (v := .int _ _) rfl rfl) rfl ?_
    refine w_p (y_indexS Try.underlying39 Try.sizeOf3 rfl rfl rfl rfl (i := _) rfl (by omega)) rfl ?_
    refine w_p (y_load1 Try.isAgg3 hs rfl rfl hx) rfl ?_
    refine w_p (y_move (v := .int _ _) rfl rfl) rfl ?_
    refine w_p (y_leq rfl rfl rfl rfl) rfl ?_
    refine w_p (y_move (v := .bool _) rfl rfl) rfl ?_
    refine w_split (fun h23 => ?_) (fun h23 => ?_)
    ·
     try simp only [zA, zB, zC, zD, zE, zF] at h23
     refine w_skipop rfl rfl rfl ?_
     refine w_skipop rfl rfl rfl ?_
     refine w_skipop rfl rfl rfl ?_
     refine w_skipop rfl rfl rfl ?_
     refine w_skipop rfl rfl rfl ?_
     refine w_skipop rfl rfl rfl ?_
     refine w_p (y_pickT (v := _) rfl rfl rfl rfl) rfl ?_
     refine w_nil ?_
     refine q_then (hK21 _ _ ?_)
     refine w_condT rfl rfl ?_
     refine w_seq (fun K25 hK24 => ?_)
     refine w_region ?_
     refine w_p (y_assign (v := _) rfl rfl) rfl ?_
     refine w_nil ?_
     refine q_then (hK24 _ _ ?_)
     refine w_ret ?_
     refine q_then_ret ?_
     refine q_blk_ret ?_
     refine q_then_ret ?_
     refine q_then_ret ?_
     refine q_blk_ret ?_
     refine q_then_ret ?_
     refine q_ret (l := [.tmp 4]) (vs := [_]) rfl ⟨⟨rfl, show _ = (.bool _ : Value) from rfl⟩, trivial⟩ ?_
     first
       | exact ⟨congrArg Value.bool (hri.trans (rising_end (by omega))).symm, hs⟩
       | exact ⟨congrArg Value.bool (hri.trans (rising_stop hi2 (by omega))).symm, hs⟩
    ·
     try simp only [zA, zB, zC, zD, zE, zF] at h23
     refine w_y rfl rfl rfl (y_move (v := .slice _ _ _) rfl rfl) rfl ?_
     refine w_y rfl rfl rfl (y_move (v := .int _ _) rfl rfl) rfl ?_
     refine w_y rfl rfl rfl (y_indexS Try.underlying39 Try.sizeOf3 rfl rfl rfl rfl (i := _) rfl (by omega)) rfl ?_
     refine w_y rfl rfl rfl (y_load1 Try.isAgg3 hs rfl rfl hx) rfl ?_
     refine w_y rfl rfl rfl (y_move (v := .int _ _) rfl rfl) rfl ?_
     refine w_y rfl rfl rfl (y_geq rfl rfl rfl rfl) rfl ?_
     refine w_p (y_pickF (v := .bool _) rfl rfl rfl rfl) rfl ?_
     refine w_nil ?_
     refine q_then (hK21 _ _ ?_)
     refine w_cond rfl rfl (fun h26 => ?_) (fun h26 => ?_)
     ·
      try simp only [zA, zB, zC, zD, zE, zF] at h26
      refine w_seq (fun K28 hK27 => ?_)
      refine w_region ?_
      refine w_p (y_assign (v := _) rfl rfl) rfl ?_
      refine w_nil ?_
      refine q_then (hK27 _ _ ?_)
      refine w_ret ?_
      refine q_then_ret ?_
      refine q_blk_ret ?_
      refine q_then_ret ?_
      refine q_then_ret ?_
      refine q_blk_ret ?_
      refine q_then_ret ?_
      refine q_ret (l := [.tmp 4]) (vs := [_]) rfl ⟨⟨rfl, show _ = (.bool _ : Value) from rfl⟩, trivial⟩ ?_
      first
        | exact ⟨congrArg Value.bool (hri.trans (rising_end (by omega))).symm, hs⟩
        | exact ⟨congrArg Value.bool (hri.trans (rising_stop hi2 (by omega))).symm, hs⟩
     ·
      try simp only [zA, zB, zC, zD, zE, zF] at h26
      refine w_skip ?_
      refine q_then (hK19 _ _ ?_)
      refine w_region ?_
      refine w_p (y_move (v := .slice _ _ _) rfl rfl) rfl ?_
      refine w_p (y_move (v := .int _ _) rfl rfl) rfl ?_
      refine w_p (y_indexS Try.underlying39 Try.sizeOf3 rfl rfl rfl rfl (i := _) rfl (by omega)) rfl ?_
      refine w_p (y_load1 Try.isAgg3 hs rfl rfl hx) rfl ?_
      refine w_p (y_assign (v := .int _ _) rfl rfl) rfl ?_
      refine w_nil ?_
      refine q_blk_normal ?_
      refine q_then (hK17 _ _ ?_)
      refine w_region ?_
      refine w_p (y_move (v := .int _ _) rfl rfl) rfl ?_
      refine w_p (y_add rfl rfl rfl rfl (by omega) (by omega)) rfl ?_
      refine w_p (y_assign (v := .int _ _) rfl rfl) rfl ?_
      refine w_nil ?_
      refine q_then (hN9 _ _ (Nx.intro (l.length - (i + 1)) (by omega) (by repeat (first | exact agree_mix | refine agree_upd rfl ?_ | refine agree_updL rfl ?_ _ | refine agree_mixin rfl ?_)) ?_))
      exact ⟨i + 1, _, rfl, by omega, rfl, hri.trans (rising_step hi2 (by omega) (by omega)), hs⟩
   ·
    try simp only [zA, zB, zC, zD, zE, zF] at h16
    refine w_exit ?_
    refine q_then_exit ?_
    refine q_then_exit ?_
    refine q_blk_this ?_
    refine q_then (hK5 _ _ ?_)
    refine w_seq (fun K30 hK29 => ?_)
    refine w_region ?_
    refine w_p (y_assign (v := _) rfl rfl) rfl ?_
    refine w_nil ?_
    refine q_then (hK29 _ _ ?_)
    refine w_ret ?_
    refine q_ret (l := [.tmp 4]) (vs := [_]) rfl ⟨⟨rfl, show _ = (.bool _ : Value) from rfl⟩, trivial⟩ ?_
    first
      | exact ⟨congrArg Value.bool (hri.trans (rising_end (by omega))).symm, hs⟩
      | exact ⟨congrArg Value.bool (hri.trans (rising_stop hi2 (by omega))).symm, hs⟩

end Go.Proofs
/- Walks of this seat, printed by gen.py over the engine: what each function returns, in whatever world. No conditions but those of each contract. -/
set_option linter.unusedVariables false
set_option linter.unusedSimpArgs false
set_option maxRecDepth 20000
namespace Go.Proofs
open Go.Rt Go.Rt.Ch
open Go.Rt.Ha (firstE firstE_step firstE_stop firstE_end failE nameE felt spanL upto span_mem listL fewest fewTo bit before fewStep drop_lt drop_get drop_next drop_done drop_notin set_take set_zero take_less)
attribute [local irreducible] WL WC Con Yd At Ats Sl Agree DW

theorem wrongP_e {b : Board} (h : ¬ (check b).2.2 = 0) : wrongP b = ([], (check b).2.2) := by unfold wrongP; rw [if_pos h]
theorem wrongP_y {b : Board} (h : (check b).2.2 = 0) : wrongP b = ((fewest (wrongS b) (b.hours.length * b.ctrs.length)).1, 0) := by unfold wrongP; rw [if_neg (by simp [h])]
theorem many_8 {b : Board} (h : b.Ok) : b.hours.length * b.ctrs.length ≤ 8 := by
  have h1 := Nat.mul_le_mul h.lh h.lc
  omega
theorem c30 {w0 w : World} {F : List (Nat × Obj)} (b : Board) (p : AtB) (hm : BIn w0 F b p)  (hs : St w0 w F) :
  Con Try.prog 30 [.agg (b.cells p).toArray] w fun v w' => ∃ B a' c, v = .tuple #[.slice a' (wrongP b).1.length c, .int .i64 (wrongP b).2] ∧ Sl w0 B a' 1 ((wrongP b).1.map fun x => [Value.int .i64 x]) ∧ St w0 w' (B ++ F) := by
  refine con_of_wc (n := 27) Try.func30 rfl rfl (Nat.le_of_ble_eq_true rfl) ?_
  have hlh0 := hm.lh
  have hlc0 := hm.lc
  refine w_seq (fun K2 hK1 => ?_)
  refine w_region ?_
  refine w_box (v := .agg #[.int _ _, .slice _ _ _, .slice _ _ _]) (cs := [_, _, _]) want_none rfl rfl rfl hs (fun b3 w4 hs5 => ?_)
  refine w_p (y_assign (v := _) rfl rfl) rfl ?_
  refine w_p (y_assign (v := _) rfl rfl) rfl ?_
  refine w_nil ?_
  refine q_then (hK1 _ _ ?_)
  refine w_seq (fun K7 hK6 => ?_)
  refine w_seq (fun K9 hK8 => ?_)
  refine w_region ?_
  refine w_p (y_loadN (vs := [_, _, _]) Try.isAgg25 Try.sizeOf25 hs5 rfl rfl (ats_own (i := 0) (vs := [_, _, _]) rfl rfl)) rfl ?_
  refine w_call want_none Try.call16 rfl rfl rfl rfl (c16 b _ hm.cons hs5) ?_
  rintro _ w11 ⟨rfl, hs12⟩
  refine w_p (y_move (v := .tuple _) rfl rfl) rfl ?_
  refine w_p (y_extract (v := .int _ _) rfl rfl rfl) rfl ?_
  refine w_p (y_extract (v := .int _ _) rfl rfl rfl) rfl ?_
  refine w_p (y_extract (v := .int _ _) rfl rfl rfl) rfl ?_
  refine w_p (y_assign (v := .int _ _) rfl rfl) rfl ?_
  refine w_p (y_assign (v := .int _ _) rfl rfl) rfl ?_
  refine w_p (y_assign (v := .int _ _) rfl rfl) rfl ?_
  refine w_nil ?_
  refine q_then (hK8 _ _ ?_)
  refine w_seq (fun K14 hK13 => ?_)
  refine w_region ?_
  refine w_p (y_move (v := .int _ _) rfl rfl) rfl ?_
  refine w_p (y_neq rfl rfl rfl rfl) rfl ?_
  refine w_nil ?_
  refine q_then (hK13 _ _ ?_)
  refine w_cond rfl rfl (fun h15 => ?_) (fun h15 => ?_)
  ·
   try simp only [zA, zB, zC, zD, zE, zF] at h15
   refine w_seq (fun K17 hK16 => ?_)
   refine w_region ?_
   refine w_p (y_move (v := .int _ _) rfl rfl) rfl ?_
   refine w_p (y_assign (v := _) rfl rfl) rfl ?_
   refine w_p (y_assign (v := .int _ _) rfl rfl) rfl ?_
   refine w_nil ?_
   refine q_then (hK16 _ _ ?_)
   refine w_ret ?_
   refine q_then_ret ?_
   refine q_ret (l := [.tmp 2, .tmp 3]) (vs := [_, _]) rfl ⟨⟨rfl, show _ = (.slice _ _ _ : Value) from rfl⟩, ⟨rfl, show _ = (.int _ _ : Value) from rfl⟩, trivial⟩ ?_
   exact ⟨[], none, 0, by rw [wrongP_e (by assumption)]; rfl, by rw [wrongP_e (by assumption)]; exact Sl.nil _ _, hs12.tail⟩
  ·
   try simp only [zA, zB, zC, zD, zE, zF] at h15
   refine w_skip ?_
   refine q_then (hK6 _ _ ?_)
   refine w_seq (fun K19 hK18 => ?_)
   have hck : (check b).2.2 = 0 := by assumption
   have hok := check_ok hck
   have h8 := many_8 hok
   have hmi : ((b.hours.length : Int) * (b.ctrs.length : Int)) = ((b.hours.length * b.ctrs.length : Nat) : Int) := by push_cast; rfl
   refine w_region ?_
   refine w_p (y_fieldAddr (o := 1) (i := 1) Try.underlying25 rfl Try.sizeOf22 rfl rfl rfl) rfl ?_
   refine w_p (y_load1 Try.isAgg22 hs12 rfl rfl (ats_own (i := 0) (vs := [_]) rfl rfl)) rfl ?_
   refine w_p (y_lenS Try.underlying22 rfl rfl) rfl ?_
   refine w_alloc (cs := [_]) want_none Try.zeroValue3 rfl hs12 (fun b20 w21 hs22 => ?_)
   refine w_store (i := 0) (v := .int _ _) (vs := [_]) want_none Try.sizeOf3 rfl rfl rfl rfl rfl (by simp [Value.oneCell']) hs22 rfl (Nat.le_of_ble_eq_true rfl) (fun w23 hs24 => ?_)
   refine w_nil ?_
   refine q_then (hK18 _ _ ?_)
   refine w_seq (fun K26 hK25 => ?_)
   refine w_region ?_
   refine w_p (y_load1 Try.isAgg3 hs24 rfl rfl (ats_own (i := 0) (vs := [_]) rfl rfl)) rfl ?_
   refine w_p (y_fieldAddr (o := 2) (i := 2) Try.underlying25 rfl Try.sizeOf23 rfl rfl rfl) rfl ?_
   refine w_p (y_load1 Try.isAgg23 hs24 rfl rfl (ats_own (i := 1) (vs := [_]) rfl rfl)) rfl ?_
   refine w_p (y_lenS Try.underlying23 rfl rfl) rfl ?_
   refine w_p (yd_cast (z' := ((b.hours.length * b.ctrs.length : Nat) : Int)) hmi (y_mul rfl rfl rfl rfl (by omega) (by omega))) rfl ?_
   refine w_p (y_makeFunc (fv := []) (cv := [_, _]) rfl rfl rfl rfl) rfl ?_
   refine w_call want_none Try.call78 rfl rfl rfl rfl (c78 (M := []) (F := (b20, blk 3 [.int .i64 (b.hours.length : Int)]) :: (b3, blk 25 (b.cells p)) :: F) (b.hours.length * b.ctrs.length) (many_8 hok) _ (wrongS b) (fun M => M = []) (fun s M X w hs1 hM hs => by subst hM; exact fcon_fn Try.call83 ((c83 b p hm.cons.cons.app hck s (by have := (shl_256 (many_8 hok)).2; omega) _ _ (Ats.app (ats_own (i := 1) (vs := b.cells p) rfl rfl)) (Ats.app (ats_own (i := 0) (vs := [_]) rfl rfl)) hs).mono fun v w h => ⟨h.1, [], rfl, h.2⟩)) rfl hs24) ?_
   rintro _ w28 ⟨B, M2, a2, c2, rfl, hslB, rfl, hs29⟩
   refine w_p (y_assign (v := .slice _ _ _) rfl rfl) rfl ?_
   refine w_p (y_assign (v := _) rfl rfl) rfl ?_
   refine w_nil ?_
   refine q_then (hK25 _ _ ?_)
   refine w_ret ?_
   refine q_ret (l := [.tmp 2, .tmp 3]) (vs := [_, _]) rfl ⟨⟨rfl, show _ = (.slice _ _ _ : Value) from rfl⟩, ⟨rfl, show _ = (.int _ _ : Value) from rfl⟩, trivial⟩ ?_
   exact ⟨B, a2, c2, by rw [wrongP_y hck]; rfl, by rw [wrongP_y hck]; exact hslB, keep_front (M := []) (P := [_, _]) hs29⟩

end Go.Proofs
/- Plain words of the chain layer: the document's example. No conditions. -/
set_option linter.unusedSimpArgs false
set_option linter.unusedVariables false
namespace Go.Rt.Ch
open Go.Rt.Ha
def nShip : ByteArray := ⟨#[115, 104, 105, 112]⟩
def nShore : ByteArray := ⟨#[115, 104, 111, 114, 101]⟩
def exB (n : Int) : Board := ⟨2, [⟨0, 10, 13⟩, ⟨0, 8, 11⟩, ⟨1, 10, 12⟩], [⟨nShip, 1, 0, 90, [0, 0, 0], [1, -1, 22]⟩, ⟨nShore, 0, 2, 0, [0, 2, 0], [13, 10, n]⟩]⟩
theorem ex_went1 : wentP (exB 21) 0 = ((11, 12), 0) := by decide +kernel
theorem ex_hold1 : holdP (exB 21) 0 = ((21, 22), 0) := by decide +kernel
theorem ex_right1 : rightP (exB 21) 0 = (0, 0) := by decide +kernel
theorem ex_right2 : rightP (exB 21) 1 = (2, 0) := by decide +kernel
theorem ex_zero1 : zeroP (exB 21) 1 1 = (1, 0) := by decide +kernel
theorem ex_looks1 : looksP (exB 21) 0 0 = ([0], 0) := by decide +kernel
theorem ex_looks2 : looksP (exB 21) 0 1 = ([], 0) := by decide +kernel
theorem ex_wrong1 : wrongP (exB 30) = ([5], 0) := by decide +kernel
theorem ex_went2 : wentP (exB 30) 0 = ((0, 0), 8) := by decide +kernel
theorem ex_looks3 : looksP (exB 21) 0 (-1) = ([], 7) := by decide +kernel
end Go.Rt.Ch
/- Walks of this seat, printed by gen.py over the engine: what each function returns, in whatever world. No conditions but those of each contract. -/
set_option linter.unusedVariables false
set_option linter.unusedSimpArgs false
set_option maxRecDepth 20000
namespace Go.Proofs
open Go.Rt Go.Rt.Ch
open Go.Rt.Ha (firstE firstE_step firstE_stop firstE_end failE nameE felt spanL upto span_mem listL fewest fewTo bit before fewStep drop_lt drop_get drop_next drop_done drop_notin set_take set_zero take_less)
attribute [local irreducible] WL WC Con Yd At Ats Sl Agree DW
theorem Try_Ya_fb7 (x0 : Int) (x1 : Int) (w : World) : (Instr.build 31 [(0, .int .i64 x0), (1, .int .i64 x1)].toArray).run Try.prog w = .ok (.agg #[.int .i64 x0, .int .i64 x1]) w := by kernel_rfl
theorem Try_Ya_fb8 (x0 : Int) (x1 : Int) (w : World) : (Instr.build 70 [(1, .agg #[.int .i64 x0, .int .i64 x1])].toArray).run Try.prog w = .ok (.agg #[.int .i64 0, .int .i64 x0, .int .i64 x1]) w := by kernel_rfl
theorem Try_Ya_fb9 (x0 : Int) (x1 : Int) (x2 : Int) (w : World) : (Instr.build 70 [(0, .int .i64 x0), (1, .agg #[.int .i64 x1, .int .i64 x2])].toArray).run Try.prog w = .ok (.agg #[.int .i64 x0, .int .i64 x1, .int .i64 x2]) w := by kernel_rfl
theorem Try_Ya_fb10 (x0 : Int) (x1 : Int) (x2 : Int) (x3 : Int) (x4 : Int) (x5 : Int) (x6 : Int) (x7 : Int) (x8 : Int) (w : World) : (Instr.buildSlice 22 3 [(0, .agg #[.int .i64 x0, .int .i64 x1, .int .i64 x2]), (1, .agg #[.int .i64 x3, .int .i64 x4, .int .i64 x5]), (2, .agg #[.int .i64 x6, .int .i64 x7, .int .i64 x8])].toArray).run Try.prog w = .ok (.slice (some ⟨w.heap.size, 0, none⟩) 3 3) (w.alloc (Go.Rt.blk 70 [.int .i64 x0, .int .i64 x1, .int .i64 x2, .int .i64 x3, .int .i64 x4, .int .i64 x5, .int .i64 x6, .int .i64 x7, .int .i64 x8])) := by kernel_rfl
theorem Try_Ya_fb11 (x0 : Int) (x1 : Int) (x2 : Int) (w : World) : (Instr.buildSlice 39 3 [(0, .int .i64 x0), (1, .int .i64 x1), (2, .int .i64 x2)].toArray).run Try.prog w = .ok (.slice (some ⟨w.heap.size, 0, none⟩) 3 3) (w.alloc (Go.Rt.blk 3 [.int .i64 x0, .int .i64 x1, .int .i64 x2])) := by kernel_rfl
theorem Try_Ya_fb12 (x0 : ByteArray) (x1 : Int) (x2 : Int) (x3 : Option Addr) (l3 c3 : Nat) (x4 : Option Addr) (l4 c4 : Nat) (w : World) : (Instr.build 76 [(0, .string x0), (1, .int .i64 x1), (3, .int .i64 x2), (4, .slice x3 l3 c3), (5, .slice x4 l4 c4)].toArray).run Try.prog w = .ok (.agg #[.string x0, .int .i64 x1, .int .i64 0, .int .i64 x2, .slice x3 l3 c3, .slice x4 l4 c4]) w := by kernel_rfl
theorem Try_Ya_fb13 (x0 : ByteArray) (x1 : Int) (x2 : Option Addr) (l2 c2 : Nat) (x3 : Option Addr) (l3 c3 : Nat) (w : World) : (Instr.build 76 [(0, .string x0), (2, .int .i64 x1), (4, .slice x2 l2 c2), (5, .slice x3 l3 c3)].toArray).run Try.prog w = .ok (.agg #[.string x0, .int .i64 0, .int .i64 x1, .int .i64 0, .slice x2 l2 c2, .slice x3 l3 c3]) w := by kernel_rfl
theorem Try_Ya_fb14 (x0 : ByteArray) (x1 : Int) (x2 : Int) (x3 : Int) (x4 : Option Addr) (l4 c4 : Nat) (x5 : Option Addr) (l5 c5 : Nat) (x6 : ByteArray) (x7 : Int) (x8 : Int) (x9 : Int) (x10 : Option Addr) (l10 c10 : Nat) (x11 : Option Addr) (l11 c11 : Nat) (w : World) : (Instr.buildSlice 23 2 [(0, .agg #[.string x0, .int .i64 x1, .int .i64 x2, .int .i64 x3, .slice x4 l4 c4, .slice x5 l5 c5]), (1, .agg #[.string x6, .int .i64 x7, .int .i64 x8, .int .i64 x9, .slice x10 l10 c10, .slice x11 l11 c11])].toArray).run Try.prog w = .ok (.slice (some ⟨w.heap.size, 0, none⟩) 2 2) (w.alloc (Go.Rt.blk 76 [.string x0, .int .i64 x1, .int .i64 x2, .int .i64 x3, .slice x4 l4 c4, .slice x5 l5 c5, .string x6, .int .i64 x7, .int .i64 x8, .int .i64 x9, .slice x10 l10 c10, .slice x11 l11 c11])) := by kernel_rfl
theorem Try_Ya_fb15 (x0 : Int) (x1 : Option Addr) (l1 c1 : Nat) (x2 : Option Addr) (l2 c2 : Nat) (w : World) : (Instr.build 25 [(0, .int .i64 x0), (1, .slice x1 l1 c1), (2, .slice x2 l2 c2)].toArray).run Try.prog w = .ok (.agg #[.int .i64 x0, .slice x1 l1 c1, .slice x2 l2 c2]) w := by kernel_rfl
theorem Try_flat31 : flatInts Try.prog 31 2 = true := by kernel_rfl
theorem Try_Ya_fb17 (x0 : Int) (w : World) : (Instr.buildSlice 39 1 [(0, .int .i64 x0)].toArray).run Try.prog w = .ok (.slice (some ⟨w.heap.size, 0, none⟩) 1 1) (w.alloc (Go.Rt.blk 3 [.int .i64 x0])) := by kernel_rfl
theorem ats_ofL {w0 w : World} {L : List (Nat × Obj)} {i b : Nat} {t : TypeId} {cs vs : List Value} (hs : St w0 w L) (hi : L[i]? = some (b, blk t cs)) (h : (cs.drop 0).take vs.length = vs) : Ats w0 L b 0 vs := ats_own hi h
theorem gen_Z {w0 w : World} {L : List (Nat × Obj)} (hs : St w0 w L) : ∃ Z, Z = L ∧ St w0 w Z := ⟨L, rfl, hs⟩
theorem con_true {k : FuncId} {args : List Value} {w : World} {x : Bool} {S : World → Prop} (h : Con Try.prog k args w fun v w' => v = .bool x ∧ S w') (hx : x = true) : Con Try.prog k args w fun v w' => v = .bool true ∧ S w' := by subst hx; exact h
theorem con_false {k : FuncId} {args : List Value} {w : World} {x : Bool} {S : World → Prop} (h : Con Try.prog k args w fun v w' => v = .bool x ∧ S w') (hx : x = false) : Con Try.prog k args w fun v w' => v = .bool false ∧ S w' := by subst hx; exact h
theorem kz_own {w0 w : World} {B F : List (Nat × Obj)} {a : Nat × Obj} (h : St w0 w (B ++ (a :: F))) : St w0 w (B ++ F) := (h.perm (perm_mid B [a] F)).tail
def exP (bh bc z1 s1 z2 s2 : Nat) : AtB := ⟨some ⟨bh, 0, none⟩, 3, some ⟨bc, 0, none⟩, 2, fun i => if i = 0 then ⟨some ⟨z1, 0, none⟩, 3, some ⟨s1, 0, none⟩, 3⟩ else ⟨some ⟨z2, 0, none⟩, 3, some ⟨s2, 0, none⟩, 3⟩⟩
theorem ex_bin {w0 : World} {n : Int} {bh bc z1 s1 z2 s2 : Nat} :
    BIn w0 [(bc, blk 76 (krows (exB n).ctrs (exP bh bc z1 s1 z2 s2).pc).flatten), (s2, blk 3 (iv [13, 10, n])), (z2, blk 3 (iv [0, 2, 0])), (s1, blk 3 (iv [1, -1, 22])), (z1, blk 3 (iv [0, 0, 0])), (bh, blk 70 (hrows (exB n).hours).flatten)] (exB n) (exP bh bc z1 s1 z2 s2) where
  h := sl_own (i := 5) rfl (by intro row h; obtain ⟨q, _, rfl⟩ := List.mem_map.1 h; rfl) rfl
  c := sl_own (i := 0) rfl (krows_row _ _) rfl
  z := fun i hi => by
    match i, hi with
    | 0, _ => exact sl_own (i := 4) rfl (by intro row h; obtain ⟨q, _, rfl⟩ := List.mem_map.1 h; rfl) rfl
    | 1, _ => exact sl_own (i := 2) rfl (by intro row h; obtain ⟨q, _, rfl⟩ := List.mem_map.1 h; rfl) rfl
    | i + 2, hi => exact absurd hi (by simp [exB])
  s := fun i hi => by
    match i, hi with
    | 0, _ => exact sl_own (i := 3) rfl (by intro row h; obtain ⟨q, _, rfl⟩ := List.mem_map.1 h; rfl) rfl
    | 1, _ => exact sl_own (i := 1) rfl (by intro row h; obtain ⟨q, _, rfl⟩ := List.mem_map.1 h; rfl) rfl
    | i + 2, hi => exact absurd hi (by simp [exB])
  lh := by simp [exB]
  lc := by simp [exB]
  ch := by simp [exB, exP]
  cc := by simp [exB, exP]
  lz := fun i hi => by
    match i, hi with
    | 0, _ => exact ⟨by simp [exB], by simp [exB, exP]⟩
    | 1, _ => exact ⟨by simp [exB], by simp [exB, exP]⟩
    | i + 2, hi => exact absurd hi (by simp [exB])
  ls := fun i hi => by
    match i, hi with
    | 0, _ => exact ⟨by simp [exB], by simp [exB, exP]⟩
    | 1, _ => exact ⟨by simp [exB], by simp [exB, exP]⟩
    | i + 2, hi => exact absurd hi (by simp [exB])
  nm := by intro q hq; simp only [exB, List.mem_cons, List.not_mem_nil, or_false] at hq; rcases hq with rfl | rfl <;> (dsimp only; decide)
theorem c33 {w0 w : World} {F : List (Nat × Obj)} (x y : Int) (hs : St w0 w F) :
  Con Try.prog 33 [.int .i64 x, .int .i64 y] w fun v w' => v = .agg #[.int .i64 x, .int .i64 y] ∧ St w0 w' F := by
  refine con_of_wc (n := 8) Try.func33 rfl rfl (Nat.le_of_ble_eq_true rfl) ?_
  refine w_seq (fun K2 hK1 => ?_)
  refine w_region ?_
  refine w_alloc (cs := [_, _]) want_none Try.zeroValue31 rfl hs (fun b3 w4 hs5 => ?_)
  refine w_nil ?_
  refine q_then (hK1 _ _ ?_)
  refine w_seq (fun K7 hK6 => ?_)
  refine w_region ?_
  refine w_p (y_move (v := .int _ _) rfl rfl) rfl ?_
  refine w_p (y_move (v := .int _ _) rfl rfl) rfl ?_
  refine w_p (y_build (ps := [(0, _), (1, _)]) (pv := [(0, .int _ _), (1, .int _ _)]) rfl rfl (fun w => Try_Ya_fb7 _ _ w)) rfl ?_
  refine w_store (i := 0) (v := .agg #[.int _ _, .int _ _]) (vs := [_, _]) want_none Try.sizeOf31 rfl rfl rfl rfl rfl (by simp [Value.oneCell']) hs5 rfl (Nat.le_of_ble_eq_true rfl) (fun w8 hs9 => ?_)
  refine w_nil ?_
  refine q_then (hK6 _ _ ?_)
  refine w_ret ?_
  refine q_ret (l := [.cell 4 31]) (vs := [_]) rfl ⟨⟨rfl, _, rfl, run_loadVarN (vs := [_, _]) Try.isAgg31 Try.sizeOf31 hs9 (ats_own (i := 0) (vs := [_, _]) rfl rfl)⟩, trivial⟩ ?_
  exact ⟨rfl, hs9.tail⟩

theorem c32 {w0 w : World} {F : List (Nat × Obj)} (n : Int) (hs : St w0 w F) :
  Con Try.prog 32 [.int .i64 n] w fun v w' => ∃ p B, v = .agg ((exB n).cells p).toArray ∧ BIn w0 B (exB n) p ∧ St w0 w' (B ++ F) := by
  refine con_of_wc (n := 19) Try.func32 rfl rfl (Nat.le_of_ble_eq_true rfl) ?_
  refine w_seq (fun K2 hK1 => ?_)
  refine w_region ?_
  refine w_alloc (cs := [_, _, _]) want_none Try.zeroValue25 rfl hs (fun b3 w4 hs5 => ?_)
  refine w_nil ?_
  refine q_then (hK1 _ _ ?_)
  refine w_seq (fun K7 hK6 => ?_)
  refine w_region ?_
  refine w_call want_none Try.call33 rfl rfl rfl rfl (c33 _ _ hs5) ?_
  rintro _ w9 ⟨rfl, hs10⟩
  refine w_p (y_build (ps := [(1, _)]) (pv := [(1, .agg #[.int _ _, .int _ _])]) rfl rfl (fun w => Try_Ya_fb8 _ _ w)) rfl ?_
  refine w_call want_none Try.call33 rfl rfl rfl rfl (c33 _ _ hs10) ?_
  rintro _ w12 ⟨rfl, hs13⟩
  refine w_p (y_build (ps := [(1, _)]) (pv := [(1, .agg #[.int _ _, .int _ _])]) rfl rfl (fun w => Try_Ya_fb8 _ _ w)) rfl ?_
  refine w_call want_none Try.call33 rfl rfl rfl rfl (c33 _ _ hs13) ?_
  rintro _ w15 ⟨rfl, hs16⟩
  refine w_p (y_build (ps := [(0, _), (1, _)]) (pv := [(0, .int _ _), (1, .agg #[.int _ _, .int _ _])]) rfl rfl (fun w => Try_Ya_fb9 _ _ _ w)) rfl ?_
  refine w_bslice (ps := [(0, _), (1, _), (2, _)]) (pv := [(0, .agg #[.int _ _, .int _ _, .int _ _]), (1, .agg #[.int _ _, .int _ _, .int _ _]), (2, .agg #[.int _ _, .int _ _, .int _ _])]) (cs := [_, _, _, _, _, _, _, _, _]) want_none rfl rfl (fun w => Try_Ya_fb10 _ _ _ _ _ _ _ _ _ w) hs16 (fun b17 w18 hs19 => ?_)
  refine w_bslice (ps := [(0, _), (1, _), (2, _)]) (pv := [(0, .int _ _), (1, .int _ _), (2, .int _ _)]) (cs := [_, _, _]) want_none rfl rfl (fun w => Try_Ya_fb11 _ _ _ w) hs19 (fun b20 w21 hs22 => ?_)
  refine w_bslice (ps := [(0, _), (1, _), (2, _)]) (pv := [(0, .int _ _), (1, .int _ _), (2, .int _ _)]) (cs := [_, _, _]) want_none rfl rfl (fun w => Try_Ya_fb11 _ _ _ w) hs22 (fun b23 w24 hs25 => ?_)
  refine w_p (y_build (ps := [(0, _), (1, _), (3, _), (4, _), (5, _)]) (pv := [(0, .string _), (1, .int _ _), (3, .int _ _), (4, .slice _ _ _), (5, .slice _ _ _)]) rfl rfl (fun w => Try_Ya_fb12 _ _ _ _ _ _ _ _ _ w)) rfl ?_
  refine w_bslice (ps := [(0, _), (1, _), (2, _)]) (pv := [(0, .int _ _), (1, .int _ _), (2, .int _ _)]) (cs := [_, _, _]) want_none rfl rfl (fun w => Try_Ya_fb11 _ _ _ w) hs25 (fun b26 w27 hs28 => ?_)
  refine w_p (y_move (v := .int _ _) rfl rfl) rfl ?_
  refine w_bslice (ps := [(0, _), (1, _), (2, _)]) (pv := [(0, .int _ _), (1, .int _ _), (2, .int _ _)]) (cs := [_, _, _]) want_none rfl rfl (fun w => Try_Ya_fb11 _ _ _ w) hs28 (fun b29 w30 hs31 => ?_)
  refine w_p (y_build (ps := [(0, _), (2, _), (4, _), (5, _)]) (pv := [(0, .string _), (2, .int _ _), (4, .slice _ _ _), (5, .slice _ _ _)]) rfl rfl (fun w => Try_Ya_fb13 _ _ _ _ _ _ _ _ w)) rfl ?_
  refine w_bslice (ps := [(0, _), (1, _)]) (pv := [(0, .agg #[.string _, .int _ _, .int _ _, .int _ _, .slice _ _ _, .slice _ _ _]), (1, .agg #[.string _, .int _ _, .int _ _, .int _ _, .slice _ _ _, .slice _ _ _])]) (cs := [_, _, _, _, _, _, _, _, _, _, _, _]) want_none rfl rfl (fun w => Try_Ya_fb14 _ _ _ _ _ _ _ _ _ _ _ _ _ _ _ _ _ _ _ _ w) hs31 (fun b32 w33 hs34 => ?_)
  refine w_p (y_build (ps := [(0, _), (1, _), (2, _)]) (pv := [(0, .int _ _), (1, .slice _ _ _), (2, .slice _ _ _)]) rfl rfl (fun w => Try_Ya_fb15 _ _ _ _ _ _ _ w)) rfl ?_
  refine w_store (i := 6) (v := .agg #[.int _ _, .slice _ _ _, .slice _ _ _]) (vs := [_, _, _]) want_none Try.sizeOf25 rfl rfl rfl rfl rfl (by simp [Value.oneCell']) hs34 rfl (Nat.le_of_ble_eq_true rfl) (fun w35 hs36 => ?_)
  refine w_nil ?_
  refine q_then (hK6 _ _ ?_)
  refine w_ret ?_
  refine q_ret (l := [.cell 2 25]) (vs := [_]) rfl ⟨⟨rfl, _, rfl, run_loadVarN (vs := [_, _, _]) Try.isAgg25 Try.sizeOf25 hs36 (ats_own (i := 6) (vs := [_, _, _]) rfl rfl)⟩, trivial⟩ ?_
  exact ⟨exP b17 b32 b20 b23 b26 b29, [_, _, _, _, _, _], rfl, ex_bin, kz_own (B := [_, _, _, _, _, _]) hs36⟩

theorem c22 {w0 w : World} {F : List (Nat × Obj)}  (hs : St w0 w F) :
  Con Try.prog 22 [] w fun v w' => v = .bool true ∧ St w0 w' F := by
  refine con_of_wc (n := 150) Try.func22 rfl rfl (Nat.le_of_ble_eq_true rfl) ?_
  refine w_seq (fun K2 hK1 => ?_)
  refine w_region ?_
  refine w_p (y_assign (v := _) rfl rfl) rfl ?_
  refine w_nil ?_
  refine q_then (hK1 _ _ ?_)
  refine w_seq (fun K4 hK3 => ?_)
  refine w_region ?_
  refine w_call want_none Try.call32 rfl rfl rfl rfl (c32 21 hs) ?_
  rintro _ w6 ⟨p1, L1, rfl, hq1, hs7⟩
  replace hs7 := (show St _ _ (L1 ++ (F)) from hs7)
  refine w_call want_none Try.call32 rfl rfl rfl rfl (c32 30 hs7) ?_
  rintro _ w9 ⟨p2, L2, rfl, hq2, hs10⟩
  replace hs10 := (show St _ _ (L2 ++ (L1 ++ (F))) from hs10)
  refine w_alloc (cs := [_, _, _]) want_none Try.zeroValue25 rfl hs10 (fun b11 w12 hs13 => ?_)
  refine w_alloc (cs := [_, _, _]) want_none Try.zeroValue25 rfl hs13 (fun b14 w15 hs16 => ?_)
  refine w_store (i := 1) (v := .agg #[.int _ _, .slice _ _ _, .slice _ _ _]) (vs := [_, _, _]) want_none Try.sizeOf25 rfl rfl rfl rfl rfl (by simp [Value.oneCell']) hs16 rfl (Nat.le_of_ble_eq_true rfl) (fun w17 hs18 => ?_)
  refine w_store (i := 0) (v := .agg #[.int _ _, .slice _ _ _, .slice _ _ _]) (vs := [_, _, _]) want_none Try.sizeOf25 rfl rfl rfl rfl rfl (by simp [Value.oneCell']) hs18 rfl (Nat.le_of_ble_eq_true rfl) (fun w19 hs20 => ?_)
  refine w_nil ?_
  refine q_then (hK3 _ _ ?_)
  refine w_seq (fun K22 hK21 => ?_)
  obtain ⟨Z, hZ, hsZ⟩ := gen_Z hs20
  have hP1 : Ats w0 Z b11 0 ((exB 21).cells p1) := by rw [hZ]; exact ats_own (i := 1) (vs := (exB 21).cells p1) rfl rfl
  have hM1 : BIn w0 Z (exB 21) p1 := by rw [hZ]; exact BIn.mono hq1 (fun w h => h.tail.tail.drop.front)
  have hP2 : Ats w0 Z b14 0 ((exB 30).cells p2) := by rw [hZ]; exact ats_own (i := 0) (vs := (exB 30).cells p2) rfl rfl
  have hM2 : BIn w0 Z (exB 30) p2 := by rw [hZ]; exact BIn.mono hq2 (fun w h => h.tail.tail.front)
  refine w_region ?_
  refine w_p (y_loadN (vs := [_, _, _]) Try.isAgg25 Try.sizeOf25 hsZ rfl rfl hP1) rfl ?_
  refine w_call want_none Try.call18 rfl rfl rfl rfl ((c18 (exB 21) p1 hM1 0 hsZ).mono (fun v w' h => by rw [ex_went1] at h; exact h)) ?_
  rintro _ w24 ⟨rfl, hs25⟩
  refine w_p (y_move (v := .tuple _) rfl rfl) rfl ?_
  refine w_p (y_extract (v := .agg _) rfl rfl rfl) rfl ?_
  refine w_p (y_extract (v := .int _ _) rfl rfl rfl) rfl ?_
  refine w_alloc (cs := [_, _]) want_none Try.zeroValue31 rfl hs25 (fun b26 w27 hs28 => ?_)
  refine w_store (i := 0) (v := .agg #[.int _ _, .int _ _]) (vs := [_, _]) want_none Try.sizeOf31 rfl rfl rfl rfl rfl (by simp [Value.oneCell']) hs28 rfl (Nat.le_of_ble_eq_true rfl) (fun w29 hs30 => ?_)
  refine w_p (y_assign (v := .int _ _) rfl rfl) rfl ?_
  refine w_nil ?_
  refine q_then (hK21 _ _ ?_)
  refine w_seq (fun K32 hK31 => ?_)
  have hx3 := ats_ofL (i := 0) (vs := [_, _]) hs30 rfl rfl
  refine w_region ?_
  refine w_p (y_loadN (vs := [_, _, _]) Try.isAgg25 Try.sizeOf25 hs30.tail rfl rfl hP1) rfl ?_
  refine w_call want_none Try.call20 rfl rfl rfl rfl ((c20 (exB 21) p1 hM1.cons 0 hs30).mono (fun v w' h => by rw [ex_hold1] at h; exact h)) ?_
  rintro _ w34 ⟨rfl, hs35⟩
  refine w_p (y_move (v := .tuple _) rfl rfl) rfl ?_
  refine w_p (y_extract (v := .agg _) rfl rfl rfl) rfl ?_
  refine w_p (y_extract (v := .int _ _) rfl rfl rfl) rfl ?_
  refine w_alloc (cs := [_, _]) want_none Try.zeroValue31 rfl hs35 (fun b36 w37 hs38 => ?_)
  refine w_store (i := 0) (v := .agg #[.int _ _, .int _ _]) (vs := [_, _]) want_none Try.sizeOf31 rfl rfl rfl rfl rfl (by simp [Value.oneCell']) hs38 rfl (Nat.le_of_ble_eq_true rfl) (fun w39 hs40 => ?_)
  refine w_p (y_assign (v := .int _ _) rfl rfl) rfl ?_
  refine w_nil ?_
  refine q_then (hK31 _ _ ?_)
  refine w_seq (fun K42 hK41 => ?_)
  have hx5 := ats_ofL (i := 0) (vs := [_, _]) hs40 rfl rfl
  refine w_region ?_
  refine w_p (y_loadN (vs := [_, _, _]) Try.isAgg25 Try.sizeOf25 hs40.tail.tail rfl rfl hP1) rfl ?_
  refine w_call want_none Try.call23 rfl rfl rfl rfl ((c23 (exB 21) p1 hM1.cons.cons 0 hs40).mono (fun v w' h => by rw [ex_right1] at h; exact h)) ?_
  rintro _ w44 ⟨rfl, hs45⟩
  refine w_p (y_move (v := .tuple _) rfl rfl) rfl ?_
  refine w_p (y_extract (v := .int _ _) rfl rfl rfl) rfl ?_
  refine w_p (y_extract (v := .int _ _) rfl rfl rfl) rfl ?_
  refine w_p (y_assign (v := .int _ _) rfl rfl) rfl ?_
  refine w_p (y_assign (v := .int _ _) rfl rfl) rfl ?_
  refine w_nil ?_
  refine q_then (hK41 _ _ ?_)
  refine w_seq (fun K47 hK46 => ?_)
  refine w_region ?_
  refine w_p (y_loadN (vs := [_, _, _]) Try.isAgg25 Try.sizeOf25 hs45.tail.tail rfl rfl hP1) rfl ?_
  refine w_call want_none Try.call23 rfl rfl rfl rfl ((c23 (exB 21) p1 hM1.cons.cons 1 hs45).mono (fun v w' h => by rw [ex_right2] at h; exact h)) ?_
  rintro _ w49 ⟨rfl, hs50⟩
  refine w_p (y_move (v := .tuple _) rfl rfl) rfl ?_
  refine w_p (y_extract (v := .int _ _) rfl rfl rfl) rfl ?_
  refine w_p (y_extract (v := .int _ _) rfl rfl rfl) rfl ?_
  refine w_p (y_assign (v := .int _ _) rfl rfl) rfl ?_
  refine w_p (y_assign (v := .int _ _) rfl rfl) rfl ?_
  refine w_nil ?_
  refine q_then (hK46 _ _ ?_)
  refine w_seq (fun K52 hK51 => ?_)
  refine w_region ?_
  refine w_p (y_loadN (vs := [_, _, _]) Try.isAgg25 Try.sizeOf25 hs50.tail.tail rfl rfl hP1) rfl ?_
  refine w_call want_none Try.call25 rfl rfl rfl rfl ((c25 (exB 21) p1 hM1.cons.cons 1 1 hs50).mono (fun v w' h => by rw [ex_zero1] at h; exact h)) ?_
  rintro _ w54 ⟨rfl, hs55⟩
  refine w_p (y_move (v := .tuple _) rfl rfl) rfl ?_
  refine w_p (y_extract (v := .int _ _) rfl rfl rfl) rfl ?_
  refine w_p (y_extract (v := .int _ _) rfl rfl rfl) rfl ?_
  refine w_p (y_assign (v := .int _ _) rfl rfl) rfl ?_
  refine w_p (y_assign (v := .int _ _) rfl rfl) rfl ?_
  refine w_nil ?_
  refine q_then (hK51 _ _ ?_)
  refine w_seq (fun K57 hK56 => ?_)
  refine w_region ?_
  refine w_p (y_loadN (vs := [_, _, _]) Try.isAgg25 Try.sizeOf25 hs55.tail.tail rfl rfl hP1) rfl ?_
  refine w_call want_none Try.call27 rfl rfl rfl rfl ((c27 (exB 21) p1 hM1.cons.cons 0 0 hs55).mono (fun v w' h => by rw [ex_looks1] at h; exact h)) ?_
  rintro _ w59 ⟨B1, a1, c1, rfl, hr1, hs60⟩
  replace hs60 := (show St _ _ (B1 ++ (_ :: _ :: Z)) from hs60)
  refine w_p (y_move (v := .tuple _) rfl rfl) rfl ?_
  refine w_p (y_extract (v := .slice _ _ _) rfl rfl rfl) rfl ?_
  refine w_p (y_extract (v := .int _ _) rfl rfl rfl) rfl ?_
  refine w_p (y_assign (v := .slice _ _ _) rfl rfl) rfl ?_
  refine w_p (y_assign (v := .int _ _) rfl rfl) rfl ?_
  refine w_nil ?_
  refine q_then (hK56 _ _ ?_)
  refine w_seq (fun K62 hK61 => ?_)
  refine w_region ?_
  refine w_p (y_loadN (vs := [_, _, _]) Try.isAgg25 Try.sizeOf25 hs60.drop.tail.tail rfl rfl hP1) rfl ?_
  refine w_call want_none Try.call27 rfl rfl rfl rfl ((c27 (exB 21) p1 hM1.cons.cons.app 0 1 hs60).mono (fun v w' h => by rw [ex_looks2] at h; exact h)) ?_
  rintro _ w64 ⟨B2, a2, c2, rfl, hr2, hs65⟩
  replace hs65 := (show St _ _ (B2 ++ (B1 ++ (_ :: _ :: Z))) from hs65)
  refine w_p (y_move (v := .tuple _) rfl rfl) rfl ?_
  refine w_p (y_extract (v := .slice _ _ _) rfl rfl rfl) rfl ?_
  refine w_p (y_extract (v := .int _ _) rfl rfl rfl) rfl ?_
  refine w_p (y_assign (v := .slice _ _ _) rfl rfl) rfl ?_
  refine w_p (y_assign (v := .int _ _) rfl rfl) rfl ?_
  refine w_nil ?_
  refine q_then (hK61 _ _ ?_)
  refine w_seq (fun K67 hK66 => ?_)
  refine w_region ?_
  refine w_p (y_loadN (vs := [_, _, _]) Try.isAgg25 Try.sizeOf25 hs65.drop.drop.tail.tail rfl rfl hP2) rfl ?_
  refine w_call want_none Try.call30 rfl rfl rfl rfl ((c30 (exB 30) p2 hM2.cons.cons.app.app hs65).mono (fun v w' h => by rw [ex_wrong1] at h; exact h)) ?_
  rintro _ w69 ⟨B3, a3, c3, rfl, hr3, hs70⟩
  replace hs70 := (show St _ _ (B3 ++ (B2 ++ (B1 ++ (_ :: _ :: Z)))) from hs70)
  refine w_p (y_move (v := .tuple _) rfl rfl) rfl ?_
  refine w_p (y_extract (v := .slice _ _ _) rfl rfl rfl) rfl ?_
  refine w_p (y_extract (v := .int _ _) rfl rfl rfl) rfl ?_
  refine w_p (y_assign (v := .slice _ _ _) rfl rfl) rfl ?_
  refine w_p (y_assign (v := .int _ _) rfl rfl) rfl ?_
  refine w_nil ?_
  refine q_then (hK66 _ _ ?_)
  refine w_seq (fun K72 hK71 => ?_)
  refine w_region ?_
  refine w_p (y_loadN (vs := [_, _, _]) Try.isAgg25 Try.sizeOf25 hs70.drop.drop.drop.tail.tail rfl rfl hP2) rfl ?_
  refine w_call want_none Try.call18 rfl rfl rfl rfl ((c18 (exB 30) p2 hM2.cons.cons.app.app.app 0 hs70).mono (fun v w' h => by rw [ex_went2] at h; exact h)) ?_
  rintro _ w74 ⟨rfl, hs75⟩
  refine w_p (y_move (v := .tuple _) rfl rfl) rfl ?_
  refine w_p (y_extract (v := .agg _) rfl rfl rfl) rfl ?_
  refine w_p (y_extract (v := .int _ _) rfl rfl rfl) rfl ?_
  refine w_alloc (cs := [_, _]) want_none Try.zeroValue31 rfl hs75 (fun b76 w77 hs78 => ?_)
  refine w_store (i := 0) (v := .agg #[.int _ _, .int _ _]) (vs := [_, _]) want_none Try.sizeOf31 rfl rfl rfl rfl rfl (by simp [Value.oneCell']) hs78 rfl (Nat.le_of_ble_eq_true rfl) (fun w79 hs80 => ?_)
  refine w_p (y_assign (v := .int _ _) rfl rfl) rfl ?_
  refine w_nil ?_
  refine q_then (hK71 _ _ ?_)
  refine w_seq (fun K82 hK81 => ?_)
  refine w_region ?_
  refine w_p (y_loadN (vs := [_, _, _]) Try.isAgg25 Try.sizeOf25 hs80.tail.drop.drop.drop.tail.tail rfl rfl hP1) rfl ?_
  refine w_call want_none Try.call27 rfl rfl rfl rfl ((c27 (exB 21) p1 hM1.cons.cons.app.app.app.cons 0 (-1) hs80).mono (fun v w' h => by rw [ex_looks3] at h; exact h)) ?_
  rintro _ w84 ⟨B4, a4, c4, rfl, hr4, hs85⟩
  replace hs85 := (show St _ _ (B4 ++ (_ :: B3 ++ (B2 ++ (B1 ++ (_ :: _ :: Z))))) from hs85)
  refine w_p (y_move (v := .tuple _) rfl rfl) rfl ?_
  refine w_p (y_extract (v := .slice _ _ _) rfl rfl rfl) rfl ?_
  refine w_p (y_extract (v := .int _ _) rfl rfl rfl) rfl ?_
  refine w_p (y_assign (v := .slice _ _ _) rfl rfl) rfl ?_
  refine w_p (y_assign (v := .int _ _) rfl rfl) rfl ?_
  refine w_nil ?_
  refine q_then (hK81 _ _ ?_)
  refine w_seq (fun K87 hK86 => ?_)
  refine w_draw [] [(0, 0), (1, 0), (2, 0), (3, 0), (4, 0), (5, 0), (6, 0), (7, 0), (8, 0), (9, 0), (10, 0), (11, 0), (12, 0), (13, 0), (14, 0), (15, 0), (16, 0), (17, 0), (18, 0), (19, 0), (20, 0), (21, 0), (22, 0), (23, 0), (24, 0), (25, 0), (26, 0), (27, 0), (28, 0), (29, 0), (30, 0), (31, 0), (32, 0), (33, 0), (34, 0), (35, 0), (36, 0), (37, 0), (38, 0), (39, 1), (40, 2), (41, 0), (42, 0), (43, 0), (44, 1), (45, 2), (46, 0), (47, 0), (48, 0), (49, 0), (50, 0), (51, 0), (52, 0), (53, 0), (54, 0), (55, 0), (56, 0), (57, 0), (58, 0), (59, 0), (60, 0), (61, 0), (62, 2), (63, 2), (64, 0), (65, 0), (66, 0), (67, 0), (68, 0), (69, 0), (70, 0), (71, 0), (72, 2), (73, 2), (74, 0), (75, 0)] Try_mo (drawOK_of (by kernel_rfl)) hs85 (fun w88 hs89 => ?_)
  refine d_any rfl want_none rfl (fun _ => (y_move (v := .int _ _) rfl rfl)) ?_
  refine d_any rfl want_none rfl (fun _ => (y_eql rfl rfl rfl rfl)) ?_
  refine d_any rfl want_none rfl (fun _ => (y_move (v := .bool _) rfl rfl)) ?_
  refine d_any rfl (want_yes rfl rfl rfl) rfl (fun _ => (y_move (v := .int _ _) rfl rfl)) ?_
  refine d_any rfl (want_yes rfl rfl rfl) rfl (fun _ => (y_eql rfl rfl rfl rfl)) ?_
  refine d_any rfl want_none rfl (fun _ => (y_pickT (v := .bool _) rfl rfl rfl rfl)) ?_
  refine d_any rfl want_none rfl (fun _ => (y_move (v := .bool _) rfl rfl)) ?_
  refine d_any rfl (want_yes rfl rfl rfl) rfl (fun _ => (y_move (v := .int _ _) rfl rfl)) ?_
  refine d_any rfl (want_yes rfl rfl rfl) rfl (fun _ => (y_eql rfl rfl rfl rfl)) ?_
  refine d_any rfl want_none rfl (fun _ => (y_pickT (v := .bool _) rfl rfl rfl rfl)) ?_
  refine d_any rfl want_none rfl (fun _ => (y_move (v := .bool _) rfl rfl)) ?_
  refine d_any rfl (want_yes rfl rfl rfl) rfl (fun _ => (y_move (v := .int _ _) rfl rfl)) ?_
  refine d_any rfl (want_yes rfl rfl rfl) rfl (fun _ => (y_eql rfl rfl rfl rfl)) ?_
  refine d_any rfl want_none rfl (fun _ => (y_pickT (v := .bool _) rfl rfl rfl rfl)) ?_
  refine d_any rfl want_none rfl (fun _ => (y_move (v := .bool _) rfl rfl)) ?_
  refine d_any rfl (want_yes rfl rfl rfl) rfl (fun _ => (y_move (v := .int _ _) rfl rfl)) ?_
  refine d_any rfl (want_yes rfl rfl rfl) rfl (fun _ => (y_eql rfl rfl rfl rfl)) ?_
  refine d_any rfl want_none rfl (fun _ => (y_pickT (v := .bool _) rfl rfl rfl rfl)) ?_
  refine d_any rfl want_none rfl (fun _ => (y_move (v := .bool _) rfl rfl)) ?_
  refine d_any rfl (want_yes rfl rfl rfl) rfl (fun _ => (y_move (v := .int _ _) rfl rfl)) ?_
  refine d_any rfl (want_yes rfl rfl rfl) rfl (fun _ => (y_eql rfl rfl rfl rfl)) ?_
  refine d_any rfl want_none rfl (fun _ => (y_pickT (v := .bool _) rfl rfl rfl rfl)) ?_
  refine d_any rfl want_none rfl (fun _ => (y_move (v := .bool _) rfl rfl)) ?_
  refine d_any rfl (want_yes rfl rfl rfl) rfl (fun _ => (y_move (v := .int _ _) rfl rfl)) ?_
  refine d_any rfl (want_yes rfl rfl rfl) rfl (fun _ => (y_eql rfl rfl rfl rfl)) ?_
  refine d_any rfl want_none rfl (fun _ => (y_pickT (v := .bool _) rfl rfl rfl rfl)) ?_
  refine d_any rfl want_none rfl (fun _ => (y_move (v := .bool _) rfl rfl)) ?_
  refine d_any rfl (want_yes rfl rfl rfl) rfl (fun _ => (y_move (v := .int _ _) rfl rfl)) ?_
  refine d_any rfl (want_yes rfl rfl rfl) rfl (fun _ => (y_eql rfl rfl rfl rfl)) ?_
  refine d_any rfl want_none rfl (fun _ => (y_pickT (v := .bool _) rfl rfl rfl rfl)) ?_
  refine d_any rfl want_none rfl (fun _ => (y_move (v := .bool _) rfl rfl)) ?_
  refine d_any rfl (want_yes rfl rfl rfl) rfl (fun _ => (y_move (v := .int _ _) rfl rfl)) ?_
  refine d_any rfl (want_yes rfl rfl rfl) rfl (fun _ => (y_eql rfl rfl rfl rfl)) ?_
  refine d_any rfl want_none rfl (fun _ => (y_pickT (v := .bool _) rfl rfl rfl rfl)) ?_
  refine d_any rfl want_none rfl (fun _ => (y_move (v := .bool _) rfl rfl)) ?_
  refine d_any rfl (want_yes rfl rfl rfl) rfl (fun _ => (y_move (v := .int _ _) rfl rfl)) ?_
  refine d_any rfl (want_yes rfl rfl rfl) rfl (fun _ => (y_eql rfl rfl rfl rfl)) ?_
  refine d_any rfl want_none rfl (fun _ => (y_pickT (v := .bool _) rfl rfl rfl rfl)) ?_
  refine d_any rfl want_none rfl (fun _ => (y_move (v := .bool _) rfl rfl)) ?_
  refine d_take rfl (want_yes rfl rfl rfl) rfl hs89 (fun _ hq => (y_loadN (vs := [_, _]) Try.isAgg31 Try.sizeOf31 hq.drop.tail.drop.drop.drop.tail rfl rfl hx3)) ?_
  refine d_eff rfl ?_
  refine w_call (want_yes rfl rfl rfl) Try.call33 rfl rfl rfl rfl (c33 _ _ hs89) ?_
  rintro _ w91 ⟨rfl, hs92⟩
  refine w_nil ?_
  refine qn ⟨hs92, ?_⟩
  refine d_any rfl (want_yes rfl rfl rfl) rfl (fun _ => (y_eqFlat (l := [_, _]) (m := [_, _]) Try.eqGuardType31 Try_flat31 (by first | omega | rfl | (simp only [List.length_map, List.length_set, List.length_append, List.length_take, List.length_drop, List.length_replicate, List.length_cons, List.length_nil] <;> omega)) (by first | omega | rfl | (simp only [List.length_map, List.length_set, List.length_append, List.length_take, List.length_drop, List.length_replicate, List.length_cons, List.length_nil] <;> omega)) rfl rfl rfl rfl rfl rfl)) ?_
  refine d_any rfl want_none rfl (fun _ => (y_pickT (v := .bool _) rfl rfl rfl rfl)) ?_
  refine d_any rfl want_none rfl (fun _ => (y_move (v := .bool _) rfl rfl)) ?_
  refine d_split (fun h93 => ?_) (fun h93 => ?_)
  ·
   try simp only [zA, zB, zC, zD, zE, zF] at h93
   refine d_take rfl (want_yes rfl rfl rfl) rfl hs92 (fun _ hq => (y_loadN (vs := [_, _]) Try.isAgg31 Try.sizeOf31 hq.drop.tail.drop.drop.drop rfl rfl hx5)) ?_
   refine d_eff rfl ?_
   refine w_call (want_yes rfl rfl rfl) Try.call33 rfl rfl rfl rfl (c33 _ _ hs92) ?_
   rintro _ w95 ⟨rfl, hs96⟩
   refine w_nil ?_
   refine qn ⟨hs96, ?_⟩
   refine d_any rfl (want_yes rfl rfl rfl) rfl (fun _ => (y_eqFlat (l := [_, _]) (m := [_, _]) Try.eqGuardType31 Try_flat31 (by first | omega | rfl | (simp only [List.length_map, List.length_set, List.length_append, List.length_take, List.length_drop, List.length_replicate, List.length_cons, List.length_nil] <;> omega)) (by first | omega | rfl | (simp only [List.length_map, List.length_set, List.length_append, List.length_take, List.length_drop, List.length_replicate, List.length_cons, List.length_nil] <;> omega)) rfl rfl rfl rfl rfl rfl)) ?_
   refine d_any rfl want_none rfl (fun _ => (y_pickT (v := .bool _) rfl rfl rfl rfl)) ?_
   refine d_any rfl want_none rfl (fun _ => (y_move (v := .bool _) rfl rfl)) ?_
   refine d_split (fun h97 => ?_) (fun h97 => ?_)
   ·
    try simp only [zA, zB, zC, zD, zE, zF] at h97
    refine d_any rfl (want_yes rfl rfl rfl) rfl (fun _ => (y_move (v := .int _ _) rfl rfl)) ?_
    refine d_any rfl (want_yes rfl rfl rfl) rfl (fun _ => (y_eql rfl rfl rfl rfl)) ?_
    refine d_any rfl want_none rfl (fun _ => (y_pickT (v := .bool _) rfl rfl rfl rfl)) ?_
    refine d_any rfl want_none rfl (fun _ => (y_move (v := .bool _) rfl rfl)) ?_
    refine d_any rfl (want_yes rfl rfl rfl) rfl (fun _ => (y_move (v := .int _ _) rfl rfl)) ?_
    refine d_any rfl (want_yes rfl rfl rfl) rfl (fun _ => (y_eql rfl rfl rfl rfl)) ?_
    refine d_any rfl want_none rfl (fun _ => (y_pickT (v := .bool _) rfl rfl rfl rfl)) ?_
    refine d_any rfl want_none rfl (fun _ => (y_move (v := .bool _) rfl rfl)) ?_
    refine d_any rfl (want_yes rfl rfl rfl) rfl (fun _ => (y_move (v := .int _ _) rfl rfl)) ?_
    refine d_any rfl (want_yes rfl rfl rfl) rfl (fun _ => (y_eql rfl rfl rfl rfl)) ?_
    refine d_any rfl want_none rfl (fun _ => (y_pickT (v := .bool _) rfl rfl rfl rfl)) ?_
    refine d_any rfl want_none rfl (fun _ => (y_move (v := .bool _) rfl rfl)) ?_
    refine d_any rfl (want_yes rfl rfl rfl) rfl (fun _ => (y_move (v := .slice _ _ _) rfl rfl)) ?_
    refine d_eff rfl ?_
    refine w_bslice (ps := [(0, _)]) (pv := [(0, .int _ _)]) (cs := [_]) (want_yes rfl rfl rfl) rfl rfl (fun w => Try_Ya_fb17 _ w) hs96 (fun b98 w99 hs100 => ?_)
    refine w_nil ?_
    refine qn ⟨hs100.tail, ?_⟩
    refine d_eff rfl ?_
    refine w_call (want_yes rfl rfl rfl) Try.call29 rfl rfl rfl rfl (con_true (c29 _ _ [0] [0] _ _ (by decide) hr1.top.app.app.cons.app.cons (sl_own (i := 0) (rows := [[_]]) rfl (by simp) rfl) hs100) (by decide)) ?_
    rintro _ w102 ⟨rfl, hs103⟩
    refine w_nil ?_
    refine qn ⟨hs103.tail, ?_⟩
    refine d_any rfl want_none rfl (fun _ => (y_pickT (v := .bool _) rfl rfl rfl rfl)) ?_
    refine d_any rfl want_none rfl (fun _ => (y_move (v := .bool _) rfl rfl)) ?_
    refine d_any rfl (want_yes rfl rfl rfl) rfl (fun _ => (y_move (v := .slice _ _ _) rfl rfl)) ?_
    refine d_any rfl (want_yes rfl rfl rfl) rfl (fun _ => (y_lenS Try.underlying39 rfl rfl)) ?_
    refine d_any rfl (want_yes rfl rfl rfl) rfl (fun _ => (y_eql rfl rfl rfl rfl)) ?_
    refine d_any rfl want_none rfl (fun _ => (y_pickT (v := .bool _) rfl rfl rfl rfl)) ?_
    refine d_any rfl want_none rfl (fun _ => (y_move (v := .bool _) rfl rfl)) ?_
    refine d_split (fun h104 => ?_) (fun h104 => ?_)
    ·
     try simp only [zA, zB, zC, zD, zE, zF] at h104
     refine d_any rfl (want_yes rfl rfl rfl) rfl (fun _ => (y_move (v := .slice _ _ _) rfl rfl)) ?_
     refine d_eff rfl ?_
     refine w_bslice (ps := [(0, _)]) (pv := [(0, .int _ _)]) (cs := [_]) (want_yes rfl rfl rfl) rfl rfl (fun w => Try_Ya_fb17 _ w) hs103 (fun b105 w106 hs107 => ?_)
     refine w_nil ?_
     refine qn ⟨hs107.tail.tail, ?_⟩
     refine d_eff rfl ?_
     refine w_call (want_yes rfl rfl rfl) Try.call29 rfl rfl rfl rfl (con_true (c29 _ _ [5] [5] _ _ (by decide) hr3.top.cons.app.cons.cons (sl_own (i := 0) (rows := [[_]]) rfl (by simp) rfl) hs107) (by decide)) ?_
     rintro _ w109 ⟨rfl, hs110⟩
     refine w_nil ?_
     refine qn ⟨hs110.tail.tail, ?_⟩
     refine d_any rfl want_none rfl (fun _ => (y_pickT (v := .bool _) rfl rfl rfl rfl)) ?_
     refine d_any rfl want_none rfl (fun _ => (y_assign (v := .bool _) rfl rfl)) ?_
     refine d_nil ?_
     refine q_then (hK86 _ _ ?_)
     refine w_ret ?_
     refine q_ret (l := [.tmp 0]) (vs := [_]) rfl ⟨⟨rfl, show _ = (.bool _ : Value) from rfl⟩, trivial⟩ ?_
     exact ⟨rfl, (St.cast hZ hs110.tail.tail.drop.tail.drop.drop.drop.tail.tail).tail.tail.drop.drop⟩
    ·
     exfalso; simp at h104
   ·
    exfalso; simp at h97
  ·
   exfalso; simp at h93

end Go.Proofs
