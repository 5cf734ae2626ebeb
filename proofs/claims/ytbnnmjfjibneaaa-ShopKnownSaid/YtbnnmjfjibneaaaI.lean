/- Walks of this seat, printed by gen.py over the engine: what each function returns, in whatever world. No conditions but those of each contract. -/
import Derived.Test.YtbnnmjfjibneaaaH
set_option linter.unusedVariables false
set_option linter.unusedSimpArgs false
set_option maxRecDepth 20000
namespace Go.Proofs
open Go.Rt Go.Rt.Sh
attribute [local irreducible] WL WC Con Yd At Ats Sl Agree DW
theorem Try_I_fb2 (x0 : Int) (w : World) : (Instr.buildSlice 30 1 [(0, .int .i64 x0)].toArray).run Try.prog w = .ok (.slice (some ⟨w.heap.size, 0, none⟩) 1 1) (w.alloc (Go.Rt.blk 3 [.int .i64 x0])) := by kernel_rfl
theorem moreP_1 {m : Market} {r : Int} (h : enterE m m.rooms.length [r] ≠ 0) : moreP m r = (0, enterE m m.rooms.length [r]) := by unfold moreP; rw [if_pos h]
theorem moreP_2 {m : Market} {r : Int} {n : Nat} (h : enterE m m.rooms.length [r] = 0) (h2 : moreTo m r.toNat 0 61 = some n) : moreP m r = ((n : Int), 0) := by unfold moreP; rw [if_neg (by simp [h]), h2]
theorem moreP_3 {m : Market} {r : Int} (h : enterE m m.rooms.length [r] = 0) (h2 : moreTo m r.toNat 0 61 = none) : moreP m r = (0, 9) := by unfold moreP; rw [if_neg (by simp [h]), h2]
theorem more_here {m : Market} {r i k : Nat} (hk : k = 61 - i) (hi : i < 61) (h : servedS m (moreX m r i) (1 <<< m.shops.length - 1) = true) : moreTo m r i k = some i := by
  obtain ⟨q, rfl⟩ : ∃ q, k = q + 1 := ⟨k - 1, by omega⟩
  exact moreTo_yes h
theorem more_on {m : Market} {r i : Nat} (hi : i < 61) (h : servedS m (moreX m r i) (1 <<< m.shops.length - 1) = false) : moreTo m r i (61 - i) = moreTo m r (i + 1) (61 - (i + 1)) := by
  rw [show 61 - i = (61 - (i + 1)) + 1 by omega]; exact moreTo_no h
theorem more_end {m : Market} {r i : Nat} (hi : 61 ≤ i) : moreTo m r i (61 - i) = none := by rw [show 61 - i = 0 by omega]; rfl
theorem c30 {w0 w : World} {F : List (Nat × Obj)} (m : Market) (p : At3) (hm : MIn w0 F m p) (r : Int) (hs : St w0 w F) :
  Con Try.prog 30 [.agg (m.cells p).toArray, .int .i64 r] w fun v w' => v = .tuple #[.int .i64 (moreP m r).1, .int .i64 (moreP m r).2] ∧ St w0 w' F := by
  refine con_of_wc (n := 45) Try.func30 rfl rfl (Nat.le_of_ble_eq_true rfl) ?_
  have hlr := hm.lr
  refine w_seq (fun K2 hK1 => ?_)
  refine w_region ?_
  refine w_box (v := .agg #[.slice _ _ _, .slice _ _ _, .slice _ _ _]) (cs := [_, _, _]) want_none rfl rfl rfl hs (fun b3 w4 hs5 => ?_)
  refine w_pure want_none (y_assign (v := _) rfl rfl) rfl ?_
  refine w_pure want_none (y_assign (v := _) rfl rfl) rfl ?_
  refine w_nil ?_
  refine q_then (hK1 _ _ ?_)
  refine w_seq (fun K7 hK6 => ?_)
  refine w_region ?_
  refine w_pure want_none (y_loadN (vs := [_, _, _]) Try.isAgg26 Try.sizeOf26 hs5 rfl rfl (ats_own (i := 0) (vs := [_, _, _]) rfl rfl)) rfl ?_
  refine w_pure want_none (y_fieldAddr (o := 0) (i := 0) Try.underlying26 rfl Try.sizeOf22 rfl rfl rfl) rfl ?_
  refine w_pure want_none (y_load1 Try.isAgg22 hs5 rfl rfl (ats_own (i := 0) (vs := [_]) rfl rfl)) rfl ?_
  refine w_pure want_none (y_lenS Try.underlying22 rfl rfl) rfl ?_
  refine w_pure want_none (y_move (v := .int _ _) rfl rfl) rfl ?_
  refine w_bslice (ps := [(0, _)]) (pv := [(0, .int _ _)]) (cs := [_]) want_none rfl rfl (fun w => Try_I_fb2 _ w) hs5 (fun b8 w9 hs10 => ?_)
  refine w_call want_none Try.call64 rfl rfl rfl rfl (c64 m p hm.cons.cons _ (by omega) (by omega) _ _ [r] (by simp) (sl_own (i := 0) (rows := [[_]]) rfl (by simp) rfl) hs10) ?_
  rintro _ w12 (⟨hee, rfl, hs13⟩ | ⟨hee, mb, mm, M, rfl, hM, hs13⟩)
  ·
    refine w_pure want_none (y_move (v := .tuple _) rfl rfl) rfl ?_
    refine w_pure want_none (y_extract (v := .pointer _) rfl rfl rfl) rfl ?_
    refine w_pure want_none (y_extract (v := .int _ _) rfl rfl rfl) rfl ?_
    refine w_pure want_none (y_assign (v := .pointer _) rfl rfl) rfl ?_
    refine w_pure want_none (y_assign (v := .int _ _) rfl rfl) rfl ?_
    refine w_nil ?_
    refine q_then (hK6 _ _ ?_)
    refine w_seq (fun K15 hK14 => ?_)
    refine w_seq (fun K17 hK16 => ?_)
    refine w_region ?_
    refine w_pure want_none (y_move (v := .int _ _) rfl rfl) rfl ?_
    refine w_pure want_none (y_neq rfl rfl rfl rfl) rfl ?_
    refine w_nil ?_
    refine q_then (hK16 _ _ ?_)
    refine w_cond rfl rfl (fun h18 => ?_) (fun h18 => ?_)
    ·
      try simp only [Bool.not_eq_true', Bool.not_eq_false', decide_eq_true_eq, decide_eq_false_iff_not, Int.not_lt, Int.not_le] at h18
      refine w_seq (fun K20 hK19 => ?_)
      refine w_region ?_
      refine w_pure want_none (y_move (v := .int _ _) rfl rfl) rfl ?_
      refine w_pure want_none (y_assign (v := _) rfl rfl) rfl ?_
      refine w_pure want_none (y_assign (v := .int _ _) rfl rfl) rfl ?_
      refine w_nil ?_
      refine q_then (hK19 _ _ ?_)
      refine w_ret ?_
      refine q_then_ret ?_
      refine q_ret (l := [.tmp 4, .tmp 5]) (vs := [_, _]) rfl ⟨⟨rfl, show _ = (.int _ _ : Value) from rfl⟩, ⟨rfl, show _ = (.int _ _ : Value) from rfl⟩, trivial⟩ ?_
      exact ⟨by rw [moreP_1 hee]; rfl, hs13.tail.tail⟩
    ·
      exfalso
      try simp only [Bool.not_eq_true', Bool.not_eq_false', decide_eq_true_eq, decide_eq_false_iff_not, Int.not_lt, Int.not_le] at h18
      first | exact hee h18 | exact h18 hee
  ·
    replace hs13 := (show St _ _ (M ++ (_ :: _ :: _ :: F)) from hs13)
    have hk : MK w0 ((mb, blk 122 [.slice p.ar m.rooms.length p.cr, .slice p.as m.shops.length p.cs, .slice p.at_ m.trains.length p.ct, .map (some mm)]) :: (b8, blk 3 [.int .i64 r]) :: (b3, blk 26 (m.cells p)) :: F) m p mb mm := ⟨hm.cons.cons.cons, ats_own (i := 0) (vs := [_, _, _, _]) rfl rfl, check_ok (enter_chk hee)⟩
    have hlr := hk.ok.lr
    have hls := hk.ok.ls
    have hlt := hk.ok.lt
    have hbx : Ats w0 ((b3, blk 26 (m.cells p)) :: F) b3 0 (m.cells p) := ats_own (i := 0) rfl rfl
    refine w_pure want_none (y_move (v := .tuple _) rfl rfl) rfl ?_
    refine w_pure want_none (y_extract (v := .pointer _) rfl rfl rfl) rfl ?_
    refine w_pure want_none (y_extract (v := .int _ _) rfl rfl rfl) rfl ?_
    refine w_pure want_none (y_assign (v := .pointer _) rfl rfl) rfl ?_
    refine w_pure want_none (y_assign (v := .int _ _) rfl rfl) rfl ?_
    refine w_nil ?_
    refine q_then (hK6 _ _ ?_)
    refine w_seq (fun K22 hK21 => ?_)
    refine w_seq (fun K24 hK23 => ?_)
    refine w_region ?_
    refine w_pure want_none (y_move (v := .int _ _) rfl rfl) rfl ?_
    refine w_pure want_none (y_neq rfl rfl rfl rfl) rfl ?_
    refine w_nil ?_
    refine q_then (hK23 _ _ ?_)
    refine w_condF rfl rfl ?_
    refine w_skip ?_
    refine q_then (hK21 _ _ ?_)
    refine w_seq (fun K26 hK25 => ?_)
    refine w_region ?_
    refine w_pure want_none (y_move (v := .pointer _) rfl rfl) rfl ?_
    refine w_call want_none Try.call68 rfl rfl rfl rfl (c68 m p mb mm hk.app _ hs13) ?_
    rintro _ w28 ⟨rfl, hs29⟩
    refine w_alloc (cs := iv [0, 0, 0, 0, 0, 0, 0, 0]) want_none Try.zeroValue93 rfl hs29 (fun b30 w31 hs32 => ?_)
    refine w_storeI (i := 0) (l := _) want_none Try.sizeOf93 (by first | omega | rfl | (simp only [allX_len, moreX_len, List.length_map, List.length_set, List.length_append, List.length_take, List.length_drop, List.length_replicate, List.length_cons, List.length_nil] <;> omega)) rfl rfl rfl rfl rfl hs32 rfl (by first | omega | rfl | (simp only [allX_len, moreX_len, List.length_map, List.length_set, List.length_append, List.length_take, List.length_drop, List.length_replicate, List.length_cons, List.length_nil] <;> omega)) (fun w33 hs34 => ?_)
    refine w_nil ?_
    refine q_then (hK25 _ _ ?_)
    refine w_seq (fun K36 hK35 => ?_)
    refine w_seq (fun K38 hK37 => ?_)
    have hrr := (enterE_ok hee).2 r (.head _)
    have hsa := shl_all hls
    refine w_region ?_
    refine w_pure want_none (y_move (v := _) rfl rfl) rfl ?_
    refine w_nil ?_
    refine q_then (hK37 _ _ ?_)
    refine w_block ?_
    refine w_loop [4, 5, 9, 25, 26, 27, 28, 29, 30, 31, 32, 33, 34, 35, 36, 37, 38, 39, 40, 41, 42, 43, 44] [25] (fun k vs w => ∃ (i : Nat) (Mq : List (Nat × Obj)), vs = [.int .i64 i] ∧ i ≤ 61 ∧ k = 61 - i ∧ Memo m mm Mq ∧ moreTo m r.toNat 0 61 = moreTo m r.toNat i (61 - i) ∧ St w0 w ((b30, blk 93 (iv (moreX m r.toNat i))) :: (Mq ++ ((mb, blk 122 [.slice p.ar m.rooms.length p.cr, .slice p.as m.shops.length p.cs, .slice p.at_ m.trains.length p.ct, .map (some mm)]) :: (b8, blk 3 [.int .i64 r]) :: (b3, blk 26 (m.cells p)) :: F)))) (61) ?_ ?_
    ·
      exact ⟨0, M, rfl, by omega, by omega, hM, rfl, by rw [moreX_zero]; exact hs34⟩
    ·
      intro k vs μ w41 hI K40 hN39
      obtain ⟨i, Mq, rfl, hia, rfl, hMq, hmo, hs⟩ := hI
      refine w_seq (fun K43 hK42 => ?_)
      refine w_region ?_
      refine w_pure want_none (y_lss rfl rfl rfl rfl) rfl ?_
      refine w_nil ?_
      refine q_then (hK42 _ _ ?_)
      refine w_seq (fun K45 hK44 => ?_)
      refine w_cond rfl rfl (fun h46 => ?_) (fun h46 => ?_)
      ·
        try simp only [Bool.not_eq_true', Bool.not_eq_false', decide_eq_true_eq, decide_eq_false_iff_not, Int.not_lt, Int.not_le] at h46
        refine w_skip ?_
        refine q_then (hK44 _ _ ?_)
        refine w_seq (fun K48 hK47 => ?_)
        refine w_block ?_
        refine w_seq (fun K50 hK49 => ?_)
        refine w_region ?_
        refine w_pure want_none (y_move (v := .int _ _) rfl rfl) rfl ?_
        refine w_pure want_none (y_assign (v := .int _ _) rfl rfl) rfl ?_
        refine w_nil ?_
        refine q_then (hK49 _ _ ?_)
        refine w_seq (fun K52 hK51 => ?_)
        refine w_seq (fun K54 hK53 => ?_)
        refine w_draw [7] [(0, 0), (1, 1), (2, 0), (3, 1), (4, 0), (5, 0), (6, 0), (7, 3)] Try_mo (by kernel_rfl) hs (fun w55 hs56 => ?_)
        refine d_any rfl want_none rfl (fun _ => (y_move (v := .pointer _) rfl rfl)) ?_
        refine d_take rfl want_none rfl hs56 (fun _ hq => (y_loadI (i := 0) Try.isAgg93 Try.sizeOf93 (by first | omega | rfl | (simp only [allX_len, moreX_len, List.length_map, List.length_set, List.length_append, List.length_take, List.length_drop, List.length_replicate, List.length_cons, List.length_nil] <;> omega)) hq rfl rfl rfl)) ?_
        refine d_any rfl want_none rfl (fun _ => (y_fieldAddr (o := 1) (i := 1) Try.underlying26 rfl Try.sizeOf23 rfl rfl rfl)) ?_
        refine d_take rfl want_none rfl hs56 (fun _ hq => (y_load1 Try.isAgg23 hq.tail.drop.tail.tail rfl rfl (show Ats _ _ _ _ [_] from Ats.part hbx 1 1))) ?_
        refine d_any rfl want_none rfl (fun _ => (y_lenS Try.underlying23 rfl rfl)) ?_
        refine d_any rfl want_none rfl (fun _ => (y_shl (x := 1) (y := _) rfl rfl rfl rfl rfl rfl (by first | omega | exact shr_lt (by omega)) (by first | omega | exact shr_lt (by omega)))) ?_
        refine d_any rfl want_none rfl (fun _ => (yd_cast (z' := ((1 <<< m.shops.length - 1 : Nat) : Int)) (by omega) (y_sub rfl rfl rfl rfl (by omega) (by omega)))) ?_
        refine d_late rfl ?_
        refine w_call want_none Try.call67 rfl rfl rfl rfl (c67 (X := (_ :: [])) m p mb mm hk _ (moreX_small hk.ok _ i (by omega)) _ hMq hs56) ?_
        rintro _ w58 ⟨rfl, M60, hM60, hs59⟩
        replace hs59 := (show St _ _ (_ :: M60 ++ (_ :: _ :: _ :: F)) from hs59)
        refine w_nil ?_
        refine qn ?_
        refine d_nil ?_
        refine q_then (hK53 _ _ ?_)
        refine w_cond rfl rfl (fun h62 => ?_) (fun h62 => ?_)
        ·
          try simp only [Bool.not_eq_true', Bool.not_eq_false', decide_eq_true_eq, decide_eq_false_iff_not, Int.not_lt, Int.not_le] at h62
          refine w_seq (fun K64 hK63 => ?_)
          refine w_region ?_
          refine w_pure want_none (y_move (v := .int _ _) rfl rfl) rfl ?_
          refine w_pure want_none (y_assign (v := .int _ _) rfl rfl) rfl ?_
          refine w_pure want_none (y_assign (v := _) rfl rfl) rfl ?_
          refine w_nil ?_
          refine q_then (hK63 _ _ ?_)
          refine w_ret ?_
          refine q_then_ret ?_
          refine q_blk_ret ?_
          refine q_then_ret ?_
          refine q_then_ret ?_
          refine q_blk_ret ?_
          refine q_then_ret ?_
          refine q_ret (l := [.tmp 4, .tmp 5]) (vs := [_, _]) rfl ⟨⟨rfl, show _ = (.int _ _ : Value) from rfl⟩, ⟨rfl, show _ = (.int _ _ : Value) from rfl⟩, trivial⟩ ?_
          first
            | exact ⟨by rw [moreP_2 hee (hmo.trans (more_here rfl (by omega) (by assumption)))]; rfl, hs59.tail.drop.tail.tail.tail⟩
            | exact ⟨by rw [moreP_3 hee (hmo.trans (more_end (by omega)))]; rfl, hs59.tail.drop.tail.tail.tail⟩
        ·
          try simp only [Bool.not_eq_true', Bool.not_eq_false', decide_eq_true_eq, decide_eq_false_iff_not, Int.not_lt, Int.not_le] at h62
          refine w_skip ?_
          refine q_then (hK51 _ _ ?_)
          have hgd := getD_in (by omega) (by omega) (moreX_small hk.ok r.toNat i (by omega)).2 r.toNat
          refine w_region ?_
          refine w_pure want_none (y_move (v := .int _ _) rfl rfl) rfl ?_
          refine w_pure want_none (y_fieldAddr (o := 0) (i := 0) Try.underlying93 rfl Try.sizeOf90 rfl rfl rfl) rfl ?_
          refine w_pure want_none (y_indexA Try.underlying90 Try.sizeOf3 rfl rfl rfl rfl (i := r.toNat) (by first | rfl | omega) (by omega)) rfl ?_
          refine w_pure want_none (y_load1 Try.isAgg3 hs59 rfl rfl (ats_ints (i := 0) (j := r.toNat) rfl (by first | omega | rfl | (simp only [allX_len, moreX_len, List.length_map, List.length_set, List.length_append, List.length_take, List.length_drop, List.length_replicate, List.length_cons, List.length_nil] <;> omega)))) rfl ?_
          refine w_pure want_none (y_add rfl rfl rfl rfl (by omega) (by omega)) rfl ?_
          refine w_pure want_none (y_fieldAddr (o := 0) (i := 0) Try.underlying93 rfl Try.sizeOf90 rfl rfl rfl) rfl ?_
          refine w_pure want_none (y_indexA Try.underlying90 Try.sizeOf3 rfl rfl rfl rfl (i := r.toNat) (by first | rfl | omega) (by omega)) rfl ?_
          refine w_storeAtI (i := 0) (j := r.toNat) want_none Try.sizeOf3 rfl rfl rfl rfl hs59 rfl (by first | omega | rfl | (simp only [allX_len, moreX_len, List.length_map, List.length_set, List.length_append, List.length_take, List.length_drop, List.length_replicate, List.length_cons, List.length_nil] <;> omega)) (fun w65 hs66 => ?_)
          refine w_nil ?_
          refine q_blk_normal ?_
          refine q_then (hK47 _ _ ?_)
          refine w_region ?_
          refine w_pure want_none (y_add rfl rfl rfl rfl (by omega) (by omega)) rfl ?_
          refine w_pure want_none (y_move (v := .int _ _) rfl rfl) rfl ?_
          refine w_nil ?_
          refine q_then (hN39 _ _ (Nx.intro (61 - (i + 1)) (by omega) (by repeat (first | exact agree_mix | refine agree_upd rfl ?_ | refine agree_updL rfl ?_ _ | refine agree_mixin rfl ?_)) ?_))
          exact ⟨i + 1, M60, rfl, by omega, rfl, hM60, hmo.trans (more_on (by omega) (by assumption)), by rw [← moreX_succ (by omega)]; exact hs66⟩
      ·
        try simp only [Bool.not_eq_true', Bool.not_eq_false', decide_eq_true_eq, decide_eq_false_iff_not, Int.not_lt, Int.not_le] at h46
        refine w_exit ?_
        refine q_then_exit ?_
        refine q_then_exit ?_
        refine q_blk_this ?_
        refine q_then (hK35 _ _ ?_)
        refine w_seq (fun K68 hK67 => ?_)
        refine w_region ?_
        refine w_pure want_none (y_assign (v := _) rfl rfl) rfl ?_
        refine w_pure want_none (y_assign (v := _) rfl rfl) rfl ?_
        refine w_nil ?_
        refine q_then (hK67 _ _ ?_)
        refine w_ret ?_
        refine q_ret (l := [.tmp 4, .tmp 5]) (vs := [_, _]) rfl ⟨⟨rfl, show _ = (.int _ _ : Value) from rfl⟩, ⟨rfl, show _ = (.int _ _ : Value) from rfl⟩, trivial⟩ ?_
        first
          | exact ⟨by rw [moreP_2 hee (hmo.trans (more_here rfl (by omega) (by assumption)))]; rfl, hs.tail.drop.tail.tail.tail⟩
          | exact ⟨by rw [moreP_3 hee (hmo.trans (more_end (by omega)))]; rfl, hs.tail.drop.tail.tail.tail⟩

end Go.Proofs
