/- Walks of this seat, printed by gen.py over the engine: what each function returns, in whatever world. No conditions but those of each contract. -/
import Derived.Test.YtbnnmjfjibneaaaN
set_option linter.unusedVariables false
set_option linter.unusedSimpArgs false
set_option maxRecDepth 20000
namespace Go.Proofs
open Go.Rt Go.Rt.Sh
attribute [local irreducible] WL WC Con Yd At Ats Sl Agree DW
theorem Try_O_fb4 (x0 : Int) (w : World) : (Instr.buildSlice 30 1 [(0, .int .i64 x0)].toArray).run Try.prog w = .ok (.slice (some ⟨w.heap.size, 0, none⟩) 1 1) (w.alloc (Go.Rt.blk 3 [.int .i64 x0])) := by kernel_rfl
theorem c53 {w0 w : World} {F : List (Nat × Obj)} (m : Market) (p : At3) (hm : MIn w0 F m p) (hok : m.Ok) (t : Train) (ht : t ∈ m.trains) (hs : St w0 w F) :
  Con Try.prog 53 [.agg (m.cells p).toArray, .agg t.cells.toArray] w fun v w' => v = .bool (leaves m t) ∧ St w0 w' F := by
  refine con_of_wc (n := 27) Try.func53 rfl rfl (Nat.le_of_ble_eq_true rfl) ?_
  obtain ⟨ar, cr, as_, cs, at_, ct⟩ := p
  have htt := hok.train _ ht
  have hlr := hok.lr
  have hls := hok.ls
  have hir : t.room.toNat < m.rooms.length := by omega
  have his : t.shop.toNat < m.shops.length := by omega
  obtain ⟨br, or_, hbr, hxr⟩ := sl_rrows hm.r hir
  subst hbr
  obtain ⟨bs, os, hbs, hxs⟩ := sl_srows hm.s his
  subst hbs
  have hrr := hok.room _ (List.getElem_mem hir)
  have hss := hok.shop _ (List.getElem_mem his)
  refine w_seq (fun K2 hK1 => ?_)
  refine w_region ?_
  refine w_box (v := .agg #[.slice _ _ _, .slice _ _ _, .slice _ _ _]) (cs := [_, _, _]) want_none rfl rfl rfl hs (fun b3 w4 hs5 => ?_)
  refine w_box (v := .agg #[.int _ _, .int _ _, .int _ _, .int _ _]) (cs := [_, _, _, _]) want_none rfl rfl rfl hs5 (fun b6 w7 hs8 => ?_)
  refine w_pure want_none (y_assign (v := _) rfl rfl) rfl ?_
  refine w_nil ?_
  refine q_then (hK1 _ _ ?_)
  refine w_seq (fun K10 hK9 => ?_)
  refine w_region ?_
  refine w_pure want_none (y_fieldAddr (o := 0) (i := 0) Try.underlying26 rfl Try.sizeOf22 rfl rfl rfl) rfl ?_
  refine w_pure want_none (y_load1 Try.isAgg22 hs8 rfl rfl (ats_own (i := 1) (vs := [_]) rfl rfl)) rfl ?_
  refine w_pure want_none (y_fieldAddr (o := 0) (i := 0) Try.underlying63 rfl Try.sizeOf3 rfl rfl rfl) rfl ?_
  refine w_pure want_none (y_load1 Try.isAgg3 hs8 rfl rfl (ats_own (i := 0) (vs := [_]) rfl rfl)) rfl ?_
  refine w_pure want_none (y_indexS Try.underlying22 Try.sizeOf69 rfl rfl rfl rfl (i := t.room.toNat) (by omega) (by omega)) rfl ?_
  refine w_pure want_none (y_loadN (vs := [_, _, _, _, _]) Try.isAgg69 Try.sizeOf69 hs8.tail.tail rfl rfl hxr) rfl ?_
  refine w_alloc (cs := [_, _, _, _, _]) want_none Try.zeroValue69 rfl hs8 (fun b11 w12 hs13 => ?_)
  refine w_store (i := 0) (v := .agg #[.string _, .int _ _, .int _ _, .int _ _, .int _ _]) (vs := [_, _, _, _, _]) want_none Try.sizeOf69 rfl rfl rfl rfl rfl (by simp [Value.oneCell']) hs13 rfl (Nat.le_of_ble_eq_true rfl) (fun w14 hs15 => ?_)
  refine w_nil ?_
  refine q_then (hK9 _ _ ?_)
  refine w_seq (fun K17 hK16 => ?_)
  refine w_draw [] [(0, 0), (1, 1), (2, 0), (3, 1), (4, 0), (5, 0), (6, 1), (7, 0), (8, 1), (9, 0), (10, 0), (11, 1), (12, 0), (13, 1), (14, 2), (15, 0)] Try_mo (by kernel_rfl) hs15 (fun w18 hs19 => ?_)
  refine d_any rfl want_none rfl (fun _ => (y_fieldAddr (o := 1) (i := 1) Try.underlying26 rfl Try.sizeOf23 rfl rfl rfl)) ?_
  refine d_take rfl want_none rfl hs19 (fun _ hq => (y_load1 Try.isAgg23 hq rfl rfl (ats_own (i := 2) (vs := [_]) rfl rfl))) ?_
  refine d_any rfl want_none rfl (fun _ => (y_fieldAddr (o := 1) (i := 1) Try.underlying63 rfl Try.sizeOf3 rfl rfl rfl)) ?_
  refine d_take rfl want_none rfl hs19 (fun _ hq => (y_load1 Try.isAgg3 hq rfl rfl (ats_own (i := 1) (vs := [_]) rfl rfl))) ?_
  refine d_any rfl want_none rfl (fun _ => (y_indexS Try.underlying23 Try.sizeOf52 rfl rfl rfl rfl (i := t.shop.toNat) (by omega) (by omega))) ?_
  refine d_any rfl want_none rfl (fun _ => (y_fieldAddr (o := 1) (i := 1) Try.underlying52 rfl Try.sizeOf3 rfl rfl rfl)) ?_
  refine d_take rfl want_none rfl hs19 (fun _ hq => (y_load1 Try.isAgg3 hq.tail.tail.tail rfl rfl (show Ats _ _ _ _ [_] from Ats.part hxs 1 1))) ?_
  refine d_any rfl want_none rfl (fun _ => (y_fieldAddr (o := 2) (i := 2) Try.underlying63 rfl Try.sizeOf3 rfl rfl rfl)) ?_
  refine d_take rfl want_none rfl hs19 (fun _ hq => (y_load1 Try.isAgg3 hq rfl rfl (ats_own (i := 1) (vs := [_]) rfl rfl))) ?_
  refine d_any rfl want_none rfl (fun _ => (y_sub rfl rfl rfl rfl (by omega) (by omega))) ?_
  refine d_any rfl want_none rfl (fun _ => (y_fieldAddr (o := 3) (i := 2) Try.underlying69 rfl Try.sizeOf3 rfl rfl rfl)) ?_
  refine d_take rfl want_none rfl hs19 (fun _ hq => (y_load1 Try.isAgg3 hq rfl rfl (ats_own (i := 0) (vs := [_]) rfl rfl))) ?_
  refine d_any rfl want_none rfl (fun _ => (y_fieldAddr (o := 4) (i := 3) Try.underlying69 rfl Try.sizeOf3 rfl rfl rfl)) ?_
  refine d_take rfl want_none rfl hs19 (fun _ hq => (y_load1 Try.isAgg3 hq rfl rfl (ats_own (i := 0) (vs := [_]) rfl rfl))) ?_
  refine d_eff rfl ?_
  refine w_call want_none Try.call51 rfl rfl rfl rfl (c51 _ _ _ hs19) ?_
  rintro _ w21 ⟨rfl, hs22⟩
  refine w_nil ?_
  refine qn ⟨hs22, ?_⟩
  refine d_any rfl want_none rfl (fun _ => (y_assign (v := .bool _) rfl rfl)) ?_
  refine d_nil ?_
  refine q_then (hK16 _ _ ?_)
  refine w_ret ?_
  refine q_ret (l := [.tmp 4]) (vs := [_]) rfl ⟨⟨rfl, show _ = (.bool _ : Value) from rfl⟩, trivial⟩ ?_
  exact ⟨congrArg Value.bool (by rw [leaves_at hir his, Bool.eq_iff_iff]; simp [out]), hs22.tail.tail.tail⟩

theorem c19 {w0 w : World} {F : List (Nat × Obj)} (m : Market) (p : At3) (hm : MIn w0 F m p)  (hs : St w0 w F) :
  Con Try.prog 19 [.agg (m.cells p).toArray] w fun v w' => ∃ B a c, v = .tuple #[.slice a (goesP m).1.length c, .int .i64 (goesP m).2] ∧ Sl w0 B a 1 ((goesP m).1.map fun x => [Value.int .i64 x]) ∧ St w0 w' (B ++ F) := by
  refine con_of_wc (n := 37) Try.func19 rfl rfl (Nat.le_of_ble_eq_true rfl) ?_
  obtain ⟨ar, cr, as_, cs, at_, ct⟩ := p
  have hlt := hm.lt
  refine w_seq (fun K2 hK1 => ?_)
  refine w_region ?_
  refine w_box (v := .agg #[.slice _ _ _, .slice _ _ _, .slice _ _ _]) (cs := [_, _, _]) want_none rfl rfl rfl hs (fun b3 w4 hs5 => ?_)
  refine w_pure want_none (y_assign (v := _) rfl rfl) rfl ?_
  refine w_pure want_none (y_assign (v := _) rfl rfl) rfl ?_
  refine w_nil ?_
  refine q_then (hK1 _ _ ?_)
  refine w_seq (fun K7 hK6 => ?_)
  refine w_region ?_
  refine w_pure want_none (y_loadN (vs := [_, _, _]) Try.isAgg26 Try.sizeOf26 hs5 rfl rfl (ats_own (i := 0) (vs := [_, _, _]) rfl rfl)) rfl ?_
  refine w_call want_none Try.call17 rfl rfl rfl rfl (c17 m _ hm.cons hs5) ?_
  rintro _ w9 ⟨rfl, hs10⟩
  refine w_pure want_none (y_move (v := .tuple _) rfl rfl) rfl ?_
  refine w_pure want_none (y_extract (v := .int _ _) rfl rfl rfl) rfl ?_
  refine w_pure want_none (y_extract (v := .int _ _) rfl rfl rfl) rfl ?_
  refine w_pure want_none (y_extract (v := .int _ _) rfl rfl rfl) rfl ?_
  refine w_pure want_none (y_assign (v := .int _ _) rfl rfl) rfl ?_
  refine w_pure want_none (y_assign (v := .int _ _) rfl rfl) rfl ?_
  refine w_pure want_none (y_assign (v := .int _ _) rfl rfl) rfl ?_
  refine w_nil ?_
  refine q_then (hK6 _ _ ?_)
  refine w_seq (fun K12 hK11 => ?_)
  refine w_seq (fun K14 hK13 => ?_)
  refine w_region ?_
  refine w_pure want_none (y_move (v := .int _ _) rfl rfl) rfl ?_
  refine w_pure want_none (y_neq rfl rfl rfl rfl) rfl ?_
  refine w_nil ?_
  refine q_then (hK13 _ _ ?_)
  refine w_cond rfl rfl (fun h15 => ?_) (fun h15 => ?_)
  ·
    try simp only [Bool.not_eq_true', Bool.not_eq_false', decide_eq_true_eq, decide_eq_false_iff_not, Int.not_lt, Int.not_le] at h15
    refine w_seq (fun K17 hK16 => ?_)
    refine w_region ?_
    refine w_pure want_none (y_move (v := .int _ _) rfl rfl) rfl ?_
    refine w_pure want_none (y_assign (v := _) rfl rfl) rfl ?_
    refine w_pure want_none (y_assign (v := .int _ _) rfl rfl) rfl ?_
    refine w_nil ?_
    refine q_then (hK16 _ _ ?_)
    refine w_ret ?_
    refine q_then_ret ?_
    refine q_ret (l := [.tmp 2, .tmp 3]) (vs := [_, _]) rfl ⟨⟨rfl, show _ = (.slice _ _ _ : Value) from rfl⟩, ⟨rfl, show _ = (.int _ _ : Value) from rfl⟩, trivial⟩ ?_
    first
      | (have hq : goesP m = ([], (check m).2.2) := by unfold goesP; rw [if_pos (by assumption)]
         exact ⟨[], none, 0, by rw [hq]; rfl, by rw [hq]; exact Sl.nil _ _, hs10.tail⟩)
      | (have hil : i = m.trains.length := by omega
         subst hil
         have hq : goesP m = (goesTo m m.trains.length, 0) := by unfold goesP; rw [if_neg (by simpa using (by assumption : (check m).2.2 = 0))]
         obtain ⟨ag, cg, rfl, hsg⟩ := own_sl_map (w0 := w0) hown rfl []
         rw [List.append_nil] at hsg
         exact ⟨_, ag, cg, by rw [hq]; rfl, by rw [hq]; exact hsg, hs10.tail⟩)
  ·
    try simp only [Bool.not_eq_true', Bool.not_eq_false', decide_eq_true_eq, decide_eq_false_iff_not, Int.not_lt, Int.not_le] at h15
    refine w_skip ?_
    refine q_then (hK11 _ _ ?_)
    refine w_seq (fun K19 hK18 => ?_)
    have hok := check_ok (by assumption)
    have hlt6 := hok.lt
    refine w_region ?_
    refine w_pure want_none (y_assign (v := _) rfl rfl) rfl ?_
    refine w_nil ?_
    refine q_then (hK18 _ _ ?_)
    refine w_seq (fun K21 hK20 => ?_)
    refine w_seq (fun K23 hK22 => ?_)
    refine w_region ?_
    refine w_pure want_none (y_assign (v := _) rfl rfl) rfl ?_
    refine w_nil ?_
    refine q_then (hK22 _ _ ?_)
    refine w_block ?_
    refine w_loop [7, 8, 18, 19, 20, 21, 22, 23, 24, 25, 26, 27, 28, 29, 30, 31, 32, 33, 34, 35] [7, 8] (fun k vs w => ∃ (i : Nat) (v : Value) (B : List (Nat × Obj)), vs = [v, .int .i64 i] ∧ i ≤ m.trains.length ∧ k = m.trains.length - i ∧ Rt.Own v 3 1 (goesTo m i).length (iv (goesTo m i)) B ∧ St w0 w ((b3, blk 26 (m.cells ⟨ar, cr, as_, cs, at_, ct⟩)) :: (B ++ F))) (m.trains.length) ?_ ?_
    ·
      exact ⟨0, _, [], rfl, by omega, by omega, own_nil 3 1, hs10⟩
    ·
      intro k vs μ w26 hI K25 hN24
      obtain ⟨i, v, B, rfl, hia, rfl, hown, hs⟩ := hI
      refine w_seq (fun K28 hK27 => ?_)
      refine w_seq (fun K30 hK29 => ?_)
      refine w_region ?_
      refine w_pure want_none (y_move (v := .int _ _) rfl rfl) rfl ?_
      refine w_pure want_none (y_fieldAddr (o := 2) (i := 2) Try.underlying26 rfl Try.sizeOf24 rfl rfl rfl) rfl ?_
      refine w_pure want_none (y_load1 Try.isAgg24 hs rfl rfl (ats_own (i := 0) (vs := [_]) rfl rfl)) rfl ?_
      refine w_pure want_none (y_lenS Try.underlying24 rfl rfl) rfl ?_
      refine w_pure want_none (y_lss rfl rfl rfl rfl) rfl ?_
      refine w_nil ?_
      refine q_then (hK29 _ _ ?_)
      refine w_cond rfl rfl (fun h31 => ?_) (fun h31 => ?_)
      ·
        try simp only [Bool.not_eq_true', Bool.not_eq_false', decide_eq_true_eq, decide_eq_false_iff_not, Int.not_lt, Int.not_le] at h31
        refine w_skip ?_
        refine q_then (hK27 _ _ ?_)
        refine w_seq (fun K33 hK32 => ?_)
        refine w_block ?_
        refine w_seq (fun K35 hK34 => ?_)
        have hi2 : i < m.trains.length := by omega
        obtain ⟨t1, ot1, hbt1, hxt1⟩ := sl_trows hm.t hi2
        subst hbt1
        have hgl := goesTo_len m i
        refine w_draw [] [(0, 1), (1, 0), (2, 1), (3, 0), (4, 0), (5, 1), (6, 2)] Try_mo (by kernel_rfl) hs (fun w36 hs37 => ?_)
        refine d_take rfl want_none rfl hs37 (fun _ hq => (y_loadN (vs := [_, _, _]) Try.isAgg26 Try.sizeOf26 hq rfl rfl (ats_own (i := 0) (vs := [_, _, _]) rfl rfl))) ?_
        refine d_any rfl want_none rfl (fun _ => (y_fieldAddr (o := 2) (i := 2) Try.underlying26 rfl Try.sizeOf24 rfl rfl rfl)) ?_
        refine d_take rfl want_none rfl hs37 (fun _ hq => (y_load1 Try.isAgg24 hq rfl rfl (ats_own (i := 0) (vs := [_]) rfl rfl))) ?_
        refine d_any rfl want_none rfl (fun _ => (y_move (v := .int _ _) rfl rfl)) ?_
        refine d_any rfl want_none rfl (fun _ => (y_indexS Try.underlying24 Try.sizeOf63 rfl rfl rfl rfl (i := _) rfl (by omega))) ?_
        refine d_take rfl want_none rfl hs37 (fun _ hq => (y_loadN (vs := [_, _, _, _]) Try.isAgg63 Try.sizeOf63 hq.tail.drop rfl rfl hxt1)) ?_
        refine d_eff rfl ?_
        refine w_call want_none Try.call53 rfl rfl rfl rfl (c53 m _ hm.app.cons hok _ (List.getElem_mem hi2) hs37) ?_
        rintro _ w39 ⟨rfl, hs40⟩
        refine w_nil ?_
        refine qn ⟨hs40, ?_⟩
        refine d_nil ?_
        refine q_then (hK34 _ _ ?_)
        refine w_cond rfl rfl (fun h41 => ?_) (fun h41 => ?_)
        ·
          try simp only [Bool.not_eq_true', Bool.not_eq_false', decide_eq_true_eq, decide_eq_false_iff_not, Int.not_lt, Int.not_le] at h41
          refine w_region ?_
          refine w_pure want_none (y_move (v := v) rfl rfl) rfl ?_
          refine w_pure want_none (y_move (v := .int _ _) rfl rfl) rfl ?_
          refine w_bslice (ps := [(0, _)]) (pv := [(0, .int _ _)]) (cs := [_]) want_none rfl rfl (fun w => Try_O_fb4 _ w) hs40 (fun b42 w43 hs44 => ?_)
          refine w_append (X := (_ :: _ :: [])) (B := B) (rows := [[_]]) (sz := 1) (bytes := 8) want_none Try.underlying30 Try_info3 rfl rfl rfl rfl rfl rfl rfl rfl rfl hs44 hown (sl_own (i := 0) rfl (by simp) rfl) rfl (by simp) (by simp [Value.oneCell']) (by simp only [maxLen]; omega) (by omega) (fun v45 w46 B47 ho48 hs49 => ?_)
          replace hs49 := (show St _ _ (_ :: _ :: B47 ++ (F)) from hs49)
          refine w_pure want_none (y_assign (v := v45) rfl rfl) rfl ?_
          refine w_nil ?_
          refine q_blk_normal ?_
          refine q_then (hK32 _ _ ?_)
          refine w_region ?_
          refine w_pure want_none (y_move (v := .int _ _) rfl rfl) rfl ?_
          refine w_pure want_none (y_add rfl rfl rfl rfl (by omega) (by omega)) rfl ?_
          refine w_pure want_none (y_assign (v := .int _ _) rfl rfl) rfl ?_
          refine w_nil ?_
          refine q_then (hN24 _ _ (Nx.intro (m.trains.length - (i + 1)) (by omega) (by repeat (first | exact agree_mix | refine agree_upd rfl ?_ | refine agree_updL rfl ?_ _ | refine agree_mixin rfl ?_)) ?_))
          exact ⟨i + 1, _, _, rfl, by omega, rfl, by rw [goesTo_yes hi2 (by assumption)]; exact own_snoc ho48, hs49.tail⟩
        ·
          try simp only [Bool.not_eq_true', Bool.not_eq_false', decide_eq_true_eq, decide_eq_false_iff_not, Int.not_lt, Int.not_le] at h41
          refine w_skip ?_
          refine q_blk_normal ?_
          refine q_then (hK32 _ _ ?_)
          refine w_region ?_
          refine w_pure want_none (y_move (v := .int _ _) rfl rfl) rfl ?_
          refine w_pure want_none (y_add rfl rfl rfl rfl (by omega) (by omega)) rfl ?_
          refine w_pure want_none (y_assign (v := .int _ _) rfl rfl) rfl ?_
          refine w_nil ?_
          refine q_then (hN24 _ _ (Nx.intro (m.trains.length - (i + 1)) (by omega) (by repeat (first | exact agree_mix | refine agree_upd rfl ?_ | refine agree_updL rfl ?_ _ | refine agree_mixin rfl ?_)) ?_))
          exact ⟨i + 1, v, B, rfl, by omega, rfl, by rw [goesTo_no hi2 (by assumption)]; exact hown, hs40⟩
      ·
        try simp only [Bool.not_eq_true', Bool.not_eq_false', decide_eq_true_eq, decide_eq_false_iff_not, Int.not_lt, Int.not_le] at h31
        refine w_exit ?_
        refine q_then_exit ?_
        refine q_then_exit ?_
        refine q_blk_this ?_
        refine q_then (hK20 _ _ ?_)
        refine w_seq (fun K51 hK50 => ?_)
        refine w_region ?_
        refine w_pure want_none (y_move (v := v) rfl rfl) rfl ?_
        refine w_pure want_none (y_assign (v := v) rfl rfl) rfl ?_
        refine w_pure want_none (y_assign (v := _) rfl rfl) rfl ?_
        refine w_nil ?_
        refine q_then (hK50 _ _ ?_)
        refine w_ret ?_
        refine q_ret (l := [.tmp 2, .tmp 3]) (vs := [_, _]) rfl ⟨⟨rfl, show _ = (v : Value) from rfl⟩, ⟨rfl, show _ = (.int _ _ : Value) from rfl⟩, trivial⟩ ?_
        first
          | (have hq : goesP m = ([], (check m).2.2) := by unfold goesP; rw [if_pos (by assumption)]
             exact ⟨[], none, 0, by rw [hq]; rfl, by rw [hq]; exact Sl.nil _ _, hs.tail.drop⟩)
          | (have hil : i = m.trains.length := by omega
             subst hil
             have hq : goesP m = (goesTo m m.trains.length, 0) := by unfold goesP; rw [if_neg (by simpa using (by assumption : (check m).2.2 = 0))]
             obtain ⟨ag, cg, rfl, hsg⟩ := own_sl_map (w0 := w0) hown rfl []
             rw [List.append_nil] at hsg
             exact ⟨_, ag, cg, by rw [hq]; rfl, by rw [hq]; exact hsg, hs.tail⟩)

end Go.Proofs
