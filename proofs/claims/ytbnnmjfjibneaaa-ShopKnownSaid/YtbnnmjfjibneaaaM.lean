/- Walks of this seat, printed by gen.py over the engine: what each function returns, in whatever world. No conditions but those of each contract. -/
import Derived.Test.YtbnnmjfjibneaaaL
set_option linter.unusedVariables false
set_option linter.unusedSimpArgs false
set_option maxRecDepth 20000
namespace Go.Proofs
open Go.Rt Go.Rt.Sh
attribute [local irreducible] WL WC Con Yd At Ats Sl Agree DW

theorem giveP_1 {m : Market} (h : (check m).2.2 ≠ 0) : giveP m = ([], (check m).2.2) := by unfold giveP; rw [if_pos h]
theorem giveP_2 {m : Market} (h : (check m).2.2 = 0) : giveP m = (giveL m, 0) := by unfold giveP; rw [if_neg (by simp [h])]
theorem give_perm {s x p c k u v : Nat × Obj} (B M F : List (Nat × Obj)) : (s :: x :: p :: c :: k :: (B ++ (M ++ (u :: v :: F)))).Perm (([c, k] ++ M) ++ (s :: x :: p :: (B ++ (u :: v :: F)))) := by
  have h1 : (s :: x :: p :: c :: k :: (B ++ (M ++ (u :: v :: F)))).Perm (c :: k :: s :: x :: p :: (B ++ (M ++ (u :: v :: F)))) := perm_mid [s, x, p] [c, k] (B ++ (M ++ (u :: v :: F)))
  refine h1.trans ?_
  show (c :: k :: s :: x :: p :: (B ++ (M ++ (u :: v :: F)))).Perm (c :: k :: (M ++ (s :: x :: p :: (B ++ (u :: v :: F)))))
  refine List.Perm.cons _ (List.Perm.cons _ ?_)
  have h2 := perm_mid (s :: x :: p :: B) M (u :: v :: F)
  simpa using h2
theorem give_fin {w0 w : World} {a b c x y z u v : Nat × Obj} {M B F : List (Nat × Obj)} (h : St w0 w (a :: b :: c :: (M ++ (x :: y :: z :: (B ++ (u :: v :: F)))))) : St w0 w ([c] ++ F) := by
  have e : (a :: b :: c :: (M ++ (x :: y :: z :: (B ++ (u :: v :: F))))) = [a, b] ++ ([c] ++ ((M ++ (x :: y :: z :: (B ++ [u, v]))) ++ F)) := by simp
  rw [e] at h
  have h1 := (h.drop).perm (perm_mid [c] (M ++ (x :: y :: z :: (B ++ [u, v]))) F)
  exact h1.drop
theorem c28 {w0 w : World} {F : List (Nat × Obj)} (m : Market) (p : At3) (hm : MIn w0 F m p)  (hs : St w0 w F) :
  Con Try.prog 28 [.agg (m.cells p).toArray] w fun v w' => ∃ B a c, v = .tuple #[.slice a (giveP m).1.length c, .int .i64 (giveP m).2] ∧ Sl w0 B a 1 ((giveP m).1.map fun x => [Value.int .i64 x]) ∧ St w0 w' (B ++ F) := by
  refine con_of_wcM (n := 50) Try.func28 rfl rfl (Nat.le_of_ble_eq_true rfl) ?_
  have hlt0 := hm.lt
  refine w_seq (fun K2 hK1 => ?_)
  refine w_region ?_
  refine w_box (v := .agg #[.slice _ _ _, .slice _ _ _, .slice _ _ _]) (cs := [_, _, _]) want_none rfl rfl rfl hs (fun b3 w4 hs5 => ?_)
  refine w_pure want_none (y_assign (v := _) rfl rfl) rfl ?_
  refine w_pure want_none (y_assign (v := _) rfl rfl) rfl ?_
  refine w_nil ?_
  refine q_then (hK1 _ _ ?_)
  refine w_seq (fun K7 hK6 => ?_)
  refine w_region ?_
  refine w_pure want_none (y_loadN (vs := [_, _, _]) Try.isAgg26 Try.sizeOf26 hs5 rfl rfl (ats_own (i := 0) (vs := [_, _, _]) rfl rfl)) rfl ?_
  refine w_call want_none Try.call64 rfl rfl rfl rfl (c64 m p hm.cons 0 (by omega) (by omega) none 0 [] (by simp) (Sl.nil _ _) hs5) ?_
  rintro _ w9 (⟨hee, rfl, hs10⟩ | ⟨hee, mb, mm, M, rfl, hM, hs10⟩)
  ·
    refine w_pure want_none (y_move (v := .tuple _) rfl rfl) rfl ?_
    refine w_pure want_none (y_extract (v := .pointer _) rfl rfl rfl) rfl ?_
    refine w_pure want_none (y_extract (v := .int _ _) rfl rfl rfl) rfl ?_
    refine w_pure want_none (y_assign (v := .pointer _) rfl rfl) rfl ?_
    refine w_pure want_none (y_assign (v := .int _ _) rfl rfl) rfl ?_
    refine w_nil ?_
    refine q_then (hK6 _ _ ?_)
    refine w_seq (fun K12 hK11 => ?_)
    refine w_seq (fun K14 hK13 => ?_)
    refine w_region ?_
    refine w_pure want_none (y_move (v := .int _ _) rfl rfl) rfl ?_
    refine w_pure want_none (y_neq rfl rfl rfl rfl) rfl ?_
    refine w_nil ?_
    refine q_then (hK13 _ _ ?_)
    refine w_cond rfl rfl (fun h15 => ?_) (fun h15 => ?_)
    ·
      try simp only [Bool.not_eq_true', Bool.not_eq_false', decide_eq_true_eq, decide_eq_false_iff_not, Int.not_lt, Int.not_le] at h15
      refine w_seq (fun K17 hK16 => ?_)
      refine w_region ?_
      refine w_pure want_none (y_move (v := .int _ _) rfl rfl) rfl ?_
      refine w_pure want_none (y_assign (v := _) rfl rfl) rfl ?_
      refine w_pure want_none (y_assign (v := .int _ _) rfl rfl) rfl ?_
      refine w_nil ?_
      refine q_then (hK16 _ _ ?_)
      refine w_ret ?_
      refine q_then_ret ?_
      refine q_retM0 (l := [.tmp 2, .tmp 3]) (vs := [_, _]) rfl ⟨⟨rfl, show _ = (.slice _ _ _ : Value) from rfl⟩, ⟨rfl, show _ = (.int _ _ : Value) from rfl⟩, trivial⟩ ?_
      exact ⟨[], none, 0, by rw [giveP_1 (by rw [← enterE_nil (n := 0)]; exact hee), ← enterE_nil (n := 0)]; rfl, by rw [giveP_1 (by rw [← enterE_nil (n := 0)]; exact hee)]; exact Sl.nil _ _, hs10.tail⟩
    ·
      exfalso
      try simp only [Bool.not_eq_true', Bool.not_eq_false', decide_eq_true_eq, decide_eq_false_iff_not, Int.not_lt, Int.not_le] at h15
      first | exact hee h15 | exact h15 hee
  ·
    replace hs10 := (show St _ _ (M ++ (_ :: _ :: F)) from hs10)
    have hk : MK w0 ((mb, blk 122 [.slice p.ar m.rooms.length p.cr, .slice p.as m.shops.length p.cs, .slice p.at_ m.trains.length p.ct, .map (some mm)]) :: (b3, blk 26 (m.cells p)) :: F) m p mb mm := ⟨hm.cons.cons, ats_own (i := 0) (vs := [_, _, _, _]) rfl rfl, check_ok (enter_chk hee)⟩
    have hlr := hk.ok.lr
    have hls := hk.ok.ls
    have hlt := hk.ok.lt
    have hbx : Ats w0 ((b3, blk 26 (m.cells p)) :: F) b3 0 (m.cells p) := ats_own (i := 0) rfl rfl
    refine w_pure want_none (y_move (v := .tuple _) rfl rfl) rfl ?_
    refine w_pure want_none (y_extract (v := .pointer _) rfl rfl rfl) rfl ?_
    refine w_pure want_none (y_extract (v := .int _ _) rfl rfl rfl) rfl ?_
    refine w_pure want_none (y_assign (v := .pointer _) rfl rfl) rfl ?_
    refine w_pure want_none (y_assign (v := .int _ _) rfl rfl) rfl ?_
    refine w_nil ?_
    refine q_then (hK6 _ _ ?_)
    refine w_seq (fun K19 hK18 => ?_)
    refine w_seq (fun K21 hK20 => ?_)
    refine w_region ?_
    refine w_pure want_none (y_move (v := .int _ _) rfl rfl) rfl ?_
    refine w_pure want_none (y_neq rfl rfl rfl rfl) rfl ?_
    refine w_nil ?_
    refine q_then (hK20 _ _ ?_)
    refine w_condF rfl rfl ?_
    refine w_skip ?_
    refine q_then (hK18 _ _ ?_)
    refine w_seq (fun K23 hK22 => ?_)
    have hsa := shl_all hls
    refine w_region ?_
    refine w_pure want_none (y_fieldAddr (o := 1) (i := 1) Try.underlying26 rfl Try.sizeOf23 rfl rfl rfl) rfl ?_
    refine w_pure want_none (y_load1 Try.isAgg23 hs10.drop.tail rfl rfl (show Ats _ _ _ _ [_] from Ats.part hbx 1 1)) rfl ?_
    refine w_pure want_none (y_lenS Try.underlying23 rfl rfl) rfl ?_
    refine w_pure want_none (y_shl (x := 1) (y := _) rfl rfl rfl rfl rfl rfl (by first | omega | exact shr_lt (by omega)) (by first | omega | exact shr_lt (by omega))) rfl ?_
    refine w_pure want_none (yd_cast (z' := ((1 <<< m.shops.length - 1 : Nat) : Int)) (by omega) (y_sub rfl rfl rfl rfl (by omega) (by omega))) rfl ?_
    refine w_pure want_none (y_assign (v := .int _ _) rfl rfl) rfl ?_
    refine w_nil ?_
    refine q_then (hK22 _ _ ?_)
    refine w_seq (fun K25 hK24 => ?_)
    refine w_seq (fun K27 hK26 => ?_)
    refine w_region ?_
    refine w_pure want_none (y_move (v := .pointer _) rfl rfl) rfl ?_
    refine w_call want_none Try.call73 rfl rfl rfl rfl (c73 (X := []) m p mb mm hk  hM hs10) ?_
    rintro _ w29 ⟨B32, al_B32, cl_B32, M31, rfl, hsl_B32, hM31, hs30⟩
    replace hs30 := (show St _ _ (B32 ++ (M31 ++ (_ :: _ :: F))) from hs30)
    refine w_pure want_none (y_lenS Try.underlying30 rfl rfl) rfl ?_
    refine w_pure want_none (y_move (v := _) rfl rfl) rfl ?_
    refine w_nil ?_
    refine q_then (hK26 _ _ ?_)
    refine w_block ?_
    refine w_loop [6, 8, 27, 28, 29, 30, 31, 32, 33, 34, 35] [6, 27] (fun k vs w => ∃ i s : Nat, vs = [.int .i64 s, .int .i64 i] ∧ s < 1000 ∧ i ≤ (withoutL m).length ∧ k = (withoutL m).length - i ∧ giveSub (1 <<< m.shops.length - 1) (withoutL m) = giveSub s ((withoutL m).drop i) ∧ St w0 w (B32 ++ (M31 ++ ((mb, blk 122 [.slice p.ar m.rooms.length p.cr, .slice p.as m.shops.length p.cs, .slice p.at_ m.trains.length p.ct, .map (some mm)]) :: (b3, blk 26 (m.cells p)) :: F)))) ((withoutL m).length) ?_ ?_
    ·
      exact ⟨0, _, rfl, by omega, by omega, by omega, rfl, hs30⟩
    ·
      intro k vs μ w35 hI K34 hN33
      obtain ⟨i, s, rfl, hs1k, hia, rfl, hgs, hs⟩ := hI
      refine w_seq (fun K37 hK36 => ?_)
      refine w_region ?_
      refine w_pure want_none (y_lss rfl rfl rfl rfl) rfl ?_
      refine w_nil ?_
      refine q_then (hK36 _ _ ?_)
      refine w_seq (fun K39 hK38 => ?_)
      refine w_cond rfl rfl (fun h40 => ?_) (fun h40 => ?_)
      ·
        try simp only [Bool.not_eq_true', Bool.not_eq_false', decide_eq_true_eq, decide_eq_false_iff_not, Int.not_lt, Int.not_le] at h40
        refine w_skip ?_
        refine q_then (hK38 _ _ ?_)
        refine w_seq (fun K42 hK41 => ?_)
        refine w_block ?_
        refine w_seq (fun K44 hK43 => ?_)
        have hwl : (withoutL m).length ≤ m.shops.length := withoutTo_len m _
        have hi2 : i < (withoutL m).length := by omega
        obtain ⟨bl, ol, hbl, hxl⟩ := sl_ints hsl_B32.top hi2
        subst hbl
        have hin := withoutTo_in m _ _ (List.getElem_mem hi2)
        have hsm := shl_small (x := ((withoutL m)[i]'hi2).toNat) (by omega)
        refine w_region ?_
        refine w_pure want_none (y_indexS Try.underlying30 Try.sizeOf3 rfl rfl rfl rfl (i := _) rfl (by omega)) rfl ?_
        refine w_pure want_none (y_load1 Try.isAgg3 hs rfl rfl hxl) rfl ?_
        refine w_pure want_none (y_assign (v := .int _ _) rfl rfl) rfl ?_
        refine w_nil ?_
        refine q_then (hK43 _ _ ?_)
        refine w_region ?_
        refine w_pure want_none (y_move (v := .int _ _) rfl rfl) rfl ?_
        refine w_pure want_none (y_move (v := .int _ _) rfl rfl) rfl ?_
        refine w_pure want_none (y_shl (x := 1) (y := ((withoutL m)[i]'hi2).toNat) rfl rfl rfl rfl rfl (by first | rfl | omega) (by first | omega | exact shr_lt (by omega)) (by first | omega | exact shr_lt (by omega))) rfl ?_
        refine w_pure want_none (y_andNot (x := s) (y := 1 <<< ((withoutL m)[i]'hi2).toNat) rfl rfl rfl rfl (by first | rfl | omega) (by first | rfl | omega) (by first | omega | exact shr_lt (by omega))) rfl ?_
        refine w_pure want_none (y_assign (v := .int _ _) rfl rfl) rfl ?_
        refine w_nil ?_
        refine q_blk_normal ?_
        refine q_then (hK41 _ _ ?_)
        refine w_region ?_
        refine w_pure want_none (y_add rfl rfl rfl rfl (by omega) (by omega)) rfl ?_
        refine w_pure want_none (y_move (v := .int _ _) rfl rfl) rfl ?_
        refine w_nil ?_
        refine q_then (hN33 _ _ (Nx.intro ((withoutL m).length - (i + 1)) (by omega) (by repeat (first | exact agree_mix | refine agree_upd rfl ?_ | refine agree_updL rfl ?_ _ | refine agree_mixin rfl ?_)) ?_))
        have hle := bitDiff_le s (1 <<< (withoutL m)[i].toNat) (by omega)
        exact ⟨i + 1, _, rfl, by omega, by omega, rfl, hgs.trans (giveSub_step hi2), hs⟩
      ·
        try simp only [Bool.not_eq_true', Bool.not_eq_false', decide_eq_true_eq, decide_eq_false_iff_not, Int.not_lt, Int.not_le] at h40
        refine w_exit ?_
        refine q_then_exit ?_
        refine q_then_exit ?_
        refine q_blk_this ?_
        refine q_then (hK24 _ _ ?_)
        refine w_seq (fun K46 hK45 => ?_)
        have hsub : giveSub (1 <<< m.shops.length - 1) (withoutL m) = s := hgs.trans (giveSub_end (by omega))
        have hsub2 : giveSub (1 <<< m.shops.length - 1) (withoutL m) < 1000 := by omega
        subst hsub
        refine w_region ?_
        refine w_pure want_none (y_fieldAddr (o := 2) (i := 2) Try.underlying26 rfl Try.sizeOf24 rfl rfl rfl) rfl ?_
        refine w_pure want_none (y_load1 Try.isAgg24 hs.drop.drop.tail rfl rfl (show Ats _ _ _ _ [_] from Ats.part hbx 2 1)) rfl ?_
        refine w_pure want_none (y_lenS Try.underlying24 rfl rfl) rfl ?_
        refine w_makeInts (k := m.trains.length) want_none Try.underlying30 Try_info3 rfl rfl (by omega) rfl rfl rfl rfl rfl hs (fun b47 w48 hs49 => ?_)
        refine w_alloc (cs := [_]) want_none Try.zeroValue30 rfl hs49 (fun b50 w51 hs52 => ?_)
        refine w_store (i := 0) (v := .slice _ _ _) (vs := [_]) want_none Try.sizeOf30 rfl rfl rfl rfl rfl (by simp [Value.oneCell']) hs52 rfl (Nat.le_of_ble_eq_true rfl) (fun w53 hs54 => ?_)
        refine w_nil ?_
        refine q_then (hK45 _ _ ?_)
        refine w_seq (fun K56 hK55 => ?_)
        refine w_seq (fun K58 hK57 => ?_)
        refine w_region ?_
        refine w_pure want_none (y_move (v := .pointer _) rfl rfl) rfl ?_
        refine w_pure want_none (y_move (v := .pointer _) rfl rfl) rfl ?_
        refine w_call want_none Try.call68 rfl rfl rfl rfl (c68 m p mb mm hk.app.app.cons.cons _ hs54) ?_
        rintro _ w60 ⟨rfl, hs61⟩
        refine w_pure want_none (y_move (v := .int _ _) rfl rfl) rfl ?_
        refine w_call want_none Try.call75 rfl rfl rfl rfl (c75 _ _ (allX_len _ _) _ hs61) ?_
        rintro _ w63 ⟨bp, bx, bs, rfl, hs64⟩
        refine w_nil ?_
        refine q_then (hK57 _ _ ?_)
        refine w_block ?_
        refine w_rangeC ([_, _] ++ M31) (fun i Bx => ∃ B M, Bx = B ++ M ∧ Memo m mm M ∧ i = 0 ∧ B = [(b50, blk 30 [.slice (some ⟨b47, 0, none⟩) m.trains.length m.trains.length]), (b47, blk 3 (iv (List.replicate m.trains.length 0)))]) (fun c Bx => ∃ B M, Bx = B ++ M ∧ Memo m mm M ∧ c = .exit 2 ∧ B = [(b50, blk 30 [.slice (some ⟨b47, 0, none⟩) m.trains.length m.trains.length]), (b47, blk 3 (iv (giveL m)))]) rfl rfl rfl Try.call94 (loads_iter m p mb mm hk.app.cons.cons.cons _ hsub2 _ (allX_good hk.ok false) bp bs bx (ats_own (i := 2) (vs := [_]) rfl rfl) (ats_own (i := 0) (vs := [_]) rfl rfl) (ats_own (i := 1) (vs := iv _) rfl (by rw [List.drop_zero, List.take_length]))) (clsM_range (fun i B => i = 0 ∧ B = [(b50, blk 30 [.slice (some ⟨b47, 0, none⟩) m.trains.length m.trains.length]), (b47, blk 3 (iv (List.replicate m.trains.length 0)))]) (fun c B => c = .exit 2 ∧ B = [(b50, blk 30 [.slice (some ⟨b47, 0, none⟩) m.trains.length m.trains.length]), (b47, blk 3 (iv (giveL m)))]) (fun i Bx => Iff.rfl) (fun c Bx => Iff.rfl)) hs64 (give_perm _ _ _) ⟨_, M31, rfl, hM31, rfl, rfl⟩ ?_ ?_ ?_
        ·
          intro lp i hi Bx Xr Xr2 w66 hJ hs K hK65
          obtain ⟨BB, M3, rfl, hM3, rfl, rfl⟩ := hJ
          rw [List.getElem_map]
          have hi2 : 0 < (allLoads m).length := by simpa [allLoads] using hi
          have hl6 := allLoads_len hk.ok _ (List.getElem_mem hi2)
          have hcp := giveL_copy hk.ok hi2
          change WC _ _ _ _ (A _ (upd _ _ (ia (allLoads m)[0])) _) _
          obtain ⟨l0, hl0⟩ : ∃ l0, l0 = (allLoads m)[0] := ⟨_, rfl⟩
          rw [← hl0] at hl6 hcp ⊢
          replace hs := (show St _ _ (_ :: _ :: (M3 ++ (Xr ++ (_ :: _ :: _ :: (B32 ++ (_ :: _ :: F)))))) from hs)
          refine w_region ?_
          refine w_alloc (cs := iv [0, 0, 0, 0, 0, 0]) want_none Try.zeroValue106 rfl hs (fun b67 w68 hs69 => ?_)
          refine w_storeI (i := 0) (l := _) want_none Try.sizeOf106 (by first | omega | rfl | (simp only [allX_len, List.length_map, List.length_set, List.length_append, List.length_take, List.length_drop, List.length_replicate, List.length_cons, List.length_nil] <;> omega)) rfl rfl rfl rfl rfl hs69 rfl (by first | omega | rfl | (simp only [allX_len, List.length_map, List.length_set, List.length_append, List.length_take, List.length_drop, List.length_replicate, List.length_cons, List.length_nil] <;> omega)) (fun w70 hs71 => ?_)
          refine w_nil ?_
          refine q_then (hK65 _ _ (_ :: _ :: _ :: M3) hs71 (fun w72 hs73 => ?_))
          replace hs73 := (show St _ _ (_ :: _ :: _ :: M3 ++ (Xr2 ++ (_ :: _ :: _ :: B32 ++ (_ :: _ :: F)))) from hs73)
          refine w_block ?_
          refine w_seq (fun K75 hK74 => ?_)
          refine w_draw [2] [(0, 1), (1, 0), (2, 3)] Try_mo (by kernel_rfl) hs73 (fun w76 hs77 => ?_)
          refine d_take rfl want_none rfl hs77 (fun _ hq => (y_load1 Try.isAgg30 hq rfl rfl (ats_own (i := 1) (vs := [_]) rfl rfl))) ?_
          refine d_any rfl want_none rfl (fun _ => (y_sliceA Try.underlying106 Try.sizeOf3 rfl rfl)) ?_
          refine d_late rfl ?_
          refine w_copyI (i := 2) want_none Try.underlying30 Try.sizeOf3 rfl rfl rfl rfl hs77 rfl (sl_ints_own (i := 0) rfl) (by first | omega | rfl | (simp only [allX_len, List.length_map, List.length_set, List.length_append, List.length_take, List.length_drop, List.length_replicate, List.length_cons, List.length_nil] <;> omega)) (by first | omega | rfl | (simp only [allX_len, List.length_map, List.length_set, List.length_append, List.length_take, List.length_drop, List.length_replicate, List.length_cons, List.length_nil] <;> omega)) (fun w78 hs79 => ?_)
          refine w_nil ?_
          refine qn ?_
          refine d_nil ?_
          refine q_then (hK74 _ _ ?_)
          refine w_exit ?_
          refine q_blk_other rfl ?_
          refine rd_exit (_ :: _ :: M3) hs79.tail ?_
          exact ⟨[_, _], M3, rfl, hM3, rfl, by rw [hcp]⟩
        ·
          intro bd Bx w80 hJ hs
          obtain ⟨BB, M3, rfl, hM3, hi0, rfl⟩ := hJ
          replace hs := (show St _ _ (_ :: _ :: _ :: (M3 ++ (_ :: _ :: _ :: (B32 ++ (_ :: _ :: F))))) from hs)
          have hgl : giveL m = List.replicate m.trains.length 0 := giveL_nil (by simpa [allLoads] using hi0)
          rw [← hgl] at hs
          refine q_blk_normal ?_
          refine q_then (hK55 _ _ ?_)
          refine w_seq (fun K82 hK81 => ?_)
          refine w_region ?_
          refine w_pure want_none (y_load1 Try.isAgg30 hs rfl rfl (ats_own (i := 1) (vs := [_]) rfl rfl)) rfl ?_
          refine w_pure want_none (y_assign (v := .slice _ _ _) rfl rfl) rfl ?_
          refine w_pure want_none (y_assign (v := _) rfl rfl) rfl ?_
          refine w_nil ?_
          refine q_then (hK81 _ _ ?_)
          refine w_ret ?_
          refine q_retM (i := 0) (l := [.tmp 2, .tmp 3]) (vs := [_, _]) hs rfl rfl (fun w83 hs84 => ⟨⟨⟨rfl, show _ = (.slice _ _ _ : Value) from rfl⟩, ⟨rfl, show _ = (.int _ _ : Value) from rfl⟩, trivial⟩, ?_⟩)
          exact ⟨[_], _, _, by rw [giveP_2 (enter_chk hee), giveL_len hk.ok]; rfl, by rw [giveP_2 (enter_chk hee)]; exact sl_ints_own (i := 0) rfl, give_fin hs84⟩
        ·
          intro bd c Bx w85 hJ hs
          obtain ⟨BB, M3, rfl, hM3, rfl, rfl⟩ := hJ
          replace hs := (show St _ _ (_ :: _ :: _ :: (M3 ++ (_ :: _ :: _ :: (B32 ++ (_ :: _ :: F))))) from hs)
          refine w_exit ?_
          refine q_blk_this ?_
          refine q_then (hK55 _ _ ?_)
          refine w_seq (fun K87 hK86 => ?_)
          refine w_region ?_
          refine w_pure want_none (y_load1 Try.isAgg30 hs rfl rfl (ats_own (i := 1) (vs := [_]) rfl rfl)) rfl ?_
          refine w_pure want_none (y_assign (v := .slice _ _ _) rfl rfl) rfl ?_
          refine w_pure want_none (y_assign (v := _) rfl rfl) rfl ?_
          refine w_nil ?_
          refine q_then (hK86 _ _ ?_)
          refine w_ret ?_
          refine q_retM (i := 0) (l := [.tmp 2, .tmp 3]) (vs := [_, _]) hs rfl rfl (fun w88 hs89 => ⟨⟨⟨rfl, show _ = (.slice _ _ _ : Value) from rfl⟩, ⟨rfl, show _ = (.int _ _ : Value) from rfl⟩, trivial⟩, ?_⟩)
          exact ⟨[_], _, _, by rw [giveP_2 (enter_chk hee), giveL_len hk.ok]; rfl, by rw [giveP_2 (enter_chk hee)]; exact sl_ints_own (i := 0) rfl, give_fin hs89⟩

end Go.Proofs
