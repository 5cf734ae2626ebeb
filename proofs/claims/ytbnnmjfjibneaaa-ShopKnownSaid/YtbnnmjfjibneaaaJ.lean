/- Walks of this seat, printed by gen.py over the engine: what each function returns, in whatever world. No conditions but those of each contract. -/
import Derived.Test.YtbnnmjfjibneaaaI
import Derived.Test.YtbnnmjfjibneaaaSSpec5
set_option linter.unusedVariables false
set_option linter.unusedSimpArgs false
set_option maxRecDepth 20000
namespace Go.Proofs
open Go.Rt Go.Rt.Sh
attribute [local irreducible] WL WC Con Yd At Ats Sl Agree DW
theorem Try_J_fb2  (w : World) : (Instr.buildSlice 24 0 [].toArray).run Try.prog w = .ok (.slice (some ⟨w.heap.size, 0, none⟩) 0 0) (w.alloc (Go.Rt.blk 63 [])) := by kernel_rfl
theorem Try_info63 : Try.prog.info? 63 = some Try.t63 := by kernel_rfl
theorem Try_J_fb4 (x0 : Int) (w : World) : (Instr.buildSlice 30 1 [(0, .int .i64 x0)].toArray).run Try.prog w = .ok (.slice (some ⟨w.heap.size, 0, none⟩) 1 1) (w.alloc (Go.Rt.blk 3 [.int .i64 x0])) := by kernel_rfl
theorem trows_one (l : List Train) : ∀ row ∈ trows l, ∀ u ∈ row, u.oneCell' = true := by
  intro row hr u hu
  obtain ⟨f, _, rfl⟩ := List.mem_map.1 hr
  simp only [Train.cells, List.mem_cons, List.not_mem_nil, or_false] at hu
  rcases hu with rfl | rfl | rfl | rfl <;> rfl
theorem own_some {t : TypeId} {sz n : Nat} {v : Value} {xs : List Value} {B : List (Nat × Obj)} (h : Rt.Own v t sz n xs B) (hn : 0 < n) : ∃ b cap cs, v = .slice (some ⟨b, 0, none⟩) n cap ∧ B = [(b, blk t cs)] ∧ n ≤ cap ∧ cap ≤ maxLen ∧ cs.length = cap * sz ∧ cs.take (n * sz) = xs := by
  rcases h.2 with ⟨_, h0, _⟩ | ⟨b, cap, cs, h1, h2, h3, h4, h5, h6⟩
  · omega
  · exact ⟨b, cap, cs, h1, h2, h3, h4, h5, h6⟩
theorem sl_own_trows {w0 : World} {L : List (Nat × Obj)} {i b n : Nat} {t : TypeId} {cs : List Value} {l : List Train} (hi : L[i]? = some (b, blk t cs)) (hn : l.length = n) (h : cs.take (n * 4) = (trows l).flatten) : Sl w0 L (some ⟨b, 0, none⟩) 4 (trows l) :=
  sl_own hi (by intro row hr; obtain ⟨f, _, rfl⟩ := List.mem_map.1 hr; rfl) (by simpa [trows, hn] using h)
theorem late_perm {w0 w : World} {B M F : List (Nat × Obj)} {x y z : Nat × Obj} (h : St w0 w (B ++ (M ++ (x :: y :: z :: F)))) : St w0 w (z :: x :: F) := by
  have h1 : St w0 w (x :: y :: z :: F) := h.drop.drop
  exact ((h1.perm (perm_mid [x] [y] (z :: F))).tail).perm (perm_mid [x] [z] F)
theorem c76 {w0 w : World} {F : List (Nat × Obj)} (a : Option Addr) (c : Nat) (l : List Train) (hl : l.length ≤ 1000000) (hc : l.length ≤ c) (ha : Sl w0 F a 4 (trows l))  (hs : St w0 w F) :
  Con Try.prog 76 [.slice a l.length c] w fun v w' => ∃ B', Rt.Own v 63 4 l.length (trows l).flatten B' ∧ St w0 w' (B' ++ F) := by
  refine con_of_wc (n := 8) Try.func76 rfl rfl (Nat.le_of_ble_eq_true rfl) ?_
  refine w_seq (fun K2 hK1 => ?_)
  refine w_region ?_
  refine w_pure want_none (y_assign (v := _) rfl rfl) rfl ?_
  refine w_nil ?_
  refine q_then (hK1 _ _ ?_)
  refine w_seq (fun K4 hK3 => ?_)
  refine w_seq (fun K6 hK5 => ?_)
  refine w_region ?_
  refine w_pure want_none (y_move (v := .slice _ _ _) rfl rfl) rfl ?_
  refine w_pure want_none (y_sliceNil Try.underlying24 rfl rfl rfl rfl) rfl ?_
  refine w_nil ?_
  refine q_then (hK5 _ _ ?_)
  refine w_cond rfl rfl (fun h7 => ?_) (fun h7 => ?_)
  ·
    try simp only [Bool.not_eq_true', Bool.not_eq_false', decide_eq_true_eq, decide_eq_false_iff_not, Int.not_lt, Int.not_le] at h7
    refine w_seq (fun K9 hK8 => ?_)
    refine w_region ?_
    refine w_pure want_none (y_assign (v := _) rfl rfl) rfl ?_
    refine w_nil ?_
    refine q_then (hK8 _ _ ?_)
    refine w_ret ?_
    refine q_then_ret ?_
    refine q_ret (l := [.tmp 2]) (vs := [_]) rfl ⟨⟨rfl, show _ = (.slice _ _ _ : Value) from rfl⟩, trivial⟩ ?_
    have hr := sl_none (L := F) (w0 := w0) (by have : a = none := (by simpa using ‹a.isNone = true›); subst this; exact ha)
    have hl0 : l = [] := by simpa [trows] using hr
    subst hl0
    exact ⟨[], own_nil 63 4, hs⟩
  ·
    try simp only [Bool.not_eq_true', Bool.not_eq_false', decide_eq_true_eq, decide_eq_false_iff_not, Int.not_lt, Int.not_le] at h7
    refine w_skip ?_
    refine q_then (hK3 _ _ ?_)
    refine w_seq (fun K11 hK10 => ?_)
    refine w_region ?_
    refine w_bslice (ps := []) (pv := []) (cs := []) want_none rfl rfl (fun w => Try_J_fb2  w) hs (fun b12 w13 hs14 => ?_)
    refine w_pure want_none (y_move (v := .slice _ _ _) rfl rfl) rfl ?_
    refine w_append (X := ([])) (B := [_]) (rows := trows l) (sz := 4) (bytes := 32) want_none Try.underlying24 Try_info63 rfl rfl rfl rfl rfl rfl rfl rfl rfl hs14 own_made ha.cons (by simp [trows]) (fun h => by subst h; simp at h7) (trows_one l) (by simp only [maxLen]; omega) (by omega) (fun v15 w16 B17 ho18 hs19 => ?_)
    replace hs19 := (show St _ _ (B17 ++ (F)) from hs19)
    refine w_pure want_none (y_assign (v := v15) rfl rfl) rfl ?_
    refine w_nil ?_
    refine q_then (hK10 _ _ ?_)
    refine w_ret ?_
    refine q_ret (l := [.tmp 2]) (vs := [_]) rfl ⟨⟨rfl, show _ = (v15 : Value) from rfl⟩, trivial⟩ ?_
    rw [Nat.zero_add, List.nil_append] at ho18
    exact ⟨_, ho18, hs19⟩

theorem look_late {w0 w : World} {F : List (Nat × Obj)} (m : Market) (i : Nat) (p : At3) (hs : St w0 w F) :
    Con Try.prog 77 [.agg #[.slice p.ar m.rooms.length p.cr, .slice p.as m.shops.length p.cs, .slice p.at_ m.trains.length p.ct]] w fun v w' => ∃ mb mm M, v = .pointer (some ⟨mb, 0, none⟩) ∧ Memo (lateM m i) mm M ∧ St w0 w' (M ++ ((mb, blk 122 [.slice p.ar m.rooms.length p.cr, .slice p.as m.shops.length p.cs, .slice p.at_ (setLate m.trains i).length p.ct, .map (some mm)]) :: F)) := by
  have h := c77 (lateM m i) p hs
  rw [lateM_cells] at h
  exact h
theorem c32 {w0 w : World} {F : List (Nat × Obj)} (m : Market) (p : At3) (hm : MIn w0 F m p) (r : Int) (hs : St w0 w F) :
  Con Try.prog 32 [.agg (m.cells p).toArray, .int .i64 r] w fun v w' => v = .tuple #[.int .i64 (lateP m r).1, .int .i64 (lateP m r).2] ∧ St w0 w' F := by
  refine con_of_wc (n := 65) Try.func32 rfl rfl (Nat.le_of_ble_eq_true rfl) ?_
  have hlt := hm.lt
  refine w_seq (fun K2 hK1 => ?_)
  refine w_region ?_
  refine w_box (v := .agg #[.slice _ _ _, .slice _ _ _, .slice _ _ _]) (cs := [_, _, _]) want_none rfl rfl rfl hs (fun b3 w4 hs5 => ?_)
  refine w_pure want_none (y_assign (v := _) rfl rfl) rfl ?_
  refine w_pure want_none (y_assign (v := _) rfl rfl) rfl ?_
  refine w_nil ?_
  refine q_then (hK1 _ _ ?_)
  refine w_seq (fun K7 hK6 => ?_)
  refine w_region ?_
  refine w_pure want_none (y_loadN (vs := [_, _, _]) Try.isAgg26 Try.sizeOf26 hs5 rfl rfl (ats_own (i := 0) (vs := [_, _, _]) rfl rfl)) rfl ?_
  refine w_pure want_none (y_fieldAddr (o := 2) (i := 2) Try.underlying26 rfl Try.sizeOf24 rfl rfl rfl) rfl ?_
  refine w_pure want_none (y_load1 Try.isAgg24 hs5 rfl rfl (ats_own (i := 0) (vs := [_]) rfl rfl)) rfl ?_
  refine w_pure want_none (y_lenS Try.underlying24 rfl rfl) rfl ?_
  refine w_pure want_none (y_move (v := .int _ _) rfl rfl) rfl ?_
  refine w_bslice (ps := [(0, _)]) (pv := [(0, .int _ _)]) (cs := [_]) want_none rfl rfl (fun w => Try_J_fb4 _ w) hs5 (fun b8 w9 hs10 => ?_)
  refine w_call want_none Try.call64 rfl rfl rfl rfl (c64 m p hm.cons.cons _ (by omega) (by omega) _ _ [r] (by simp) (sl_own (i := 0) (rows := [[_]]) rfl (by simp) rfl) hs10) ?_
  rintro _ w12 (⟨hee, rfl, hs13⟩ | ⟨hee, mb, mm, M, rfl, hM, hs13⟩)
  ·
    refine w_pure want_none (y_move (v := .tuple _) rfl rfl) rfl ?_
    refine w_pure want_none (y_extract (v := .pointer _) rfl rfl rfl) rfl ?_
    refine w_pure want_none (y_extract (v := .int _ _) rfl rfl rfl) rfl ?_
    refine w_pure want_none (y_assign (v := .pointer _) rfl rfl) rfl ?_
    refine w_pure want_none (y_assign (v := .int _ _) rfl rfl) rfl ?_
    refine w_nil ?_
    refine q_then (hK6 _ _ ?_)
    refine w_seq (fun K15 hK14 => ?_)
    refine w_seq (fun K17 hK16 => ?_)
    refine w_region ?_
    refine w_pure want_none (y_move (v := .int _ _) rfl rfl) rfl ?_
    refine w_pure want_none (y_neq rfl rfl rfl rfl) rfl ?_
    refine w_nil ?_
    refine q_then (hK16 _ _ ?_)
    refine w_cond rfl rfl (fun h18 => ?_) (fun h18 => ?_)
    ·
      try simp only [Bool.not_eq_true', Bool.not_eq_false', decide_eq_true_eq, decide_eq_false_iff_not, Int.not_lt, Int.not_le] at h18
      refine w_seq (fun K20 hK19 => ?_)
      refine w_region ?_
      refine w_pure want_none (y_move (v := .int _ _) rfl rfl) rfl ?_
      refine w_pure want_none (y_assign (v := _) rfl rfl) rfl ?_
      refine w_pure want_none (y_assign (v := .int _ _) rfl rfl) rfl ?_
      refine w_nil ?_
      refine q_then (hK19 _ _ ?_)
      refine w_ret ?_
      refine q_then_ret ?_
      refine q_ret (l := [.tmp 4, .tmp 5]) (vs := [_, _]) rfl ⟨⟨rfl, show _ = (.int _ _ : Value) from rfl⟩, ⟨rfl, show _ = (.int _ _ : Value) from rfl⟩, trivial⟩ ?_
      exact ⟨by rw [lateP_1 hee]; rfl, hs13.tail.tail⟩
    ·
      exfalso
      try simp only [Bool.not_eq_true', Bool.not_eq_false', decide_eq_true_eq, decide_eq_false_iff_not, Int.not_lt, Int.not_le] at h18
      first | exact hee h18 | exact h18 hee
  ·
    replace hs13 := (show St _ _ (M ++ (_ :: _ :: _ :: F)) from hs13)
    have hk : MK w0 ((mb, blk 122 [.slice p.ar m.rooms.length p.cr, .slice p.as m.shops.length p.cs, .slice p.at_ m.trains.length p.ct, .map (some mm)]) :: (b8, blk 3 [.int .i64 r]) :: (b3, blk 26 (m.cells p)) :: F) m p mb mm := ⟨hm.cons.cons.cons, ats_own (i := 0) (vs := [_, _, _, _]) rfl rfl, check_ok (enter_chk hee)⟩
    have hlr := hk.ok.lr
    have hls := hk.ok.ls
    have hlt := hk.ok.lt
    have hbx : Ats w0 ((b3, blk 26 (m.cells p)) :: F) b3 0 (m.cells p) := ats_own (i := 0) rfl rfl
    refine w_pure want_none (y_move (v := .tuple _) rfl rfl) rfl ?_
    refine w_pure want_none (y_extract (v := .pointer _) rfl rfl rfl) rfl ?_
    refine w_pure want_none (y_extract (v := .int _ _) rfl rfl rfl) rfl ?_
    refine w_pure want_none (y_assign (v := .pointer _) rfl rfl) rfl ?_
    refine w_pure want_none (y_assign (v := .int _ _) rfl rfl) rfl ?_
    refine w_nil ?_
    refine q_then (hK6 _ _ ?_)
    refine w_seq (fun K22 hK21 => ?_)
    refine w_seq (fun K24 hK23 => ?_)
    refine w_region ?_
    refine w_pure want_none (y_move (v := .int _ _) rfl rfl) rfl ?_
    refine w_pure want_none (y_neq rfl rfl rfl rfl) rfl ?_
    refine w_nil ?_
    refine q_then (hK23 _ _ ?_)
    refine w_condF rfl rfl ?_
    refine w_skip ?_
    refine q_then (hK21 _ _ ?_)
    refine w_seq (fun K26 hK25 => ?_)
    have hsa := shl_all hls
    refine w_region ?_
    refine w_pure want_none (y_fieldAddr (o := 1) (i := 1) Try.underlying26 rfl Try.sizeOf23 rfl rfl rfl) rfl ?_
    refine w_pure want_none (y_load1 Try.isAgg23 hs13.drop.tail.tail rfl rfl (show Ats _ _ _ _ [_] from Ats.part hbx 1 1)) rfl ?_
    refine w_pure want_none (y_lenS Try.underlying23 rfl rfl) rfl ?_
    refine w_pure want_none (y_shl (x := 1) (y := _) rfl rfl rfl rfl rfl rfl (by first | omega | exact shr_lt (by omega)) (by first | omega | exact shr_lt (by omega))) rfl ?_
    refine w_pure want_none (yd_cast (z' := ((1 <<< m.shops.length - 1 : Nat) : Int)) (by omega) (y_sub rfl rfl rfl rfl (by omega) (by omega))) rfl ?_
    refine w_pure want_none (y_assign (v := .int _ _) rfl rfl) rfl ?_
    refine w_nil ?_
    refine q_then (hK25 _ _ ?_)
    refine w_seq (fun K28 hK27 => ?_)
    refine w_region ?_
    refine w_pure want_none (y_move (v := .pointer _) rfl rfl) rfl ?_
    refine w_pure want_none (y_move (v := .pointer _) rfl rfl) rfl ?_
    refine w_call want_none Try.call68 rfl rfl rfl rfl (c68 m p mb mm hk.app _ hs13) ?_
    rintro _ w30 ⟨rfl, hs31⟩
    refine w_pure want_none (y_move (v := .int _ _) rfl rfl) rfl ?_
    refine w_call want_none Try.call70 rfl rfl rfl rfl (c70 (X := []) m p mb mm hk _ (allX_small hk.ok _) _ hM hs31) ?_
    rintro _ w33 ⟨B36, al_B36, cl_B36, M35, rfl, hsl_B36, hM35, hs34⟩
    replace hs34 := (show St _ _ (B36 ++ (M35 ++ (_ :: _ :: _ :: F))) from hs34)
    refine w_pure want_none (y_move (v := .tuple _) rfl rfl) rfl ?_
    refine w_pure want_none (y_extract (v := .slice _ _ _) rfl rfl rfl) rfl ?_
    refine w_pure want_none (y_extract (v := .int _ _) rfl rfl rfl) rfl ?_
    refine w_pure want_none (y_assign (v := .slice _ _ _) rfl rfl) rfl ?_
    refine w_pure want_none (y_assign (v := .int _ _) rfl rfl) rfl ?_
    refine w_nil ?_
    refine q_then (hK27 _ _ ?_)
    refine w_seq (fun K38 hK37 => ?_)
    have hs39 := late_perm (show St _ _ (B36 ++ (M35 ++ (_ :: _ :: _ :: F))) from hs34)
    have hrr := (enterE_ok hee).2 r (.head _)
    have hrt : r.toNat < m.trains.length := by omega
    have htd := check_days (enter_chk hee) _ (List.getElem_mem hrt)
    have htr := hk.ok.train _ (List.getElem_mem hrt)
    have hwb1 := worst_bound hk.ok (allX_small hk.ok false) (1 <<< m.shops.length - 1)
    have hm1 : MIn w0 ((mb, blk 122 [.slice p.ar m.rooms.length p.cr, .slice p.as m.shops.length p.cs, .slice p.at_ m.trains.length p.ct, .map (some mm)]) :: F) m p := hm.cons
    have hkm : MK w0 ((mb, blk 122 [.slice p.ar m.rooms.length p.cr, .slice p.as m.shops.length p.cs, .slice p.at_ m.trains.length p.ct, .map (some mm)]) :: F) m p mb mm := ⟨hm.cons, ats_own (i := 0) (vs := [_, _, _, _]) rfl rfl, hk.ok⟩
    refine w_region ?_
    refine w_pure want_none (y_fieldAddr (o := 2) (i := 2) Try.underlying26 rfl Try.sizeOf24 rfl rfl rfl) rfl ?_
    refine w_pure want_none (y_load1 Try.isAgg24 hs39 rfl rfl (ats_own (i := 0) (vs := [_]) rfl rfl)) rfl ?_
    refine w_call want_none Try.call76 rfl rfl rfl rfl (c76 _ _ m.trains (by omega) hm.ct hm1.t.cons hs39) ?_
    rintro _ w41 ⟨BC, hown, hs42⟩
    obtain ⟨bc, cap, cs0, rfl, rfl, hcap, hcapm, hcl0, hcs0⟩ := own_some hown (by omega)
    replace hs42 := (show St _ _ (_ :: _ :: _ :: F) from hs42)
    refine w_pure want_none (y_fieldAddr (o := 2) (i := 2) Try.underlying26 rfl Try.sizeOf24 rfl rfl rfl) rfl ?_
    refine w_store (i := 1) (v := .slice _ _ _) (vs := [_]) want_none Try.sizeOf24 rfl rfl rfl rfl rfl (by simp [Value.oneCell']) hs42 rfl (Nat.le_of_ble_eq_true rfl) (fun w43 hs44 => ?_)
    refine w_nil ?_
    refine q_then (hK37 _ _ ?_)
    refine w_seq (fun K46 hK45 => ?_)
    replace hs44 := (show St _ _ ((bc, blk 63 cs0) :: (b3, blk 26 [.slice p.ar m.rooms.length p.cr, .slice p.as m.shops.length p.cs, .slice (some ⟨bc, 0, none⟩) m.trains.length cap]) :: (mb, blk 122 [.slice p.ar m.rooms.length p.cr, .slice p.as m.shops.length p.cs, .slice p.at_ m.trains.length p.ct, .map (some mm)]) :: F) from hs44)
    obtain ⟨bx, ox, hbx2, hrow⟩ := sl_trows (sl_own_trows (w0 := w0) (L := (bc, blk 63 cs0) :: (b3, blk 26 [.slice p.ar m.rooms.length p.cr, .slice p.as m.shops.length p.cs, .slice (some ⟨bc, 0, none⟩) m.trains.length cap]) :: (mb, blk 122 [.slice p.ar m.rooms.length p.cr, .slice p.as m.shops.length p.cs, .slice p.at_ m.trains.length p.ct, .map (some mm)]) :: F) (i := 0) rfl rfl hcs0) hrt
    cases hbx2
    refine w_region ?_
    refine w_pure want_none (y_fieldAddr (o := 2) (i := 2) Try.underlying26 rfl Try.sizeOf24 rfl rfl rfl) rfl ?_
    refine w_pure want_none (y_load1 Try.isAgg24 hs44 rfl rfl (ats_own (i := 1) (vs := [_]) rfl rfl)) rfl ?_
    refine w_pure want_none (y_move (v := .int _ _) rfl rfl) rfl ?_
    refine w_pure want_none (y_indexS Try.underlying24 Try.sizeOf63 rfl rfl rfl rfl (i := r.toNat) (by omega) (by omega)) rfl ?_
    refine w_pure want_none (y_fieldAddr (o := 2) (i := 2) Try.underlying63 rfl Try.sizeOf3 rfl rfl rfl) rfl ?_
    refine w_pure want_none (y_load1 Try.isAgg3 hs44 rfl rfl (show Ats _ _ _ _ [_] from Ats.part hrow 2 1)) rfl ?_
    refine w_pure want_none (y_add rfl rfl rfl rfl (by omega) (by omega)) rfl ?_
    refine w_pure want_none (y_indexS Try.underlying24 Try.sizeOf63 rfl rfl rfl rfl (i := r.toNat) (by omega) (by omega)) rfl ?_
    refine w_pure want_none (y_fieldAddr (o := 2) (i := 2) Try.underlying63 rfl Try.sizeOf3 rfl rfl rfl) rfl ?_
    refine w_store (i := 0) (v := .int _ _) (vs := [_]) want_none Try.sizeOf3 rfl rfl rfl rfl rfl (by simp [Value.oneCell']) hs44 rfl (show 0 + r.toNat * 4 + 2 + 1 ≤ cs0.length by omega) (fun w47 hs48 => ?_)
    have hcs2 : (cs0.set (r.toNat * 4 + 2) (.int .i64 ((m.trains[r.toNat]'hrt).days + 1))).take (m.trains.length * 4) = (trows (setLate m.trains r.toNat)).flatten := cells_late rfl hcs0 hrt
    replace hs48 := (show St _ _ ((bc, blk 63 (cs0.set (r.toNat * 4 + 2) (.int .i64 ((m.trains[r.toNat]'hrt).days + 1)))) :: (b3, blk 26 [.slice p.ar m.rooms.length p.cr, .slice p.as m.shops.length p.cs, .slice (some ⟨bc, 0, none⟩) m.trains.length cap]) :: (mb, blk 122 [.slice p.ar m.rooms.length p.cr, .slice p.as m.shops.length p.cs, .slice p.at_ m.trains.length p.ct, .map (some mm)]) :: F) from (by have h6 := hs48; simp only [setMany, Nat.zero_add] at h6; exact h6))
    have hm2 : MIn w0 ((bc, blk 63 (cs0.set (r.toNat * 4 + 2) (.int .i64 ((m.trains[r.toNat]'hrt).days + 1)))) :: (b3, blk 26 [.slice p.ar m.rooms.length p.cr, .slice p.as m.shops.length p.cs, .slice (some ⟨bc, 0, none⟩) m.trains.length cap]) :: (mb, blk 122 [.slice p.ar m.rooms.length p.cr, .slice p.as m.shops.length p.cs, .slice p.at_ m.trains.length p.ct, .map (some mm)]) :: F) (lateM m r.toNat) { p with at_ := some ⟨bc, 0, none⟩, ct := cap } := ⟨hm.r.cons.cons.cons, hm.s.cons.cons.cons, sl_own_trows (i := 0) rfl (setLate_len _ _) hcs2, hm.lr, hm.ls, (by show (setLate _ _).length ≤ _; rw [setLate_len]; exact hm.lt), hm.cr, hm.cs, (by show (setLate _ _).length ≤ cap; rw [setLate_len]; exact hcap), hm.nr, hm.ns⟩
    refine w_nil ?_
    refine q_then (hK45 _ _ ?_)
    refine w_seq (fun K50 hK49 => ?_)
    refine w_region ?_
    refine w_pure want_none (y_loadN (vs := [_, _, _]) Try.isAgg26 Try.sizeOf26 hs48 rfl rfl (ats_own (i := 1) (vs := [_, _, _]) rfl rfl)) rfl ?_
    refine w_call want_none Try.call77 rfl rfl rfl rfl (look_late m r.toNat { p with at_ := some ⟨bc, 0, none⟩, ct := cap } hs48) ?_
    rintro _ w52 ⟨mb2, mm2, M2, rfl, hM2, hs53⟩
    replace hs53 := (show St _ _ (M2 ++ (_ :: _ :: _ :: _ :: F)) from hs53)
    have hk2 : MK w0 ((mb2, blk 122 [.slice p.ar m.rooms.length p.cr, .slice p.as m.shops.length p.cs, .slice (some ⟨bc, 0, none⟩) (setLate m.trains r.toNat).length cap, .map (some mm2)]) :: (bc, blk 63 (cs0.set (r.toNat * 4 + 2) (.int .i64 ((m.trains[r.toNat]'hrt).days + 1)))) :: (b3, blk 26 [.slice p.ar m.rooms.length p.cr, .slice p.as m.shops.length p.cs, .slice (some ⟨bc, 0, none⟩) m.trains.length cap]) :: (mb, blk 122 [.slice p.ar m.rooms.length p.cr, .slice p.as m.shops.length p.cs, .slice p.at_ m.trains.length p.ct, .map (some mm)]) :: F) (lateM m r.toNat) { p with at_ := some ⟨bc, 0, none⟩, ct := cap } mb2 mm2 := ⟨hm2.cons, ats_own (i := 0) (vs := [_, _, _, _]) rfl rfl, lateM_ok (enter_chk hee) _⟩
    have hwb2 := worst_bound hk2.ok (allX_small hk.ok false) (1 <<< m.shops.length - 1)
    refine w_pure want_none (y_move (v := .pointer _) rfl rfl) rfl ?_
    refine w_call want_none Try.call68 rfl rfl rfl rfl (c68 m p mb mm hkm.cons.cons.cons.app _ hs53) ?_
    rintro _ w55 ⟨rfl, hs56⟩
    refine w_pure want_none (y_move (v := .int _ _) rfl rfl) rfl ?_
    refine w_call want_none Try.call70 rfl rfl rfl rfl (c70 (X := []) (lateM m r.toNat) { p with at_ := some ⟨bc, 0, none⟩, ct := cap } mb2 mm2 hk2 _ (allX_small hk.ok _) _ hM2 hs56) ?_
    rintro _ w58 ⟨B3, al3, cl3, M3, rfl, hsl3, hM3, hs59⟩
    replace hs59 := (show St _ _ (B3 ++ (M3 ++ (_ :: _ :: _ :: _ :: F))) from hs59)
    refine w_pure want_none (y_move (v := .tuple _) rfl rfl) rfl ?_
    refine w_pure want_none (y_extract (v := .slice _ _ _) rfl rfl rfl) rfl ?_
    refine w_pure want_none (y_extract (v := .int _ _) rfl rfl rfl) rfl ?_
    refine w_pure want_none (y_assign (v := .slice _ _ _) rfl rfl) rfl ?_
    refine w_pure want_none (y_assign (v := .int _ _) rfl rfl) rfl ?_
    refine w_nil ?_
    refine q_then (hK49 _ _ ?_)
    refine w_seq (fun K61 hK60 => ?_)
    refine w_region ?_
    refine w_pure want_none (y_move (v := .int _ _) rfl rfl) rfl ?_
    refine w_pure want_none (y_move (v := .int _ _) rfl rfl) rfl ?_
    refine w_pure want_none (y_sub rfl rfl rfl rfl (by omega) (by omega)) rfl ?_
    refine w_pure want_none (y_max2 rfl rfl rfl rfl) rfl ?_
    refine w_pure want_none (y_assign (v := .int _ _) rfl rfl) rfl ?_
    refine w_pure want_none (y_assign (v := _) rfl rfl) rfl ?_
    refine w_nil ?_
    refine q_then (hK60 _ _ ?_)
    refine w_ret ?_
    refine q_ret (l := [.tmp 4, .tmp 5]) (vs := [_, _]) rfl ⟨⟨rfl, show _ = (.int _ _ : Value) from rfl⟩, ⟨rfl, show _ = (.int _ _ : Value) from rfl⟩, trivial⟩ ?_
    exact ⟨by rw [lateP_2 hee]; rfl, hs59.drop.drop.tail.tail.tail.tail⟩

end Go.Proofs
