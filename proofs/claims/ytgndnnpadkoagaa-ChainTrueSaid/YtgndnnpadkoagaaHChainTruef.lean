/- Own texts of this claim, joined. No conditions. -/
import Derived.Test.YtgndnnpadkoagaaHChainTruea
import Derived.Test.YtgndnnpadkoagaaHChainTrueb
import Derived.Test.YtgndnnpadkoagaaHChainTruec
import Derived.Test.YtgndnnpadkoagaaHChainTrued
import Derived.Test.YtgndnnpadkoagaaHChainTruee
/- Walks of this seat, printed by gen.py over the engine: what each function returns, in whatever world. No conditions but those of each contract. -/
set_option linter.unusedVariables false
set_option linter.unusedSimpArgs false
set_option maxRecDepth 20000
namespace Go.Proofs
open Go.Rt Go.Rt.Ch
open Go.Rt.Ha (firstE firstE_step firstE_stop firstE_end failE nameE felt spanL upto span_mem listL fewest fewTo bit before fewStep drop_lt drop_get drop_next drop_done drop_notin set_take set_zero take_less)
attribute [local irreducible] WL WC Con Yd At Ats Sl Agree DW
theorem Try_J_fb3 (x0 : Int) (x1 : Option Addr) (l1 c1 : Nat) (x2 : Option Addr) (l2 c2 : Nat) (x3 : Option Nat) (w : World) : (Instr.build 129 [(0, .agg #[.int .i64 x0, .slice x1 l1 c1, .slice x2 l2 c2]), (1, .map x3)].toArray).run Try.prog w = .ok (.agg #[.int .i64 x0, .slice x1 l1 c1, .slice x2 l2 c2, .map x3]) w := by kernel_rfl
theorem Try_J_fb4 (x0 : Int) (w : World) : (Instr.buildSlice 39 1 [(0, .int .i64 x0)].toArray).run Try.prog w = .ok (.slice (some ⟨w.heap.size, 0, none⟩) 1 1) (w.alloc (Go.Rt.blk 3 [.int .i64 x0])) := by kernel_rfl
theorem ent_back {w0 w : World} {x y : Nat × Obj} {M F : List (Nat × Obj)} (h : St w0 w (M ++ (x :: y :: F))) : St w0 w (x :: (M ++ F)) := by
  have h1 := h.perm (perm_mid M [x, y] F)
  exact ((show St w0 w (x :: y :: (M ++ F)) from h1).perm (perm_mid [x] [y] (M ++ F))).tail
theorem bk_own {w0 : World} {F : List (Nat × Obj)} {b : Board} {p : AtB} {bb mm : Nat} (hm : BIn w0 F b p) (hok : b.Ok) : BK w0 ((bb, blk 129 [.int .i64 b.holds, .slice p.ah b.hours.length p.ch, .slice p.ac b.ctrs.length p.cc, .map (some mm)]) :: F) b p bb mm := ⟨hm.cons, ats_own (i := 0) rfl rfl, hok⟩
theorem isE {l : List (List Int)} (h : l.isEmpty = true) : l = [] := by cases l with | nil => rfl | cons _ _ => cases h
theorem isN {l : List (List Int)} (h : l.isEmpty = false) : l ≠ [] := by cases l with | nil => cases h | cons _ _ => exact fun h => by cases h
theorem c84 {w0 w : World} {F : List (Nat × Obj)} (b : Board) (p : AtB) (hs : St w0 w F) :
  Con Try.prog 84 [.agg (b.cells p).toArray] w fun v w' => ∃ bb mm, v = .pointer (some ⟨bb, 0, none⟩) ∧ St w0 w' ((bb, blk 129 [.int .i64 b.holds, .slice p.ah b.hours.length p.ch, .slice p.ac b.ctrs.length p.cc, .map (some mm)]) :: (mm, .map #[] 0) :: F) := by
  refine con_of_wc (n := 7) Try.func84 rfl rfl (Nat.le_of_ble_eq_true rfl) ?_
  refine w_seq (fun K2 hK1 => ?_)
  refine w_region ?_
  refine w_box (v := .agg #[.int _ _, .slice _ _ _, .slice _ _ _]) (cs := [_, _, _]) want_none rfl rfl rfl hs (fun b3 w4 hs5 => ?_)
  refine w_p (y_assign (v := _) rfl rfl) rfl ?_
  refine w_nil ?_
  refine q_then (hK1 _ _ ?_)
  refine w_seq (fun K7 hK6 => ?_)
  refine w_region ?_
  refine w_p (y_loadN (vs := [_, _, _]) Try.isAgg25 Try.sizeOf25 hs5 rfl rfl (ats_own (i := 0) (vs := [_, _, _]) rfl rfl)) rfl ?_
  refine w_makeMap want_none hs5 (fun b8 w9 hs10 => ?_)
  refine w_p (y_build (ps := [(0, _), (1, _)]) (pv := [(0, .agg #[.int _ _, .slice _ _ _, .slice _ _ _]), (1, .map _)]) rfl rfl (fun w => Try_J_fb3 _ _ _ _ _ _ _ _ w)) rfl ?_
  refine w_box (v := .agg #[.int _ _, .slice _ _ _, .slice _ _ _, .map _]) (cs := [_, _, _, _]) want_none rfl rfl rfl hs10 (fun b11 w12 hs13 => ?_)
  refine w_p (y_assign (v := .pointer _) rfl rfl) rfl ?_
  refine w_nil ?_
  refine q_then (hK6 _ _ ?_)
  refine w_ret ?_
  refine q_ret (l := [.tmp 2]) (vs := [_]) rfl ⟨⟨rfl, show _ = (.pointer _ : Value) from rfl⟩, trivial⟩ ?_
  exact ⟨_, _, rfl, (St.perm (L := [_, _, _] ++ F) hs13 (perm_mid [_, _] [_] F)).tail⟩

theorem c63 {w0 w : World} {F : List (Nat × Obj)} (b : Board) (p : AtB) (hm : BIn w0 F b p) (other : Int) (an : Option Addr) (cn : Nat) (ns : List Int) (hnl : ns.length ≤ 4) (hev : ns.length % 2 = 0) (hns : (check b).2.2 = 0 → ∀ j (hj : 2 * j + 1 < ns.length), 0 ≤ ns[2 * j + 1] ∧ ns[2 * j + 1] ≤ 100) (hn : Sl w0 F an 1 (ns.map fun x => [Value.int .i64 x])) (hs : St w0 w F) :
  Con Try.prog 63 [.agg (b.cells p).toArray, .int .i64 other, .slice an ns.length cn] w fun v w' => (¬ enterE b (orE (pairsE ns) other) = 0 ∧ v = .tuple #[.pointer none, .int .i64 (enterE b (orE (pairsE ns) other))] ∧ St w0 w' F) ∨ (enterE b (orE (pairsE ns) other) = 0 ∧ ∃ bb mm M, v = .tuple #[.pointer (some ⟨bb, 0, none⟩), .int .i64 0] ∧ Memo w0 b mm M ∧ St w0 w' ((bb, blk 129 [.int .i64 b.holds, .slice p.ah b.hours.length p.ch, .slice p.ac b.ctrs.length p.cc, .map (some mm)]) :: (M ++ F))) := by
  refine con_of_wc (n := 50) Try.func63 rfl rfl (Nat.le_of_ble_eq_true rfl) ?_
  refine w_seq (fun K2 hK1 => ?_)
  refine w_region ?_
  refine w_box (v := .agg #[.int _ _, .slice _ _ _, .slice _ _ _]) (cs := [_, _, _]) want_none rfl rfl rfl hs (fun b3 w4 hs5 => ?_)
  refine w_p (y_assign (v := _) rfl rfl) rfl ?_
  refine w_p (y_assign (v := _) rfl rfl) rfl ?_
  refine w_nil ?_
  refine q_then (hK1 _ _ ?_)
  refine w_seq (fun K7 hK6 => ?_)
  refine w_seq (fun K9 hK8 => ?_)
  refine w_region ?_
  refine w_p (y_loadN (vs := [_, _, _]) Try.isAgg25 Try.sizeOf25 hs5 rfl rfl (ats_own (i := 0) (vs := [_, _, _]) rfl rfl)) rfl ?_
  refine w_call want_none Try.call16 rfl rfl rfl rfl (c16 b _ hm.cons hs5) ?_
  rintro _ w11 ⟨rfl, hs12⟩
  refine w_p (y_move (v := .tuple _) rfl rfl) rfl ?_
  refine w_p (y_extract (v := .int _ _) rfl rfl rfl) rfl ?_
  refine w_p (y_extract (v := .int _ _) rfl rfl rfl) rfl ?_
  refine w_p (y_extract (v := .int _ _) rfl rfl rfl) rfl ?_
  refine w_p (y_assign (v := .int _ _) rfl rfl) rfl ?_
  refine w_p (y_assign (v := .int _ _) rfl rfl) rfl ?_
  refine w_p (y_assign (v := .int _ _) rfl rfl) rfl ?_
  refine w_nil ?_
  refine q_then (hK8 _ _ ?_)
  refine w_seq (fun K14 hK13 => ?_)
  refine w_region ?_
  refine w_p (y_move (v := .int _ _) rfl rfl) rfl ?_
  refine w_p (y_neq rfl rfl rfl rfl) rfl ?_
  refine w_nil ?_
  refine q_then (hK13 _ _ ?_)
  refine w_cond rfl rfl (fun h15 => ?_) (fun h15 => ?_)
  ·
   try simp only [zA, zB, zC, zD, zE, zF] at h15
   refine w_seq (fun K17 hK16 => ?_)
   refine w_region ?_
   refine w_p (y_move (v := .int _ _) rfl rfl) rfl ?_
   refine w_p (y_assign (v := _) rfl rfl) rfl ?_
   refine w_p (y_assign (v := .int _ _) rfl rfl) rfl ?_
   refine w_nil ?_
   refine q_then (hK16 _ _ ?_)
   refine w_ret ?_
   refine q_then_ret ?_
   refine q_ret (l := [.tmp 6, .tmp 7]) (vs := [_, _]) rfl ⟨⟨rfl, show _ = (.pointer _ : Value) from rfl⟩, ⟨rfl, show _ = (.int _ _ : Value) from rfl⟩, trivial⟩ ?_
   first
     | exact .inl ⟨by rw [enterE_1 (by assumption)]; assumption, by rw [enterE_1 (by assumption)]; rfl, hs12.tail⟩
     | (have h4 : orE (pairsE ns) other = 4 := orE_4 (hinv.trans (pairs_stop hj1 (by assumption)))
        exact .inl ⟨by rw [h4, enterE_2 hck (by decide)]; decide, by rw [h4, enterE_2 hck (by decide)]; rfl, hs12.tail⟩)
     | (have h4 : orE (pairsE ns) other = other := orE_e hp0
        exact .inl ⟨by rw [h4, enterE_2 hck (by assumption)]; assumption, by rw [h4, enterE_2 hck (by assumption)]; rfl, hs12.tail⟩)
     | (have h4 : orE (pairsE ns) other = 0 := (orE_e hp0).trans (by assumption)
        have h5 := isE (by assumption)
        exact .inl ⟨by rw [h4, enterE_3 hck rfl h5]; decide, by rw [h4, enterE_3 hck rfl h5]; rfl, hs12.tail⟩)
     | (have h4 : orE (pairsE ns) other = 0 := (orE_e hp0).trans (by assumption)
        have h5 := isN (by assumption)
        exact .inr ⟨by rw [h4, enterE_4 hck rfl h5], _, _, M2, rfl, hM2, ent_back hs12⟩)
  ·
   try simp only [zA, zB, zC, zD, zE, zF] at h15
   refine w_skip ?_
   refine q_then (hK6 _ _ ?_)
   refine w_seq (fun K19 hK18 => ?_)
   refine w_seq (fun K21 hK20 => ?_)
   have hck : (check b).2.2 = 0 := by assumption
   have hok := check_ok hck
   refine w_region ?_
   refine w_p (y_assign (v := _) rfl rfl) rfl ?_
   refine w_nil ?_
   refine q_then (hK20 _ _ ?_)
   refine w_block ?_
   refine w_loop [6, 7, 11, 22, 23, 24, 25, 26, 27, 28, 29, 30, 31, 32, 33, 34, 35, 36, 37, 38, 39, 40] [11] (fun k vs w => ∃ j : Nat, vs = [.int .i64 (2 * (j : Int))] ∧ 2 * j ≤ ns.length ∧ k = ns.length - 2 * j ∧ pairsE ns = pairsE (ns.drop (2 * j)) ∧ St w0 w ((b3, blk 25 (b.cells p)) :: F)) (ns.length) ?_ ?_
   ·
    exact ⟨0, rfl, by omega, by omega, rfl, hs12⟩
   ·
    intro k vs μ w24 hI K23 hN22
    obtain ⟨j, rfl, hja, rfl, hinv, hs⟩ := hI
    refine w_seq (fun K26 hK25 => ?_)
    refine w_seq (fun K28 hK27 => ?_)
    refine w_region ?_
    refine w_p (y_move (v := .int _ _) rfl rfl) rfl ?_
    refine w_p (y_add rfl rfl rfl rfl (by omega) (by omega)) rfl ?_
    refine w_p (y_move (v := .slice _ _ _) rfl rfl) rfl ?_
    refine w_p (y_lenS Try.underlying39 rfl rfl) rfl ?_
    refine w_p (y_lss rfl rfl rfl rfl) rfl ?_
    refine w_nil ?_
    refine q_then (hK27 _ _ ?_)
    refine w_cond rfl rfl (fun h29 => ?_) (fun h29 => ?_)
    ·
     try simp only [zA, zB, zC, zD, zE, zF] at h29
     refine w_skip ?_
     refine q_then (hK25 _ _ ?_)
     refine w_seq (fun K31 hK30 => ?_)
     refine w_block ?_
     refine w_seq (fun K33 hK32 => ?_)
     have hj1 : 2 * j + 1 < ns.length := by omega
     have hnb := hns hck j hj1
     obtain ⟨ba, oa, rfl, hx1⟩ := sl_ints hn hj1
     obtain ⟨ba2, oa2, hba2, hx0⟩ := sl_ints hn (show 2 * j < ns.length by omega)
     cases hba2
     refine w_draw [] [(0, 0), (1, 0), (2, 0), (3, 0), (4, 1), (5, 0), (6, 0), (7, 0), (8, 0), (9, 1), (10, 2), (11, 2)] Try_mo (drawOK_of (by kernel_rfl)) hs (fun w34 hs35 => ?_)
     refine d_any rfl want_none rfl (fun _ => (y_move (v := .slice _ _ _) rfl rfl)) ?_
     refine d_any rfl want_none rfl (fun _ => (y_move (v := .int _ _) rfl rfl)) ?_
     refine d_any rfl want_none rfl (fun _ => (y_add rfl rfl rfl rfl (by omega) (by omega))) ?_
     refine d_any rfl want_none rfl (fun _ => (y_indexS Try.underlying39 Try.sizeOf3 rfl rfl rfl rfl (i := 2 * j + 1) (by omega) hj1)) ?_
     refine d_take rfl want_none rfl hs35 (fun _ hq => (y_load1 Try.isAgg3 hq.tail rfl rfl hx1)) ?_
     refine d_any rfl want_none rfl (fun _ => (y_sub rfl rfl rfl rfl (by omega) (by omega))) ?_
     refine d_any rfl want_none rfl (fun _ => (y_move (v := .slice _ _ _) rfl rfl)) ?_
     refine d_any rfl want_none rfl (fun _ => (y_move (v := .int _ _) rfl rfl)) ?_
     refine d_any rfl want_none rfl (fun _ => (y_indexS Try.underlying39 Try.sizeOf3 rfl rfl rfl rfl (i := 2 * j) (by omega) (by omega))) ?_
     refine d_take rfl want_none rfl hs35 (fun _ hq => (y_load1 Try.isAgg3 hq.tail rfl rfl hx0)) ?_
     refine d_eff rfl ?_
     refine w_bslice (ps := [(0, _)]) (pv := [(0, .int _ _)]) (cs := [_]) want_none rfl rfl (fun w => Try_J_fb4 _ w) hs35 (fun b36 w37 hs38 => ?_)
     refine w_nil ?_
     refine qn ⟨hs38.tail, ?_⟩
     refine d_eff rfl ?_
     refine w_call want_none Try.call51 rfl rfl rfl rfl (c51 _ _ _ [_] _ (by simp) (sl_own (i := 0) (rows := [[_]]) rfl (by simp) rfl) hs38) ?_
     rintro _ w40 ⟨rfl, hs41⟩
     refine w_nil ?_
     refine qn ⟨hs41.tail, ?_⟩
     refine d_nil ?_
     refine q_then (hK32 _ _ ?_)
     refine w_cond rfl rfl (fun h42 => ?_) (fun h42 => ?_)
     ·
      try simp only [zA, zB, zC, zD, zE, zF] at h42
      refine w_seq (fun K44 hK43 => ?_)
      refine w_region ?_
      refine w_p (y_assign (v := _) rfl rfl) rfl ?_
      refine w_p (y_assign (v := _) rfl rfl) rfl ?_
      refine w_nil ?_
      refine q_then (hK43 _ _ ?_)
      refine w_ret ?_
      refine q_blk_ret ?_
      refine q_then_ret ?_
      refine q_then_ret ?_
      refine q_blk_ret ?_
      refine q_then_ret ?_
      refine q_ret (l := [.tmp 6, .tmp 7]) (vs := [_, _]) rfl ⟨⟨rfl, show _ = (.pointer _ : Value) from rfl⟩, ⟨rfl, show _ = (.int _ _ : Value) from rfl⟩, trivial⟩ ?_
      first
        | exact .inl ⟨by rw [enterE_1 (by assumption)]; assumption, by rw [enterE_1 (by assumption)]; rfl, hs41.tail.tail⟩
        | (have h4 : orE (pairsE ns) other = 4 := orE_4 (hinv.trans (pairs_stop hj1 (by assumption)))
           exact .inl ⟨by rw [h4, enterE_2 hck (by decide)]; decide, by rw [h4, enterE_2 hck (by decide)]; rfl, hs41.tail.tail⟩)
        | (have h4 : orE (pairsE ns) other = other := orE_e hp0
           exact .inl ⟨by rw [h4, enterE_2 hck (by assumption)]; assumption, by rw [h4, enterE_2 hck (by assumption)]; rfl, hs41.tail.tail⟩)
        | (have h4 : orE (pairsE ns) other = 0 := (orE_e hp0).trans (by assumption)
           have h5 := isE (by assumption)
           exact .inl ⟨by rw [h4, enterE_3 hck rfl h5]; decide, by rw [h4, enterE_3 hck rfl h5]; rfl, hs41.tail.tail⟩)
        | (have h4 : orE (pairsE ns) other = 0 := (orE_e hp0).trans (by assumption)
           have h5 := isN (by assumption)
           exact .inr ⟨by rw [h4, enterE_4 hck rfl h5], _, _, M2, rfl, hM2, ent_back hs41⟩)
     ·
      try simp only [zA, zB, zC, zD, zE, zF] at h42
      refine w_skip ?_
      refine q_blk_normal ?_
      refine q_then (hK30 _ _ ?_)
      refine w_region ?_
      refine w_p (y_move (v := .int _ _) rfl rfl) rfl ?_
      refine w_p (y_add rfl rfl rfl rfl (by omega) (by omega)) rfl ?_
      refine w_p (y_assign (v := .int _ _) rfl rfl) rfl ?_
      refine w_nil ?_
      refine q_then (hN22 _ _ (Nx.intro (ns.length - 2 * (j + 1)) (by omega) (by repeat (first | exact agree_mix | refine agree_upd rfl ?_ | refine agree_updL rfl ?_ _ | refine agree_mixin rfl ?_)) ?_))
      exact ⟨j + 1, iv1 (by omega), by omega, rfl, hinv.trans (pairs_next hj1 (by assumption)), hs41.tail⟩
    ·
     try simp only [zA, zB, zC, zD, zE, zF] at h29
     refine w_exit ?_
     refine q_then_exit ?_
     refine q_then_exit ?_
     refine q_blk_this ?_
     refine q_then (hK18 _ _ ?_)
     refine w_seq (fun K46 hK45 => ?_)
     refine w_seq (fun K48 hK47 => ?_)
     have hp0 : pairsE ns = 0 := hinv.trans (pairs_end (by omega))
     refine w_region ?_
     refine w_p (y_move (v := .int _ _) rfl rfl) rfl ?_
     refine w_p (y_neq rfl rfl rfl rfl) rfl ?_
     refine w_nil ?_
     refine q_then (hK47 _ _ ?_)
     refine w_cond rfl rfl (fun h49 => ?_) (fun h49 => ?_)
     ·
      try simp only [zA, zB, zC, zD, zE, zF] at h49
      refine w_seq (fun K51 hK50 => ?_)
      refine w_region ?_
      refine w_p (y_move (v := .int _ _) rfl rfl) rfl ?_
      refine w_p (y_assign (v := _) rfl rfl) rfl ?_
      refine w_p (y_assign (v := .int _ _) rfl rfl) rfl ?_
      refine w_nil ?_
      refine q_then (hK50 _ _ ?_)
      refine w_ret ?_
      refine q_then_ret ?_
      refine q_ret (l := [.tmp 6, .tmp 7]) (vs := [_, _]) rfl ⟨⟨rfl, show _ = (.pointer _ : Value) from rfl⟩, ⟨rfl, show _ = (.int _ _ : Value) from rfl⟩, trivial⟩ ?_
      first
        | exact .inl ⟨by rw [enterE_1 (by assumption)]; assumption, by rw [enterE_1 (by assumption)]; rfl, hs.tail⟩
        | (have h4 : orE (pairsE ns) other = 4 := orE_4 (hinv.trans (pairs_stop hj1 (by assumption)))
           exact .inl ⟨by rw [h4, enterE_2 hck (by decide)]; decide, by rw [h4, enterE_2 hck (by decide)]; rfl, hs.tail⟩)
        | (have h4 : orE (pairsE ns) other = other := orE_e hp0
           exact .inl ⟨by rw [h4, enterE_2 hck (by assumption)]; assumption, by rw [h4, enterE_2 hck (by assumption)]; rfl, hs.tail⟩)
        | (have h4 : orE (pairsE ns) other = 0 := (orE_e hp0).trans (by assumption)
           have h5 := isE (by assumption)
           exact .inl ⟨by rw [h4, enterE_3 hck rfl h5]; decide, by rw [h4, enterE_3 hck rfl h5]; rfl, hs.tail⟩)
        | (have h4 : orE (pairsE ns) other = 0 := (orE_e hp0).trans (by assumption)
           have h5 := isN (by assumption)
           exact .inr ⟨by rw [h4, enterE_4 hck rfl h5], _, _, M2, rfl, hM2, ent_back hs⟩)
     ·
      try simp only [zA, zB, zC, zD, zE, zF] at h49
      refine w_skip ?_
      refine q_then (hK45 _ _ ?_)
      refine w_seq (fun K53 hK52 => ?_)
      refine w_region ?_
      refine w_p (y_loadN (vs := [_, _, _]) Try.isAgg25 Try.sizeOf25 hs rfl rfl (ats_own (i := 0) (vs := [_, _, _]) rfl rfl)) rfl ?_
      refine w_call want_none Try.call84 rfl rfl rfl rfl (c84 b p hs) ?_
      rintro _ w55 ⟨bb, mm, rfl, hs56⟩
      replace hs56 := (show St _ _ (_ :: _ :: _ :: F) from hs56)
      have hs57 := swp2 hs56
      have hkb : BK w0 ((bb, blk 129 [.int .i64 b.holds, .slice p.ah b.hours.length p.ch, .slice p.ac b.ctrs.length p.cc, .map (some mm)]) :: (b3, blk 25 (b.cells p)) :: F) b p bb mm := bk_own (hm.cons) hok
      refine w_p (y_assign (v := .pointer _) rfl rfl) rfl ?_
      refine w_nil ?_
      refine q_then (hK52 _ _ ?_)
      refine w_seq (fun K59 hK58 => ?_)
      refine w_seq (fun K61 hK60 => ?_)
      refine w_region ?_
      refine w_p (y_move (v := .pointer _) rfl rfl) rfl ?_
      refine w_call want_none Try.call87 rfl rfl rfl rfl (c87 (X := []) (M := [(mm, .map #[] 0)]) b p bb mm hkb (memo_new w0 b mm) hs57) ?_
      rintro _ w63 ⟨rfl, M2, hM2, hs64⟩
      replace hs64 := (show St _ _ (M2 ++ (_ :: _ :: F)) from hs64)
      refine w_p (y_not rfl rfl) rfl ?_
      refine w_nil ?_
      refine q_then (hK60 _ _ ?_)
      refine w_cond rfl rfl (fun h65 => ?_) (fun h65 => ?_)
      ·
       try simp only [zA, zB, zC, zD, zE, zF] at h65
       refine w_seq (fun K67 hK66 => ?_)
       refine w_region ?_
       refine w_p (y_assign (v := _) rfl rfl) rfl ?_
       refine w_p (y_assign (v := _) rfl rfl) rfl ?_
       refine w_nil ?_
       refine q_then (hK66 _ _ ?_)
       refine w_ret ?_
       refine q_then_ret ?_
       refine q_ret (l := [.tmp 6, .tmp 7]) (vs := [_, _]) rfl ⟨⟨rfl, show _ = (.pointer _ : Value) from rfl⟩, ⟨rfl, show _ = (.int _ _ : Value) from rfl⟩, trivial⟩ ?_
       first
         | exact .inl ⟨by rw [enterE_1 (by assumption)]; assumption, by rw [enterE_1 (by assumption)]; rfl, hs64.drop.tail.tail⟩
         | (have h4 : orE (pairsE ns) other = 4 := orE_4 (hinv.trans (pairs_stop hj1 (by assumption)))
            exact .inl ⟨by rw [h4, enterE_2 hck (by decide)]; decide, by rw [h4, enterE_2 hck (by decide)]; rfl, hs64.drop.tail.tail⟩)
         | (have h4 : orE (pairsE ns) other = other := orE_e hp0
            exact .inl ⟨by rw [h4, enterE_2 hck (by assumption)]; assumption, by rw [h4, enterE_2 hck (by assumption)]; rfl, hs64.drop.tail.tail⟩)
         | (have h4 : orE (pairsE ns) other = 0 := (orE_e hp0).trans (by assumption)
            have h5 := isE (by assumption)
            exact .inl ⟨by rw [h4, enterE_3 hck rfl h5]; decide, by rw [h4, enterE_3 hck rfl h5]; rfl, hs64.drop.tail.tail⟩)
         | (have h4 : orE (pairsE ns) other = 0 := (orE_e hp0).trans (by assumption)
            have h5 := isN (by assumption)
            exact .inr ⟨by rw [h4, enterE_4 hck rfl h5], _, _, M2, rfl, hM2, ent_back hs64⟩)
      ·
       try simp only [zA, zB, zC, zD, zE, zF] at h65
       refine w_skip ?_
       refine q_then (hK58 _ _ ?_)
       refine w_seq (fun K69 hK68 => ?_)
       refine w_region ?_
       refine w_p (y_move (v := .pointer _) rfl rfl) rfl ?_
       refine w_p (y_assign (v := .pointer _) rfl rfl) rfl ?_
       refine w_p (y_assign (v := _) rfl rfl) rfl ?_
       refine w_nil ?_
       refine q_then (hK68 _ _ ?_)
       refine w_ret ?_
       refine q_ret (l := [.tmp 6, .tmp 7]) (vs := [_, _]) rfl ⟨⟨rfl, show _ = (.pointer _ : Value) from rfl⟩, ⟨rfl, show _ = (.int _ _ : Value) from rfl⟩, trivial⟩ ?_
       first
         | exact .inl ⟨by rw [enterE_1 (by assumption)]; assumption, by rw [enterE_1 (by assumption)]; rfl, hs64.drop.tail.tail⟩
         | (have h4 : orE (pairsE ns) other = 4 := orE_4 (hinv.trans (pairs_stop hj1 (by assumption)))
            exact .inl ⟨by rw [h4, enterE_2 hck (by decide)]; decide, by rw [h4, enterE_2 hck (by decide)]; rfl, hs64.drop.tail.tail⟩)
         | (have h4 : orE (pairsE ns) other = other := orE_e hp0
            exact .inl ⟨by rw [h4, enterE_2 hck (by assumption)]; assumption, by rw [h4, enterE_2 hck (by assumption)]; rfl, hs64.drop.tail.tail⟩)
         | (have h4 : orE (pairsE ns) other = 0 := (orE_e hp0).trans (by assumption)
            have h5 := isE (by assumption)
            exact .inl ⟨by rw [h4, enterE_3 hck rfl h5]; decide, by rw [h4, enterE_3 hck rfl h5]; rfl, hs64.drop.tail.tail⟩)
         | (have h4 : orE (pairsE ns) other = 0 := (orE_e hp0).trans (by assumption)
            have h5 := isN (by assumption)
            exact .inr ⟨by rw [h4, enterE_4 hck rfl h5], _, _, M2, rfl, hM2, ent_back hs64⟩)

end Go.Proofs
/- Walks of this seat, printed by gen.py over the engine: what each function returns, in whatever world. No conditions but those of each contract. -/
set_option linter.unusedVariables false
set_option linter.unusedSimpArgs false
set_option maxRecDepth 20000
namespace Go.Proofs
open Go.Rt Go.Rt.Ch
open Go.Rt.Ha (firstE firstE_step firstE_stop firstE_end failE nameE felt spanL upto span_mem listL fewest fewTo bit before fewStep drop_lt drop_get drop_next drop_done drop_notin set_take set_zero take_less)
attribute [local irreducible] WL WC Con Yd At Ats Sl Agree DW
theorem Try_K_fb3 (x0 : Int) (x1 : Int) (w : World) : (Instr.build 31 [(0, .int .i64 x0), (1, .int .i64 x1)].toArray).run Try.prog w = .ok (.agg #[.int .i64 x0, .int .i64 x1]) w := by kernel_rfl
theorem hull_perm (p a c g : Nat × Obj) (X M F : List (Nat × Obj)) : (p :: a :: c :: g :: (X ++ (M ++ F))).Perm (([a, c] ++ M) ++ (p :: g :: (X ++ F))) :=
  (perm_mid [p] [a, c] (g :: (X ++ (M ++ F)))).trans (List.Perm.append_left [a, c] (perm_mid (p :: g :: X) M F))
theorem mid_back2 {w0 w : World} {a c : Nat × Obj} {X M F : List (Nat × Obj)} (h : St w0 w (M ++ (a :: c :: (X ++ F)))) : St w0 w (X ++ (M ++ F)) := by
  have h1 := (h.perm (perm_mid M [a, c] (X ++ F))).tail.tail
  exact St.perm (L := M ++ (X ++ F)) h1 (perm_mid M X F)
theorem hull_cells {b5 b4 : Nat} {t t' : Bool} {x x' y y' : Int} (h0 : t = t') (h1 : x = x') (h2 : y = y') : ([(b5, blk 4 [.bool t]), (b4, blk 31 [.int .i64 x, .int .i64 y])] : List (Nat × Obj)) = [(b5, blk 4 [.bool t']), (b4, blk 31 [.int .i64 x', .int .i64 y'])] := by subst h0 h1 h2; rfl
/-- A function of loads. -/
def FIs (w0 : World) (F : List (Nat × Obj)) (b : Board) (fv : Value) (f : List Int → Int) : Prop := ∀ l ∈ truths b, ∀ (X : List (Nat × Obj)) (w : World), St w0 w (X ++ F) → FCon Try.prog fv [ia (pad4 l)] w fun v w' => v = .int .i64 (f l) ∧ St w0 w' (X ++ F)
theorem FIs.at {w0 w : World} {P M Y Q X F : List (Nat × Obj)} {b : Board} {fv : Value} {f : List Int → Int} (h : FIs w0 F b fv f) {l : List Int} (hl : l ∈ truths b) (hs : St w0 w (P ++ (M ++ (Y ++ (Q ++ (X ++ F)))))) : FCon Try.prog fv [ia (pad4 l)] w fun v w' => v = .int .i64 (f l) ∧ St w0 w' (P ++ (M ++ (Y ++ (Q ++ (X ++ F))))) := by
  have e : P ++ (M ++ (Y ++ (Q ++ (X ++ F)))) = (P ++ (M ++ (Y ++ (Q ++ X)))) ++ F := by simp only [List.append_assoc]
  rw [e] at hs ⊢
  exact h l hl _ w hs
theorem c70 {w0 w : World} {F : List (Nat × Obj)} (b : Board) (p : AtB) (bb mm : Nat) (hk : BK w0 F b p bb mm) (l : List Int) (hl4 : l.length = 4) (h40 : ∀ k, 0 ≤ ld l k ∧ ld l k ≤ 40) (hold : Int) (hs : St w0 w F) :
  Con Try.prog 70 [.pointer (some ⟨bb, 0, none⟩), ia l, .int .i64 hold] w fun v w' => v = .int .i64 (inH b hold l) ∧ St w0 w' F := by
  refine con_of_wc (n := 31) Try.func70 rfl rfl (Nat.le_of_ble_eq_true rfl) ?_
  obtain ⟨ah, ch, ac, cc, pc⟩ := p
  have hb := hk.l
  have hlh := hk.ok.lh
  refine w_seq (fun K2 hK1 => ?_)
  refine w_region ?_
  refine w_boxI (l := _) want_none rfl rfl rfl hs (fun b3 w4 hs5 => ?_)
  refine w_p (y_assign (v := _) rfl rfl) rfl ?_
  refine w_nil ?_
  refine q_then (hK1 _ _ ?_)
  refine w_scope ?_
  refine w_seq (fun K7 hK6 => ?_)
  refine w_label ?_
  refine q_then (hK6 _ _ ?_)
  refine w_seq (fun K9 hK8 => ?_)
  refine w_seq (fun K11 hK10 => ?_)
  refine w_region ?_
  refine w_p (y_move (v := .pointer _) rfl rfl) rfl ?_
  refine w_p (y_nilCheck rfl rfl) rfl ?_
  refine w_p (y_fieldAddr (o := 0) (i := 0) Try.underlying129 rfl Try.sizeOf25 rfl rfl rfl) rfl ?_
  refine w_p (y_fieldAddr (o := 1) (i := 1) Try.underlying25 rfl Try.sizeOf22 rfl rfl rfl) rfl ?_
  refine w_p (y_load1 Try.isAgg22 hs5.tail rfl rfl (show Ats _ _ _ _ [_] from Ats.part hb 1 1)) rfl ?_
  refine w_p (y_lenS Try.underlying22 rfl rfl) rfl ?_
  refine w_p (y_move (v := _) rfl rfl) rfl ?_
  refine w_nil ?_
  refine q_then (hK10 _ _ ?_)
  refine w_block ?_
  refine w_loop [6, 7, 8, 15, 16, 17, 18, 19, 20, 21, 22, 23, 24, 25, 26, 27, 28, 29] [6, 15] (fun kk vs w => ∃ k : Nat, vs = [.int .i64 (inTo b l hold k), .int .i64 k] ∧ k ≤ b.hours.length ∧ kk = b.hours.length - k ∧ St w0 w ((b3, blk 100 (iv l)) :: F)) (b.hours.length) ?_ ?_
  ·
   exact ⟨0, rfl, by omega, by omega, hs5⟩
  ·
   intro k vs μ w14 hI K13 hN12
   obtain ⟨k, rfl, hka, rfl, hs⟩ := hI
   refine w_seq (fun K16 hK15 => ?_)
   refine w_region ?_
   refine w_p (y_lss rfl rfl rfl rfl) rfl ?_
   refine w_nil ?_
   refine q_then (hK15 _ _ ?_)
   refine w_seq (fun K18 hK17 => ?_)
   refine w_cond rfl rfl (fun h19 => ?_) (fun h19 => ?_)
   ·
    try simp only [zA, zB, zC, zD, zE, zF] at h19
    refine w_skip ?_
    refine q_then (hK17 _ _ ?_)
    refine w_seq (fun K21 hK20 => ?_)
    refine w_block ?_
    refine w_seq (fun K23 hK22 => ?_)
    have hk2 : k < b.hours.length := by omega
    obtain ⟨bx, ox, hbx, hx⟩ := sl_hrows hk.i.h hk2
    subst hbx
    have hib := in_bound (h := hold) (b := b) h40 k
    have hlk := h40 k
    have hldv : ld l k = l.getD k 0 := rfl
    refine w_region ?_
    refine w_p (y_move (v := .int _ _) rfl rfl) rfl ?_
    refine w_p (y_indexS Try.underlying22 Try.sizeOf70 rfl rfl rfl rfl (i := k) rfl hk2) rfl ?_
    refine w_p (y_loadN (vs := [_, _, _]) Try.isAgg70 Try.sizeOf70 hs.tail rfl rfl hx) rfl ?_
    refine w_alloc (cs := [_, _, _]) want_none Try.zeroValue70 rfl hs (fun b24 w25 hs26 => ?_)
    refine w_p (y_assign (v := .int _ _) rfl rfl) rfl ?_
    refine w_store (i := 0) (v := .agg #[.int _ _, .int _ _, .int _ _]) (vs := [_, _, _]) want_none Try.sizeOf70 rfl rfl rfl rfl rfl (by simp [Value.oneCell']) hs26 rfl (Nat.le_of_ble_eq_true rfl) (fun w27 hs28 => ?_)
    refine w_nil ?_
    refine q_then (hK22 _ _ ?_)
    refine w_seq (fun K30 hK29 => ?_)
    refine w_seq (fun K32 hK31 => ?_)
    refine w_region ?_
    refine w_p (y_fieldAddr (o := 0) (i := 0) Try.underlying70 rfl Try.sizeOf3 rfl rfl rfl) rfl ?_
    refine w_p (y_load1 Try.isAgg3 hs28 rfl rfl (ats_own (i := 0) (vs := [_]) rfl rfl)) rfl ?_
    refine w_p (y_move (v := .int _ _) rfl rfl) rfl ?_
    refine w_p (y_neq rfl rfl rfl rfl) rfl ?_
    refine w_nil ?_
    refine q_then (hK31 _ _ ?_)
    refine w_cond rfl rfl (fun h33 => ?_) (fun h33 => ?_)
    ·
     try simp only [zA, zB, zC, zD, zE, zF] at h33
     refine w_exit ?_
     refine q_then_exit ?_
     refine q_blk_this ?_
     refine q_then (hK20 _ _ ?_)
     refine w_region ?_
     refine w_p (y_add rfl rfl rfl rfl (by omega) (by omega)) rfl ?_
     refine w_p (y_move (v := .int _ _) rfl rfl) rfl ?_
     refine w_nil ?_
     refine q_then (hN12 _ _ (Nx.intro (b.hours.length - (k + 1)) (by omega) (by repeat (first | exact agree_mix | refine agree_upd rfl ?_ | refine agree_updL rfl ?_ _ | refine agree_mixin rfl ?_)) ?_))
     first
       | exact ⟨k + 1, iv2 (in_no hk2 (by assumption)).symm rfl, by omega, rfl, hs28.tail⟩
       | exact ⟨k + 1, iv2 (in_yes hk2 (by assumption)).symm rfl, by omega, rfl, hs28.tail⟩
    ·
     try simp only [zA, zB, zC, zD, zE, zF] at h33
     refine w_skip ?_
     refine q_then (hK29 _ _ ?_)
     refine w_region ?_
     refine w_p (y_move (v := .int _ _) rfl rfl) rfl ?_
     refine w_p (y_move (v := .int _ _) rfl rfl) rfl ?_
     refine w_p (y_indexA Try.underlying100 Try.sizeOf3 rfl rfl rfl rfl (i := k) (by first | rfl | omega) (by omega)) rfl ?_
     refine w_p (y_load1 Try.isAgg3 hs28 rfl rfl (ats_ints (i := 1) (j := k) rfl (by first | omega | rfl | (simp only [hl4, List.length_map, List.length_set, List.length_append, List.length_take, List.length_drop, List.length_replicate, List.length_cons, List.length_nil] <;> omega)))) rfl ?_
     refine w_p (y_add rfl rfl rfl rfl (by omega) (by omega)) rfl ?_
     refine w_p (y_assign (v := .int _ _) rfl rfl) rfl ?_
     refine w_nil ?_
     refine q_blk_normal ?_
     refine q_then (hK20 _ _ ?_)
     refine w_region ?_
     refine w_p (y_add rfl rfl rfl rfl (by omega) (by omega)) rfl ?_
     refine w_p (y_move (v := .int _ _) rfl rfl) rfl ?_
     refine w_nil ?_
     refine q_then (hN12 _ _ (Nx.intro (b.hours.length - (k + 1)) (by omega) (by repeat (first | exact agree_mix | refine agree_upd rfl ?_ | refine agree_updL rfl ?_ _ | refine agree_mixin rfl ?_)) ?_))
     first
       | exact ⟨k + 1, iv2 (in_no hk2 (by assumption)).symm rfl, by omega, rfl, hs28.tail⟩
       | exact ⟨k + 1, iv2 (in_yes hk2 (by assumption)).symm rfl, by omega, rfl, hs28.tail⟩
   ·
    try simp only [zA, zB, zC, zD, zE, zF] at h19
    refine w_exit ?_
    refine q_then_exit ?_
    refine q_then_exit ?_
    refine q_blk_this ?_
    refine q_then (hK8 _ _ ?_)
    refine w_seq (fun K35 hK34 => ?_)
    refine w_region ?_
    refine w_p (y_move (v := .int _ _) rfl rfl) rfl ?_
    refine w_p (y_assign (v := .int _ _) rfl rfl) rfl ?_
    refine w_nil ?_
    refine q_then (hK34 _ _ ?_)
    refine w_ret ?_
    refine q_ng_ret ?_
    refine q_ret (l := [.tmp 6]) (vs := [_]) rfl ⟨⟨rfl, show _ = (.int _ _ : Value) from rfl⟩, trivial⟩ ?_
    have hkn : k = b.hours.length := by omega
    subst hkn
    exact ⟨rfl, hs.tail⟩

theorem c64 {w0 w : World} {X M F : List (Nat × Obj)} (b : Board) (p : AtB) (bb mm : Nat) (hk : BK w0 F b p bb mm) (fk : FuncId) (f1 cp : Array Value) (f : List Int → Int) (hf : FIs w0 F b (.func (.func fk) f1 cp) f) (hM : Memo w0 b mm M) (hs : St w0 w (X ++ (M ++ F))) :
  Con Try.prog 64 [.pointer (some ⟨bb, 0, none⟩), .func (.func fk) f1 cp] w fun v w' => v = .agg #[.int .i64 (hullL f (truths b)).1, .int .i64 (hullL f (truths b)).2] ∧ ∃ M', Memo w0 b mm M' ∧ St w0 w' (X ++ (M' ++ F)) := by
  refine con_of_wcM (n := 28) Try.func64 rfl rfl (Nat.le_of_ble_eq_true rfl) ?_
  refine w_seq (fun K2 hK1 => ?_)
  refine w_region ?_
  refine w_box (v := .func _ _ _) (cs := [_]) want_none rfl rfl rfl hs (fun b3 w4 hs5 => ?_)
  refine w_alloc (cs := [_, _]) want_none Try.zeroValue31 rfl hs5 (fun b6 w7 hs8 => ?_)
  refine w_nil ?_
  refine q_then (hK1 _ _ ?_)
  refine w_seq (fun K10 hK9 => ?_)
  refine w_region ?_
  refine w_alloc (cs := [_]) want_none Try.zeroValue4 rfl hs8 (fun b11 w12 hs13 => ?_)
  refine w_store (i := 0) (v := .bool _) (vs := [_]) want_none Try.sizeOf4 rfl rfl rfl rfl rfl (by simp [Value.oneCell']) hs13 rfl (Nat.le_of_ble_eq_true rfl) (fun w14 hs15 => ?_)
  refine w_nil ?_
  refine q_then (hK9 _ _ ?_)
  refine w_seq (fun K17 hK16 => ?_)
  refine w_seq (fun K19 hK18 => ?_)
  refine w_region ?_
  refine w_p (y_move (v := .pointer _) rfl rfl) rfl ?_
  refine w_call want_none Try.call80 rfl rfl rfl rfl (c80 _ hs15) ?_
  rintro _ w21 ⟨bp, rfl, hs22⟩
  refine w_nil ?_
  refine q_then (hK18 _ _ ?_)
  refine w_block ?_
  refine w_rangeC ([_, _] ++ M) (fun i Bx => ∃ B M, Bx = B ++ M ∧ Memo w0 b mm M ∧ B = [(b11, blk 4 [.bool (decide (i = 0))]), (b6, blk 31 [.int .i64 (hullL f ((truths b).take (i))).1, .int .i64 (hullL f ((truths b).take (i))).2])]) (fun c Bx => ∃ B M, Bx = B ++ M ∧ Memo w0 b mm M ∧ False) rfl rfl rfl Try.call106 (truths_iter b p bb mm hk.app.cons.cons bp (ats_own (i := 0) (vs := [_]) rfl rfl)) (clsM_range (fun i B => B = [(b11, blk 4 [.bool (decide (i = 0))]), (b6, blk 31 [.int .i64 (hullL f ((truths b).take (i))).1, .int .i64 (hullL f ((truths b).take (i))).2])]) (fun c B => False) (fun i Bx => Iff.rfl) (fun c Bx => Iff.rfl)) hs22 (hull_perm _ _ _ _ _ _ _) ⟨_, M, rfl, hM, rfl⟩ ?_ ?_ ?_
  ·
   intro lp i hi Bx Xr Xr2 w24 hJ hs K hK23
   obtain ⟨BB, M3, rfl, hM3, rfl⟩ := hJ
   have hi2 : i < (truths b).length := by simpa using hi
   rw [List.getElem_map, List.getElem_map]
   have htm := List.getElem_mem hi2
   have hpl := pad_len hk.ok htm
   have hfa := hf _ htm
   obtain ⟨h, hh⟩ : ∃ h, h = pad4 (truths b)[i] := ⟨_, rfl⟩
   rw [← hh] at hpl hfa ⊢
   have hx3 : Ats w0 ((bp, blk 95 [.pointer (some ⟨bb, 0, none⟩)]) :: (b3, blk 101 [.func (.func fk) f1 cp]) :: (X ++ F)) b3 0 [.func (.func fk) f1 cp] := ats_own (i := 1) rfl rfl
   replace hs := (show St _ _ (_ :: _ :: (M3 ++ (Xr ++ (_ :: _ :: (X ++ F))))) from hs)
   refine w_region ?_
   refine w_alloc (cs := iv [0, 0, 0, 0]) want_none Try.zeroValue100 rfl hs (fun b25 w26 hs27 => ?_)
   refine w_storeI (i := 0) (l := _) want_none Try.sizeOf100 (by first | omega | rfl | (simp only [hpl, List.length_map, List.length_set, List.length_append, List.length_take, List.length_drop, List.length_replicate, List.length_cons, List.length_nil] <;> omega)) rfl rfl rfl rfl rfl hs27 rfl (by first | omega | rfl | (simp only [hpl, List.length_map, List.length_set, List.length_append, List.length_take, List.length_drop, List.length_replicate, List.length_cons, List.length_nil] <;> omega)) (fun w28 hs29 => ?_)
   refine w_nil ?_
   refine q_then (hK23 _ _ (_ :: _ :: _ :: M3) hs29 (fun w30 hs31 => ?_))
   replace hs31 := (show St _ _ (_ :: _ :: _ :: M3 ++ (Xr2 ++ (_ :: _ :: X ++ (F)))) from hs31)
   refine w_block ?_
   refine w_seq (fun K33 hK32 => ?_)
   refine w_region ?_
   refine w_p (y_load1 Try.isAgg101 hs31.tail.tail.tail.drop.drop rfl rfl hx3) rfl ?_
   refine w_p (y_loadI (i := 0) Try.isAgg100 Try.sizeOf100 (by first | omega | rfl | (simp only [hpl, List.length_map, List.length_set, List.length_append, List.length_take, List.length_drop, List.length_replicate, List.length_cons, List.length_nil] <;> omega)) hs31 rfl rfl rfl) rfl ?_
   refine w_callV want_none rfl rfl rfl rfl ((show FCon _ _ _ _ _ from by rw [hh]; exact hf.at (P := [_, _, _]) (M := M3) (Y := Xr2) (Q := [_, _]) (X := X) htm hs31)) ?_
   rintro _ w35 ⟨rfl, hs36⟩
   replace hs36 := (show St _ _ (_ :: _ :: _ :: M3 ++ (Xr2 ++ (_ :: _ :: X ++ (F)))) from hs36)
   refine w_p (y_assign (v := .int _ _) rfl rfl) rfl ?_
   refine w_nil ?_
   refine q_then (hK32 _ _ ?_)
   refine w_seq (fun K38 hK37 => ?_)
   refine w_seq (fun K40 hK39 => ?_)
   refine w_region ?_
   refine w_p (y_load1 Try.isAgg4 hs36 rfl rfl (ats_own (i := 1) (vs := [_]) rfl rfl)) rfl ?_
   refine w_nil ?_
   refine q_then (hK39 _ _ ?_)
   refine w_cond rfl rfl (fun h41 => ?_) (fun h41 => ?_)
   ·
    try simp only [zA, zB, zC, zD, zE, zF] at h41
    refine w_region ?_
    refine w_p (y_move (v := .int _ _) rfl rfl) rfl ?_
    refine w_p (y_move (v := .int _ _) rfl rfl) rfl ?_
    refine w_p (y_build (ps := [(0, _), (1, _)]) (pv := [(0, .int _ _), (1, .int _ _)]) rfl rfl (fun w => Try_K_fb3 _ _ w)) rfl ?_
    refine w_store (i := 2) (v := .agg #[.int _ _, .int _ _]) (vs := [_, _]) want_none Try.sizeOf31 rfl rfl rfl rfl rfl (by simp [Value.oneCell']) hs36 rfl (Nat.le_of_ble_eq_true rfl) (fun w42 hs43 => ?_)
    refine w_store (i := 1) (v := .bool _) (vs := [_]) want_none Try.sizeOf4 rfl rfl rfl rfl rfl (by simp [Value.oneCell']) hs43 rfl (Nat.le_of_ble_eq_true rfl) (fun w44 hs45 => ?_)
    refine w_nil ?_
    refine q_then (hK37 _ _ ?_)
    refine w_region ?_
    refine w_p (y_fieldAddr (o := 0) (i := 0) Try.underlying31 rfl Try.sizeOf3 rfl rfl rfl) rfl ?_
    refine w_p (y_load1 Try.isAgg3 hs45 rfl rfl (ats_own (i := 2) (vs := [_]) rfl rfl)) rfl ?_
    refine w_p (y_move (v := .int _ _) rfl rfl) rfl ?_
    refine w_p (y_min2 rfl rfl rfl rfl) rfl ?_
    refine w_p (y_fieldAddr (o := 1) (i := 1) Try.underlying31 rfl Try.sizeOf3 rfl rfl rfl) rfl ?_
    refine w_p (y_load1 Try.isAgg3 hs45 rfl rfl (ats_own (i := 2) (vs := [_]) rfl rfl)) rfl ?_
    refine w_p (y_move (v := .int _ _) rfl rfl) rfl ?_
    refine w_p (y_max2 rfl rfl rfl rfl) rfl ?_
    refine w_p (y_build (ps := [(0, _), (1, _)]) (pv := [(0, .int _ _), (1, .int _ _)]) rfl rfl (fun w => Try_K_fb3 _ _ w)) rfl ?_
    refine w_store (i := 2) (v := .agg #[.int _ _, .int _ _]) (vs := [_, _]) want_none Try.sizeOf31 rfl rfl rfl rfl rfl (by simp [Value.oneCell']) hs45 rfl (Nat.le_of_ble_eq_true rfl) (fun w46 hs47 => ?_)
    refine w_nil ?_
    refine q_blk_normal ?_
    refine rd_normal (_ :: _ :: M3) hs47.tail ?_
    first
      | exact ⟨_, M3, rfl, hM3, hull_cells (decide_eq_false (by omega)).symm (by rw [hull_first hi2 (by omega)]) (by rw [hull_first hi2 (by omega)])⟩
      | exact ⟨_, M3, rfl, hM3, hull_cells (by rw [decide_eq_false (by omega), decide_eq_false (by omega)]) (by rw [hull_next hi2 (by omega)]) (by rw [hull_next hi2 (by omega)])⟩
   ·
    try simp only [zA, zB, zC, zD, zE, zF] at h41
    refine w_skip ?_
    refine q_then (hK37 _ _ ?_)
    refine w_region ?_
    refine w_p (y_fieldAddr (o := 0) (i := 0) Try.underlying31 rfl Try.sizeOf3 rfl rfl rfl) rfl ?_
    refine w_p (y_load1 Try.isAgg3 hs36 rfl rfl (ats_own (i := 2) (vs := [_]) rfl rfl)) rfl ?_
    refine w_p (y_move (v := .int _ _) rfl rfl) rfl ?_
    refine w_p (y_min2 rfl rfl rfl rfl) rfl ?_
    refine w_p (y_fieldAddr (o := 1) (i := 1) Try.underlying31 rfl Try.sizeOf3 rfl rfl rfl) rfl ?_
    refine w_p (y_load1 Try.isAgg3 hs36 rfl rfl (ats_own (i := 2) (vs := [_]) rfl rfl)) rfl ?_
    refine w_p (y_move (v := .int _ _) rfl rfl) rfl ?_
    refine w_p (y_max2 rfl rfl rfl rfl) rfl ?_
    refine w_p (y_build (ps := [(0, _), (1, _)]) (pv := [(0, .int _ _), (1, .int _ _)]) rfl rfl (fun w => Try_K_fb3 _ _ w)) rfl ?_
    refine w_store (i := 2) (v := .agg #[.int _ _, .int _ _]) (vs := [_, _]) want_none Try.sizeOf31 rfl rfl rfl rfl rfl (by simp [Value.oneCell']) hs36 rfl (Nat.le_of_ble_eq_true rfl) (fun w48 hs49 => ?_)
    refine w_nil ?_
    refine q_blk_normal ?_
    refine rd_normal (_ :: _ :: M3) hs49.tail ?_
    first
      | exact ⟨_, M3, rfl, hM3, hull_cells (decide_eq_false (by omega)).symm (by rw [hull_first hi2 (by omega)]) (by rw [hull_first hi2 (by omega)])⟩
      | exact ⟨_, M3, rfl, hM3, hull_cells (by rw [decide_eq_false (by omega), decide_eq_false (by omega)]) (by rw [hull_next hi2 (by omega)]) (by rw [hull_next hi2 (by omega)])⟩
  ·
   intro bd Bx w50 hJ hs
   obtain ⟨BB, M3, rfl, hM3, rfl⟩ := hJ
   rw [List.length_map, List.length_map, List.take_length] at hs
   replace hs := (show St _ _ (_ :: _ :: _ :: (M3 ++ (_ :: _ :: (X ++ F)))) from hs)
   refine q_blk_normal ?_
   refine q_then (hK16 _ _ ?_)
   refine w_seq (fun K52 hK51 => ?_)
   refine w_region ?_
   refine w_p (y_loadN (vs := [_, _]) Try.isAgg31 Try.sizeOf31 hs rfl rfl (ats_own (i := 2) (vs := [_, _]) rfl rfl)) rfl ?_
   refine w_store (i := 2) (v := .agg #[.int _ _, .int _ _]) (vs := [_, _]) want_none Try.sizeOf31 rfl rfl rfl rfl rfl (by simp [Value.oneCell']) hs rfl (Nat.le_of_ble_eq_true rfl) (fun w53 hs54 => ?_)
   refine w_nil ?_
   refine q_then (hK51 _ _ ?_)
   refine w_ret ?_
   refine q_retM (i := 0) (l := [.cell 4 31]) (vs := [_]) hs54 rfl rfl (fun w55 hs56 => ⟨⟨⟨rfl, _, rfl, run_loadVarN (vs := [_, _]) Try.isAgg31 Try.sizeOf31 hs56 (ats_own (i := 2) (vs := [_, _]) rfl rfl)⟩, trivial⟩, ?_⟩)
   exact ⟨rfl, M3, hM3, mid_back2 hs56.tail.tail.tail⟩
  ·
   intro _ _ _ _ hJ
   obtain ⟨_, _, _, _, h⟩ := hJ
   exact h.elim

end Go.Proofs
/- Walks of this seat, printed by gen.py over the engine: what each function returns, in whatever world. No conditions but those of each contract. -/
set_option linter.unusedVariables false
set_option linter.unusedSimpArgs false
set_option maxRecDepth 20000
namespace Go.Proofs
open Go.Rt Go.Rt.Ch
open Go.Rt.Ha (firstE firstE_step firstE_stop firstE_end failE nameE felt spanL upto span_mem listL fewest fewTo bit before fewStep drop_lt drop_get drop_next drop_done drop_notin set_take set_zero take_less)
attribute [local irreducible] WL WC Con Yd At Ats Sl Agree DW
theorem Try_L_fb3 (x0 : Int) (x1 : Int) (w : World) : (Instr.buildSlice 39 2 [(0, .int .i64 x0), (1, .int .i64 x1)].toArray).run Try.prog w = .ok (.slice (some ⟨w.heap.size, 0, none⟩) 2 2) (w.alloc (Go.Rt.blk 3 [.int .i64 x0, .int .i64 x1])) := by kernel_rfl
theorem hns_h {b : Board} (a : Int) : (check b).2.2 = 0 → ∀ j (hj : 2 * j + 1 < [a, (b.hours.length : Int)].length), 0 ≤ [a, (b.hours.length : Int)][2 * j + 1] ∧ [a, (b.hours.length : Int)][2 * j + 1] ≤ 100 := by
  intro hc j hj
  have := (check_ok hc).lh
  have hj0 : j = 0 := by simp at hj; omega
  subst hj0
  show 0 ≤ (b.hours.length : Int) ∧ (b.hours.length : Int) ≤ 100
  omega
theorem hns_c {b : Board} (a : Int) : (check b).2.2 = 0 → ∀ j (hj : 2 * j + 1 < [a, (b.ctrs.length : Int)].length), 0 ≤ [a, (b.ctrs.length : Int)][2 * j + 1] ∧ [a, (b.ctrs.length : Int)][2 * j + 1] ≤ 100 := by
  intro hc j hj
  have := (check_ok hc).lc
  have hj0 : j = 0 := by simp at hj; omega
  subst hj0
  show 0 ≤ (b.ctrs.length : Int) ∧ (b.ctrs.length : Int) ≤ 100
  omega
theorem hns_b {b : Board} (a : Int) : (check b).2.2 = 0 → ∀ j (hj : 2 * j + 1 < [a, b.holds].length), 0 ≤ [a, b.holds][2 * j + 1] ∧ [a, b.holds][2 * j + 1] ≤ 100 := by
  intro hc j hj
  have := (check_ok hc).holds
  have hj0 : j = 0 := by simp at hj; omega
  subst hj0
  show 0 ≤ b.holds ∧ b.holds ≤ 100
  omega
theorem hns_4 {b : Board} (c a : Int) : (check b).2.2 = 0 → ∀ j (hj : 2 * j + 1 < [c, (b.ctrs.length : Int), a, (b.hours.length : Int)].length), 0 ≤ [c, (b.ctrs.length : Int), a, (b.hours.length : Int)][2 * j + 1] ∧ [c, (b.ctrs.length : Int), a, (b.hours.length : Int)][2 * j + 1] ≤ 100 := by
  intro hc j hj
  have h1 := (check_ok hc).lc
  have h2 := (check_ok hc).lh
  have hj0 : j = 0 ∨ j = 1 := by simp at hj; omega
  rcases hj0 with rfl | rfl
  · show 0 ≤ (b.ctrs.length : Int) ∧ (b.ctrs.length : Int) ≤ 100
    omega
  · show 0 ≤ (b.hours.length : Int) ∧ (b.hours.length : Int) ≤ 100
    omega
theorem idxE_ok {n below : Int} (h : idxE n below = 0) : 0 ≤ n ∧ n < below := by
  unfold idxE at h
  cases ho : out 0 (below - 1) n with
  | true => rw [ho] at h; cases h
  | false => have := out_f.1 ho; omega
theorem wentP_e {b : Board} {a : Int} (h : ¬ enterE b (idxE a b.hours.length) = 0) : wentP b a = ((0, 0), enterE b (idxE a b.hours.length)) := by unfold wentP; rw [if_pos h]
theorem wentP_y {b : Board} {a : Int} (h : enterE b (idxE a b.hours.length) = 0) : wentP b a = (hullL (fun l => ld l a.toNat) (truths b), 0) := by unfold wentP; rw [if_neg (by simp [h])]
theorem holdP_e {b : Board} {a : Int} (h : ¬ enterE b (idxE a b.holds) = 0) : holdP b a = ((0, 0), enterE b (idxE a b.holds)) := by unfold holdP; rw [if_pos h]
theorem holdP_y {b : Board} {a : Int} (h : enterE b (idxE a b.holds) = 0) : holdP b a = (hullL (inH b a) (truths b), 0) := by unfold holdP; rw [if_neg (by simp [h])]
theorem c65 {w0 w : World} {F : List (Nat × Obj)} (l : List Int) (hl4 : l.length = 4) (a : Int) (ha : 0 ≤ a ∧ a < 4) (ba : Nat) (hb : Ats w0 F ba 0 [.int .i64 a]) (hs : St w0 w F) :
  Con Try.prog 65 [ia l, .pointer (some ⟨ba, 0, none⟩)] w fun v w' => v = .int .i64 (ld l a.toNat) ∧ St w0 w' F := by
  refine con_of_wc (n := 7) Try.func65 rfl rfl (Nat.le_of_ble_eq_true rfl) ?_
  refine w_seq (fun K2 hK1 => ?_)
  refine w_region ?_
  refine w_boxI (l := _) want_none rfl rfl rfl hs (fun b3 w4 hs5 => ?_)
  refine w_p (y_assign (v := _) rfl rfl) rfl ?_
  refine w_nil ?_
  refine q_then (hK1 _ _ ?_)
  refine w_seq (fun K7 hK6 => ?_)
  refine w_region ?_
  refine w_p (y_load1 Try.isAgg3 hs5.tail rfl rfl hb) rfl ?_
  refine w_p (y_indexA Try.underlying100 Try.sizeOf3 rfl rfl rfl rfl (i := a.toNat) (by first | rfl | omega) (by omega)) rfl ?_
  refine w_p (y_load1 Try.isAgg3 hs5 rfl rfl (ats_ints (i := 0) (j := a.toNat) rfl (by first | omega | rfl | (simp only [hl4, List.length_map, List.length_set, List.length_append, List.length_take, List.length_drop, List.length_replicate, List.length_cons, List.length_nil] <;> omega)))) rfl ?_
  refine w_p (y_assign (v := .int _ _) rfl rfl) rfl ?_
  refine w_nil ?_
  refine q_then (hK6 _ _ ?_)
  refine w_ret ?_
  refine q_ret (l := [.tmp 3]) (vs := [_]) rfl ⟨⟨rfl, show _ = (.int _ _ : Value) from rfl⟩, trivial⟩ ?_
  exact ⟨rfl, hs5.tail⟩

theorem c69 {w0 w : World} {F : List (Nat × Obj)} (b : Board) (p : AtB) (bb mm : Nat) (hk : BK w0 F b p bb mm) (l : List Int) (hl4 : l.length = 4) (h40 : ∀ k, 0 ≤ ld l k ∧ ld l k ≤ 40) (hold : Int) (bp bh : Nat) (h1 : Ats w0 F bp 0 [.pointer (some ⟨bb, 0, none⟩)]) (h2 : Ats w0 F bh 0 [.int .i64 hold]) (hs : St w0 w F) :
  Con Try.prog 69 [ia l, .pointer (some ⟨bp, 0, none⟩), .pointer (some ⟨bh, 0, none⟩)] w fun v w' => v = .int .i64 (inH b hold l) ∧ St w0 w' F := by
  refine con_of_wc (n := 9) Try.func69 rfl rfl (Nat.le_of_ble_eq_true rfl) ?_
  refine w_seq (fun K2 hK1 => ?_)
  refine w_region ?_
  refine w_boxI (l := _) want_none rfl rfl rfl hs (fun b3 w4 hs5 => ?_)
  refine w_p (y_assign (v := _) rfl rfl) rfl ?_
  refine w_nil ?_
  refine q_then (hK1 _ _ ?_)
  refine w_seq (fun K7 hK6 => ?_)
  refine w_region ?_
  refine w_p (y_load1 Try.isAgg95 hs5.tail rfl rfl h1) rfl ?_
  refine w_p (y_loadI (i := 0) Try.isAgg100 Try.sizeOf100 (by first | omega | rfl | (simp only [hl4, List.length_map, List.length_set, List.length_append, List.length_take, List.length_drop, List.length_replicate, List.length_cons, List.length_nil] <;> omega)) hs5 rfl rfl rfl) rfl ?_
  refine w_p (y_load1 Try.isAgg3 hs5.tail rfl rfl h2) rfl ?_
  refine w_call want_none Try.call70 rfl rfl rfl rfl (c70 b p bb mm hk.cons l hl4 h40 hold hs5) ?_
  rintro _ w9 ⟨rfl, hs10⟩
  refine w_p (y_assign (v := .int _ _) rfl rfl) rfl ?_
  refine w_nil ?_
  refine q_then (hK6 _ _ ?_)
  refine w_ret ?_
  refine q_ret (l := [.tmp 4]) (vs := [_]) rfl ⟨⟨rfl, show _ = (.int _ _ : Value) from rfl⟩, trivial⟩ ?_
  exact ⟨rfl, hs10.tail⟩

theorem c18 {w0 w : World} {F : List (Nat × Obj)} (b : Board) (p : AtB) (hm : BIn w0 F b p) (a : Int) (hs : St w0 w F) :
  Con Try.prog 18 [.agg (b.cells p).toArray, .int .i64 a] w fun v w' => v = .tuple #[.agg #[.int .i64 (wentP b a).1.1, .int .i64 (wentP b a).1.2], .int .i64 (wentP b a).2] ∧ St w0 w' F := by
  refine con_of_wc (n := 24) Try.func18 rfl rfl (Nat.le_of_ble_eq_true rfl) ?_
  have hlh0 := hm.lh
  have hlc0 := hm.lc
  refine w_seq (fun K2 hK1 => ?_)
  refine w_region ?_
  refine w_box (v := .agg #[.int _ _, .slice _ _ _, .slice _ _ _]) (cs := [_, _, _]) want_none rfl rfl rfl hs (fun b3 w4 hs5 => ?_)
  refine w_box (v := .int _ _) (cs := [_]) want_none rfl rfl rfl hs5 (fun b6 w7 hs8 => ?_)
  refine w_alloc (cs := [_, _]) want_none Try.zeroValue31 rfl hs8 (fun b9 w10 hs11 => ?_)
  refine w_p (y_assign (v := _) rfl rfl) rfl ?_
  refine w_nil ?_
  refine q_then (hK1 _ _ ?_)
  refine w_seq (fun K13 hK12 => ?_)
  refine w_region ?_
  refine w_p (y_loadN (vs := [_, _, _]) Try.isAgg25 Try.sizeOf25 hs11 rfl rfl (ats_own (i := 2) (vs := [_, _, _]) rfl rfl)) rfl ?_
  refine w_p (y_load1 Try.isAgg3 hs11 rfl rfl (ats_own (i := 1) (vs := [_]) rfl rfl)) rfl ?_
  refine w_p (y_fieldAddr (o := 1) (i := 1) Try.underlying25 rfl Try.sizeOf22 rfl rfl rfl) rfl ?_
  refine w_p (y_load1 Try.isAgg22 hs11 rfl rfl (ats_own (i := 2) (vs := [_]) rfl rfl)) rfl ?_
  refine w_p (y_lenS Try.underlying22 rfl rfl) rfl ?_
  refine w_bslice (ps := [(0, _), (1, _)]) (pv := [(0, .int _ _), (1, .int _ _)]) (cs := [_, _]) want_none rfl rfl (fun w => Try_L_fb3 _ _ w) hs11 (fun b14 w15 hs16 => ?_)
  refine w_call want_none Try.call63 rfl rfl rfl rfl ((by have h := c63 b _ hm.cons.cons.cons.cons 0 (some ⟨b14, 0, none⟩) 2 [a, (b.hours.length : Int)] (by simp) (by simp) (hns_h a) (sl_own (i := 0) (rows := [[_], [_]]) rfl (by simp) rfl) hs16; rw [pairs_two] at h; exact h)) ?_
  rintro _ w18 (⟨hee, rfl, hs19⟩ | ⟨hee, bb, mm, M, rfl, hM, hs19⟩)
  ·
   refine w_p (y_move (v := .tuple _) rfl rfl) rfl ?_
   refine w_p (y_extract (v := .pointer _) rfl rfl rfl) rfl ?_
   refine w_p (y_extract (v := .int _ _) rfl rfl rfl) rfl ?_
   refine w_p (y_assign (v := .pointer _) rfl rfl) rfl ?_
   refine w_p (y_assign (v := .int _ _) rfl rfl) rfl ?_
   refine w_nil ?_
   refine q_then (hK12 _ _ ?_)
   refine w_seq (fun K21 hK20 => ?_)
   refine w_seq (fun K23 hK22 => ?_)
   refine w_region ?_
   refine w_p (y_move (v := .int _ _) rfl rfl) rfl ?_
   refine w_p (y_neq rfl rfl rfl rfl) rfl ?_
   refine w_nil ?_
   refine q_then (hK22 _ _ ?_)
   refine w_cond rfl rfl (fun h24 => ?_) (fun h24 => ?_)
   ·
    try simp only [zA, zB, zC, zD, zE, zF] at h24
    refine w_seq (fun K26 hK25 => ?_)
    refine w_region ?_
    refine w_p (y_loadN (vs := [_, _]) Try.isAgg31 Try.sizeOf31 hs19 rfl rfl (ats_own (i := 1) (vs := [_, _]) rfl rfl)) rfl ?_
    refine w_p (y_move (v := .int _ _) rfl rfl) rfl ?_
    refine w_store (i := 1) (v := .agg #[.int _ _, .int _ _]) (vs := [_, _]) want_none Try.sizeOf31 rfl rfl rfl rfl rfl (by simp [Value.oneCell']) hs19 rfl (Nat.le_of_ble_eq_true rfl) (fun w27 hs28 => ?_)
    refine w_p (y_assign (v := .int _ _) rfl rfl) rfl ?_
    refine w_nil ?_
    refine q_then (hK25 _ _ ?_)
    refine w_ret ?_
    refine q_then_ret ?_
    refine q_ret (l := [.cell 4 31, .tmp 5]) (vs := [_, _]) rfl ⟨⟨rfl, _, rfl, run_loadVarN (vs := [_, _]) Try.isAgg31 Try.sizeOf31 hs28 (ats_own (i := 1) (vs := [_, _]) rfl rfl)⟩, ⟨rfl, show _ = (.int _ _ : Value) from rfl⟩, trivial⟩ ?_
    exact ⟨by rw [wentP_e hee]; rfl, hs28.tail.tail.tail.tail⟩
   ·
    exfalso
    try simp only [zA, zB, zC, zD, zE, zF] at h24
    first | exact hee h24 | exact h24 hee
  ·
   replace hs19 := (show St _ _ (_ :: M ++ (_ :: _ :: _ :: _ :: F)) from hs19)
   have hs29 := (show St _ _ ([_] ++ (M ++ _)) from hs19).perm (perm_mid [_] M _)
   replace hs29 := (show St _ _ (M ++ (_ :: _ :: _ :: _ :: _ :: F)) from hs29)
   have hew := enterE_ok hee
   have hok := check_ok hew.1
   refine w_p (y_move (v := .tuple _) rfl rfl) rfl ?_
   refine w_p (y_extract (v := .pointer _) rfl rfl rfl) rfl ?_
   refine w_p (y_extract (v := .int _ _) rfl rfl rfl) rfl ?_
   refine w_p (y_assign (v := .pointer _) rfl rfl) rfl ?_
   refine w_p (y_assign (v := .int _ _) rfl rfl) rfl ?_
   refine w_nil ?_
   refine q_then (hK12 _ _ ?_)
   refine w_seq (fun K31 hK30 => ?_)
   refine w_seq (fun K33 hK32 => ?_)
   refine w_region ?_
   refine w_p (y_move (v := .int _ _) rfl rfl) rfl ?_
   refine w_p (y_neq rfl rfl rfl rfl) rfl ?_
   refine w_nil ?_
   refine q_then (hK32 _ _ ?_)
   refine w_condF rfl rfl ?_
   refine w_skip ?_
   refine q_then (hK30 _ _ ?_)
   refine w_seq (fun K35 hK34 => ?_)
   have hia := idxE_ok hew.2.1
   have hlh := hok.lh
   refine w_region ?_
   refine w_p (y_move (v := .pointer _) rfl rfl) rfl ?_
   refine w_p (y_makeFunc (fv := []) (cv := [_]) rfl rfl rfl rfl) rfl ?_
   refine w_call want_none Try.call64 rfl rfl rfl rfl (c64 (X := []) (M := M) (F := (bb, blk 129 [.int .i64 b.holds, .slice p.ah b.hours.length p.ch, .slice p.ac b.ctrs.length p.cc, .map (some mm)]) :: _ :: _ :: _ :: _ :: F) b p bb mm ⟨hm.cons.cons.cons.cons.cons, ats_own (i := 0) rfl rfl, hok⟩ 65 #[] #[.pointer (some ⟨b6, 0, none⟩)] (fun l => ld l a.toNat) (fun l hl X w hs => fcon_fn Try.call65 ((c65 (pad4 l) (pad_len hok hl) a (by omega) _ (Ats.app (ats_own (i := 3) (vs := [_]) rfl rfl)) hs).mono fun v w h => ⟨by rw [h.1, ld_pad], h.2⟩)) hM hs29) ?_
   rintro _ w37 ⟨rfl, M2, hM2, hs38⟩
   replace hs38 := (show St _ _ (M2 ++ (_ :: _ :: _ :: _ :: _ :: F)) from hs38)
   have hs39 := hs38.drop
   refine w_store (i := 2) (v := .agg #[.int _ _, .int _ _]) (vs := [_, _]) want_none Try.sizeOf31 rfl rfl rfl rfl rfl (by simp [Value.oneCell']) hs39 rfl (Nat.le_of_ble_eq_true rfl) (fun w40 hs41 => ?_)
   refine w_p (y_assign (v := _) rfl rfl) rfl ?_
   refine w_nil ?_
   refine q_then (hK34 _ _ ?_)
   refine w_ret ?_
   refine q_ret (l := [.cell 4 31, .tmp 5]) (vs := [_, _]) rfl ⟨⟨rfl, _, rfl, run_loadVarN (vs := [_, _]) Try.isAgg31 Try.sizeOf31 hs41 (ats_own (i := 2) (vs := [_, _]) rfl rfl)⟩, ⟨rfl, show _ = (.int _ _ : Value) from rfl⟩, trivial⟩ ?_
   exact ⟨by rw [wentP_y hee]; rfl, hs41.tail.tail.tail.tail.tail⟩

theorem c20 {w0 w : World} {F : List (Nat × Obj)} (b : Board) (p : AtB) (hm : BIn w0 F b p) (a : Int) (hs : St w0 w F) :
  Con Try.prog 20 [.agg (b.cells p).toArray, .int .i64 a] w fun v w' => v = .tuple #[.agg #[.int .i64 (holdP b a).1.1, .int .i64 (holdP b a).1.2], .int .i64 (holdP b a).2] ∧ St w0 w' F := by
  refine con_of_wc (n := 23) Try.func20 rfl rfl (Nat.le_of_ble_eq_true rfl) ?_
  have hlh0 := hm.lh
  have hlc0 := hm.lc
  refine w_seq (fun K2 hK1 => ?_)
  refine w_region ?_
  refine w_box (v := .agg #[.int _ _, .slice _ _ _, .slice _ _ _]) (cs := [_, _, _]) want_none rfl rfl rfl hs (fun b3 w4 hs5 => ?_)
  refine w_box (v := .int _ _) (cs := [_]) want_none rfl rfl rfl hs5 (fun b6 w7 hs8 => ?_)
  refine w_alloc (cs := [_, _]) want_none Try.zeroValue31 rfl hs8 (fun b9 w10 hs11 => ?_)
  refine w_p (y_assign (v := _) rfl rfl) rfl ?_
  refine w_nil ?_
  refine q_then (hK1 _ _ ?_)
  refine w_seq (fun K13 hK12 => ?_)
  refine w_region ?_
  refine w_p (y_loadN (vs := [_, _, _]) Try.isAgg25 Try.sizeOf25 hs11 rfl rfl (ats_own (i := 2) (vs := [_, _, _]) rfl rfl)) rfl ?_
  refine w_p (y_load1 Try.isAgg3 hs11 rfl rfl (ats_own (i := 1) (vs := [_]) rfl rfl)) rfl ?_
  refine w_p (y_fieldAddr (o := 0) (i := 0) Try.underlying25 rfl Try.sizeOf3 rfl rfl rfl) rfl ?_
  refine w_p (y_load1 Try.isAgg3 hs11 rfl rfl (ats_own (i := 2) (vs := [_]) rfl rfl)) rfl ?_
  refine w_bslice (ps := [(0, _), (1, _)]) (pv := [(0, .int _ _), (1, .int _ _)]) (cs := [_, _]) want_none rfl rfl (fun w => Try_L_fb3 _ _ w) hs11 (fun b14 w15 hs16 => ?_)
  refine w_call want_none Try.call63 rfl rfl rfl rfl ((by have h := c63 b _ hm.cons.cons.cons.cons 0 (some ⟨b14, 0, none⟩) 2 [a, b.holds] (by simp) (by simp) (hns_b a) (sl_own (i := 0) (rows := [[_], [_]]) rfl (by simp) rfl) hs16; rw [pairs_two] at h; exact h)) ?_
  rintro _ w18 (⟨hee, rfl, hs19⟩ | ⟨hee, bb, mm, M, rfl, hM, hs19⟩)
  ·
   refine w_p (y_move (v := .tuple _) rfl rfl) rfl ?_
   refine w_p (y_extract (v := .pointer _) rfl rfl rfl) rfl ?_
   refine w_p (y_extract (v := .int _ _) rfl rfl rfl) rfl ?_
   refine w_alloc (cs := [_]) want_none Try.zeroValue95 rfl hs19 (fun b20 w21 hs22 => ?_)
   refine w_store (i := 0) (v := .pointer _) (vs := [_]) want_none Try.sizeOf95 rfl rfl rfl rfl rfl (by simp [Value.oneCell']) hs22 rfl (Nat.le_of_ble_eq_true rfl) (fun w23 hs24 => ?_)
   refine w_p (y_assign (v := .int _ _) rfl rfl) rfl ?_
   refine w_nil ?_
   refine q_then (hK12 _ _ ?_)
   refine w_seq (fun K26 hK25 => ?_)
   refine w_seq (fun K28 hK27 => ?_)
   refine w_region ?_
   refine w_p (y_move (v := .int _ _) rfl rfl) rfl ?_
   refine w_p (y_neq rfl rfl rfl rfl) rfl ?_
   refine w_nil ?_
   refine q_then (hK27 _ _ ?_)
   refine w_cond rfl rfl (fun h29 => ?_) (fun h29 => ?_)
   ·
    try simp only [zA, zB, zC, zD, zE, zF] at h29
    refine w_seq (fun K31 hK30 => ?_)
    refine w_region ?_
    refine w_p (y_loadN (vs := [_, _]) Try.isAgg31 Try.sizeOf31 hs24 rfl rfl (ats_own (i := 2) (vs := [_, _]) rfl rfl)) rfl ?_
    refine w_p (y_move (v := .int _ _) rfl rfl) rfl ?_
    refine w_store (i := 2) (v := .agg #[.int _ _, .int _ _]) (vs := [_, _]) want_none Try.sizeOf31 rfl rfl rfl rfl rfl (by simp [Value.oneCell']) hs24 rfl (Nat.le_of_ble_eq_true rfl) (fun w32 hs33 => ?_)
    refine w_p (y_assign (v := .int _ _) rfl rfl) rfl ?_
    refine w_nil ?_
    refine q_then (hK30 _ _ ?_)
    refine w_ret ?_
    refine q_then_ret ?_
    refine q_ret (l := [.cell 4 31, .tmp 5]) (vs := [_, _]) rfl ⟨⟨rfl, _, rfl, run_loadVarN (vs := [_, _]) Try.isAgg31 Try.sizeOf31 hs33 (ats_own (i := 2) (vs := [_, _]) rfl rfl)⟩, ⟨rfl, show _ = (.int _ _ : Value) from rfl⟩, trivial⟩ ?_
    exact ⟨by rw [holdP_e hee]; rfl, hs33.tail.tail.tail.tail.tail⟩
   ·
    exfalso
    try simp only [zA, zB, zC, zD, zE, zF] at h29
    first | exact hee h29 | exact h29 hee
  ·
   replace hs19 := (show St _ _ (_ :: M ++ (_ :: _ :: _ :: _ :: F)) from hs19)
   have hs34 := (show St _ _ ([_] ++ (M ++ _)) from hs19).perm (perm_mid [_] M _)
   replace hs34 := (show St _ _ (M ++ (_ :: _ :: _ :: _ :: _ :: F)) from hs34)
   have hew := enterE_ok hee
   have hok := check_ok hew.1
   refine w_p (y_move (v := .tuple _) rfl rfl) rfl ?_
   refine w_p (y_extract (v := .pointer _) rfl rfl rfl) rfl ?_
   refine w_p (y_extract (v := .int _ _) rfl rfl rfl) rfl ?_
   refine w_alloc (cs := [_]) want_none Try.zeroValue95 rfl hs34 (fun b35 w36 hs37 => ?_)
   refine w_store (i := 0) (v := .pointer _) (vs := [_]) want_none Try.sizeOf95 rfl rfl rfl rfl rfl (by simp [Value.oneCell']) hs37 rfl (Nat.le_of_ble_eq_true rfl) (fun w38 hs39 => ?_)
   refine w_p (y_assign (v := .int _ _) rfl rfl) rfl ?_
   refine w_nil ?_
   refine q_then (hK12 _ _ ?_)
   refine w_seq (fun K41 hK40 => ?_)
   refine w_seq (fun K43 hK42 => ?_)
   refine w_region ?_
   refine w_p (y_move (v := .int _ _) rfl rfl) rfl ?_
   refine w_p (y_neq rfl rfl rfl rfl) rfl ?_
   refine w_nil ?_
   refine q_then (hK42 _ _ ?_)
   refine w_condF rfl rfl ?_
   refine w_skip ?_
   refine q_then (hK40 _ _ ?_)
   refine w_seq (fun K45 hK44 => ?_)
   have hia := idxE_ok hew.2.1
   have hlh := hok.lh
   refine w_region ?_
   refine w_p (y_load1 Try.isAgg95 hs39 rfl rfl (ats_own (i := 0) (vs := [_]) rfl rfl)) rfl ?_
   refine w_p (y_makeFunc (fv := []) (cv := [_, _]) rfl rfl rfl rfl) rfl ?_
   have hs46 := (show St _ _ ([_] ++ (M ++ _)) from hs39).perm (perm_mid [_] M _)
   replace hs46 := (show St _ _ (M ++ (_ :: _ :: _ :: _ :: _ :: _ :: F)) from hs46)
   refine w_call want_none Try.call64 rfl rfl rfl rfl (c64 (X := []) (M := M) (F := _ :: (bb, blk 129 [.int .i64 b.holds, .slice p.ah b.hours.length p.ch, .slice p.ac b.ctrs.length p.cc, .map (some mm)]) :: _ :: _ :: _ :: _ :: F) b p bb mm ⟨hm.cons.cons.cons.cons.cons.cons, ats_own (i := 1) rfl rfl, hok⟩ 69 #[] #[.pointer (some ⟨b35, 0, none⟩), .pointer (some ⟨b6, 0, none⟩)] (inH b a) (fun l hl X w hs => fcon_fn Try.call69 ((c69 b p bb mm (BK.app ⟨hm.cons.cons.cons.cons.cons.cons, ats_own (i := 1) rfl rfl, hok⟩) (pad4 l) (pad_len hok hl) (fun k => by rw [ld_pad]; exact ld_40 hok hl k) a _ _ (Ats.app (ats_own (i := 0) (vs := [_]) rfl rfl)) (Ats.app (ats_own (i := 4) (vs := [_]) rfl rfl)) hs).mono fun v w h => ⟨by rw [h.1, inH_pad], h.2⟩)) hM hs46) ?_
   rintro _ w48 ⟨rfl, M2, hM2, hs49⟩
   replace hs49 := (show St _ _ (M2 ++ (_ :: _ :: _ :: _ :: _ :: _ :: F)) from hs49)
   have hs50 := hs49.drop
   refine w_store (i := 3) (v := .agg #[.int _ _, .int _ _]) (vs := [_, _]) want_none Try.sizeOf31 rfl rfl rfl rfl rfl (by simp [Value.oneCell']) hs50 rfl (Nat.le_of_ble_eq_true rfl) (fun w51 hs52 => ?_)
   refine w_p (y_assign (v := _) rfl rfl) rfl ?_
   refine w_nil ?_
   refine q_then (hK44 _ _ ?_)
   refine w_ret ?_
   refine q_ret (l := [.cell 4 31, .tmp 5]) (vs := [_, _]) rfl ⟨⟨rfl, _, rfl, run_loadVarN (vs := [_, _]) Try.isAgg31 Try.sizeOf31 hs52 (ats_own (i := 3) (vs := [_, _]) rfl rfl)⟩, ⟨rfl, show _ = (.int _ _ : Value) from rfl⟩, trivial⟩ ?_
   exact ⟨by rw [holdP_y hee]; rfl, hs52.tail.tail.tail.tail.tail.tail⟩

end Go.Proofs
/- Walks of this seat, printed by gen.py over the engine: what each function returns, in whatever world. No conditions but those of each contract. -/
set_option linter.unusedVariables false
set_option linter.unusedSimpArgs false
set_option maxRecDepth 20000
namespace Go.Proofs
open Go.Rt Go.Rt.Ch
open Go.Rt.Ha (firstE firstE_step firstE_stop firstE_end failE nameE felt spanL upto span_mem listL fewest fewTo bit before fewStep drop_lt drop_get drop_next drop_done drop_notin set_take set_zero take_less)
attribute [local irreducible] WL WC Con Yd At Ats Sl Agree DW
theorem Try_M_fb3 (x0 : Int) (x1 : Int) (w : World) : (Instr.buildSlice 39 2 [(0, .int .i64 x0), (1, .int .i64 x1)].toArray).run Try.prog w = .ok (.slice (some ⟨w.heap.size, 0, none⟩) 2 2) (w.alloc (Go.Rt.blk 3 [.int .i64 x0, .int .i64 x1])) := by kernel_rfl
theorem Try_M_fb4 (x0 : Int) (x1 : Int) (x2 : Int) (x3 : Int) (w : World) : (Instr.buildSlice 39 4 [(0, .int .i64 x0), (1, .int .i64 x1), (2, .int .i64 x2), (3, .int .i64 x3)].toArray).run Try.prog w = .ok (.slice (some ⟨w.heap.size, 0, none⟩) 4 4) (w.alloc (Go.Rt.blk 3 [.int .i64 x0, .int .i64 x1, .int .i64 x2, .int .i64 x3])) := by kernel_rfl
theorem ask_perm (p a c e f g : Nat × Obj) (X M F : List (Nat × Obj)) : (p :: a :: c :: e :: f :: g :: (X ++ (M ++ F))).Perm (([a, c] ++ M) ++ (p :: e :: f :: g :: (X ++ F))) :=
  (perm_mid [p] [a, c] (e :: f :: g :: (X ++ (M ++ F)))).trans (List.Perm.append_left [a, c] (perm_mid (p :: e :: f :: g :: X) M F))
theorem mid_back4 {w0 w : World} {a c e f : Nat × Obj} {X M F : List (Nat × Obj)} (h : St w0 w (M ++ (a :: c :: e :: f :: (X ++ F)))) : St w0 w (X ++ (M ++ F)) := by
  have h1 := (h.perm (perm_mid M [a, c, e, f] (X ++ F))).tail.tail.tail.tail
  exact St.perm (L := M ++ (X ++ F)) h1 (perm_mid M X F)
theorem ask_cells {b7 b6 : Nat} {x x' y y' : Bool} (h1 : x = x') (h2 : y = y') : ([(b7, blk 4 [.bool x]), (b6, blk 4 [.bool y])] : List (Nat × Obj)) = [(b7, blk 4 [.bool x']), (b6, blk 4 [.bool y'])] := by subst h1 h2; rfl
theorem any_step {α : Type} {p : α → Bool} {l : List α} {i : Nat} (hi : i < l.length) : (l.take (i + 1)).any p = ((l.take i).any p || p l[i]) := by rw [List.take_succ_eq_append_getElem hi, List.any_append]; simp
theorem toldN_eq (n m : Bool) : toldN n m = if n = false then 1 else if m = false then 2 else 0 := by cases n <;> cases m <;> rfl
theorem rightP_e {b : Board} {a : Int} (h : ¬ enterE b (idxE a b.ctrs.length) = 0) : rightP b a = (0, enterE b (idxE a b.ctrs.length)) := by unfold rightP; rw [if_pos h]
theorem rightP_y {b : Board} {a : Int} (h : enterE b (idxE a b.ctrs.length) = 0) : rightP b a = (toldN (askM b a.toNat slips) (askN b a.toNat slips), 0) := by unfold rightP; rw [if_neg (by simp [h])]
theorem zeroP_e {b : Board} {a e : Int} (h : ¬ enterE b (idx2 a b.ctrs.length e b.hours.length) = 0) : zeroP b a e = (0, enterE b (idx2 a b.ctrs.length e b.hours.length)) := by unfold zeroP; rw [if_pos h]
theorem zeroP_y {b : Board} {a e : Int} (h : enterE b (idx2 a b.ctrs.length e b.hours.length) = 0) : zeroP b a e = (toldN (askN b a.toNat (zeroed e.toNat)) (askM b a.toNat (zeroed e.toNat)), 0) := by unfold zeroP; rw [if_neg (by simp [h])]
theorem idx2_ok {c n a m : Int} (h : idx2 c n a m = 0) : (0 ≤ c ∧ c < n) ∧ (0 ≤ a ∧ a < m) := by
  unfold idx2 at h
  by_cases h1 : idxE c n = 0
  · rw [if_neg (by simp [h1])] at h; exact ⟨idxE_ok h1, idxE_ok h⟩
  · rw [if_pos h1] at h; exact absurd h h1
theorem QIs.mid {w0 w : World} {P M Y Q X F : List (Nat × Obj)} {b : Board} {p : AtB} {bb mm : Nat} (hk : BK w0 F b p bb mm) {c : Nat} (hc : c < b.ctrs.length) {l : List Int} (hl : l ∈ truths b) {fk : FuncId} {f1 cp : Array Value} {q : Quest} (h : QIs w0 F (.func (.func fk) f1 cp) q) (hM : Memo w0 b mm M) (hs : St w0 w (P ++ (M ++ (Y ++ (Q ++ (X ++ F)))))) :
    Con Try.prog 99 [.pointer (some ⟨bb, 0, none⟩), .int .i64 (c : Int), ia (pad4 l), .agg #[.func (.func fk) f1 cp]] w fun v w' => ∃ M', v = .tuple #[.bool (notF (ctrOf b c) l q b.hours.length), .bool (metF (ctrOf b c) l q b.hours.length)] ∧ Memo w0 b mm M' ∧ St w0 w' (P ++ (M' ++ (Y ++ (Q ++ (X ++ F))))) := by
  have e : ∀ M : List (Nat × Obj), P ++ (M ++ (Y ++ (Q ++ (X ++ F)))) = P ++ (M ++ ((Y ++ (Q ++ X)) ++ F)) := fun M => by simp only [List.append_assoc]
  rw [e] at hs
  have h1 := c99 b p bb mm (hk.app (B := Y ++ (Q ++ X))) c hc (pad4 l) (pad_len hk.ok hl) (fun i hi => by rw [ld_pad]; exact (truth_in hl).2 i hi) fk f1 cp q h.app hM hs
  rw [not_pad, met_pad] at h1
  exact h1.mono fun _ _ ⟨M', h2, h3, h4⟩ => ⟨M', h2, h3, by rw [e]; exact h4⟩
theorem c72 {w0 w : World} {X M F : List (Nat × Obj)} (b : Board) (p : AtB) (bb mm : Nat) (hk : BK w0 F b p bb mm) (c : Nat) (hc : c < b.ctrs.length) (fk : FuncId) (f1 cp : Array Value) (q : Quest) (hq : QIs w0 F (.func (.func fk) f1 cp) q) (hM : Memo w0 b mm M) (hs : St w0 w (X ++ (M ++ F))) :
  Con Try.prog 72 [.pointer (some ⟨bb, 0, none⟩), .int .i64 (c : Int), .agg #[.func (.func fk) f1 cp]] w fun v w' => v = .tuple #[.bool (askN b c q), .bool (askM b c q)] ∧ ∃ M', Memo w0 b mm M' ∧ St w0 w' (X ++ (M' ++ F)) := by
  refine con_of_wcM (n := 32) Try.func72 rfl rfl (Nat.le_of_ble_eq_true rfl) ?_
  refine w_seq (fun K2 hK1 => ?_)
  refine w_region ?_
  refine w_box (v := .pointer _) (cs := [_]) want_none rfl rfl rfl hs (fun b3 w4 hs5 => ?_)
  refine w_box (v := .int _ _) (cs := [_]) want_none rfl rfl rfl hs5 (fun b6 w7 hs8 => ?_)
  refine w_box (v := .agg #[.func _ _ _]) (cs := [_]) want_none rfl rfl rfl hs8 (fun b9 w10 hs11 => ?_)
  refine w_alloc (cs := [_]) want_none Try.zeroValue4 rfl hs11 (fun b12 w13 hs14 => ?_)
  refine w_alloc (cs := [_]) want_none Try.zeroValue4 rfl hs14 (fun b15 w16 hs17 => ?_)
  refine w_nil ?_
  refine q_then (hK1 _ _ ?_)
  refine w_seq (fun K19 hK18 => ?_)
  refine w_seq (fun K21 hK20 => ?_)
  refine w_region ?_
  refine w_p (y_load1 Try.isAgg95 hs17 rfl rfl (ats_own (i := 4) (vs := [_]) rfl rfl)) rfl ?_
  refine w_call want_none Try.call80 rfl rfl rfl rfl (c80 _ hs17) ?_
  rintro _ w23 ⟨bp, rfl, hs24⟩
  refine w_nil ?_
  refine q_then (hK20 _ _ ?_)
  refine w_block ?_
  refine w_rangeC ([_, _] ++ M) (fun i Bx => ∃ B M, Bx = B ++ M ∧ Memo w0 b mm M ∧ B = [(b15, blk 4 [.bool (((truths b).take (i)).any fun l => metF (ctrOf b c) l q b.hours.length)]), (b12, blk 4 [.bool (((truths b).take (i)).any fun l => notF (ctrOf b c) l q b.hours.length)])]) (fun c Bx => ∃ B M, Bx = B ++ M ∧ Memo w0 b mm M ∧ False) rfl rfl rfl Try.call106 (truths_iter b p bb mm hk.app.cons.cons.cons.cons bp (ats_own (i := 0) (vs := [_]) rfl rfl)) (clsM_range (fun i B => B = [(b15, blk 4 [.bool (((truths b).take (i)).any fun l => metF (ctrOf b c) l q b.hours.length)]), (b12, blk 4 [.bool (((truths b).take (i)).any fun l => notF (ctrOf b c) l q b.hours.length)])]) (fun c B => False) (fun i Bx => Iff.rfl) (fun c Bx => Iff.rfl)) hs24 (ask_perm _ _ _ _ _ _ _ _ _) ⟨_, M, rfl, hM, rfl⟩ ?_ ?_ ?_
  ·
   intro lp i hi Bx Xr Xr2 w26 hJ hs K hK25
   obtain ⟨BB, M3, rfl, hM3, rfl⟩ := hJ
   have hi2 : i < (truths b).length := by simpa using hi
   rw [List.getElem_map, List.getElem_map]
   have htm := List.getElem_mem hi2
   have hpl := pad_len hk.ok htm
   obtain ⟨h, hh⟩ : ∃ h, h = pad4 (truths b)[i] := ⟨_, rfl⟩
   rw [← hh] at hpl ⊢
   have hx3 : Ats w0 ((bp, blk 95 [.pointer (some ⟨bb, 0, none⟩)]) :: (b9, blk 112 [.func (.func fk) f1 cp]) :: (b6, blk 3 [.int .i64 (c : Int)]) :: (b3, blk 95 [.pointer (some ⟨bb, 0, none⟩)]) :: (X ++ F)) b3 0 [.pointer (some ⟨bb, 0, none⟩)] := ats_own (i := 3) rfl rfl
   have hx4 : Ats w0 ((bp, blk 95 [.pointer (some ⟨bb, 0, none⟩)]) :: (b9, blk 112 [.func (.func fk) f1 cp]) :: (b6, blk 3 [.int .i64 (c : Int)]) :: (b3, blk 95 [.pointer (some ⟨bb, 0, none⟩)]) :: (X ++ F)) b6 0 [.int .i64 (c : Int)] := ats_own (i := 2) rfl rfl
   have hx5 : Ats w0 ((bp, blk 95 [.pointer (some ⟨bb, 0, none⟩)]) :: (b9, blk 112 [.func (.func fk) f1 cp]) :: (b6, blk 3 [.int .i64 (c : Int)]) :: (b3, blk 95 [.pointer (some ⟨bb, 0, none⟩)]) :: (X ++ F)) b9 0 [.func (.func fk) f1 cp] := ats_own (i := 1) rfl rfl
   replace hs := (show St _ _ (_ :: _ :: (M3 ++ (Xr ++ ((bp, blk 95 [.pointer (some ⟨bb, 0, none⟩)]) :: (b9, blk 112 [.func (.func fk) f1 cp]) :: (b6, blk 3 [.int .i64 (c : Int)]) :: (b3, blk 95 [.pointer (some ⟨bb, 0, none⟩)]) :: (X ++ F))))) from hs)
   refine w_region ?_
   refine w_alloc (cs := iv [0, 0, 0, 0]) want_none Try.zeroValue100 rfl hs (fun b27 w28 hs29 => ?_)
   refine w_storeI (i := 0) (l := _) want_none Try.sizeOf100 (by first | omega | rfl | (simp only [hpl, List.length_map, List.length_set, List.length_append, List.length_take, List.length_drop, List.length_replicate, List.length_cons, List.length_nil] <;> omega)) rfl rfl rfl rfl rfl hs29 rfl (by first | omega | rfl | (simp only [hpl, List.length_map, List.length_set, List.length_append, List.length_take, List.length_drop, List.length_replicate, List.length_cons, List.length_nil] <;> omega)) (fun w30 hs31 => ?_)
   refine w_nil ?_
   refine q_then (hK25 _ _ (_ :: _ :: _ :: M3) hs31 (fun w32 hs33 => ?_))
   replace hs33 := (show St _ _ (_ :: _ :: _ :: M3 ++ (Xr2 ++ (_ :: _ :: _ :: _ :: X ++ (F)))) from hs33)
   refine w_block ?_
   refine w_seq (fun K35 hK34 => ?_)
   refine w_region ?_
   refine w_p (y_load1 Try.isAgg95 hs33.tail.tail.tail.drop.drop rfl rfl hx3) rfl ?_
   refine w_p (y_load1 Try.isAgg3 hs33.tail.tail.tail.drop.drop rfl rfl hx4) rfl ?_
   refine w_p (y_loadI (i := 0) Try.isAgg100 Try.sizeOf100 (by first | omega | rfl | (simp only [hpl, List.length_map, List.length_set, List.length_append, List.length_take, List.length_drop, List.length_replicate, List.length_cons, List.length_nil] <;> omega)) hs33 rfl rfl rfl) rfl ?_
   refine w_p (y_loadN (vs := [_]) Try.isAgg112 Try.sizeOf112 hs33.tail.tail.tail.drop.drop rfl rfl hx5) rfl ?_
   refine w_call want_none Try.call99 rfl rfl rfl rfl ((show Con _ _ _ _ _ from by rw [hh]; exact QIs.mid (P := [_, _, _]) (M := M3) (Y := Xr2) (Q := [_, _, _, _]) (X := X) hk hc htm hq hM3 hs33)) ?_
   rintro _ w37 ⟨M4, rfl, hM4, hs38⟩
   replace hs38 := (show St _ _ (_ :: _ :: _ :: M4 ++ (Xr2 ++ (_ :: _ :: _ :: _ :: X ++ (F)))) from hs38)
   refine w_p (y_move (v := .tuple _) rfl rfl) rfl ?_
   refine w_p (y_extract (v := .bool _) rfl rfl rfl) rfl ?_
   refine w_p (y_extract (v := .bool _) rfl rfl rfl) rfl ?_
   refine w_p (y_assign (v := .bool _) rfl rfl) rfl ?_
   refine w_p (y_assign (v := .bool _) rfl rfl) rfl ?_
   refine w_nil ?_
   refine q_then (hK34 _ _ ?_)
   refine w_seq (fun K40 hK39 => ?_)
   refine w_region ?_
   refine w_p (y_load1 Try.isAgg4 hs38 rfl rfl (ats_own (i := 2) (vs := [_]) rfl rfl)) rfl ?_
   refine w_p (y_move (v := .bool _) rfl rfl) rfl ?_
   refine w_split (fun h41 => ?_) (fun h41 => ?_)
   ·
    try simp only [zA, zB, zC, zD, zE, zF] at h41
    refine w_skipop rfl rfl rfl ?_
    refine w_p (y_pickT (v := _) rfl rfl rfl rfl) rfl ?_
    refine w_store (i := 2) (v := .bool _) (vs := [_]) want_none Try.sizeOf4 rfl rfl rfl rfl rfl (by simp [Value.oneCell']) hs38 rfl (Nat.le_of_ble_eq_true rfl) (fun w42 hs43 => ?_)
    refine w_nil ?_
    refine q_then (hK39 _ _ ?_)
    refine w_region ?_
    refine w_p (y_load1 Try.isAgg4 hs43 rfl rfl (ats_own (i := 1) (vs := [_]) rfl rfl)) rfl ?_
    refine w_p (y_move (v := .bool _) rfl rfl) rfl ?_
    refine w_split (fun h44 => ?_) (fun h44 => ?_)
    ·
     try simp only [zA, zB, zC, zD, zE, zF] at h44
     refine w_skipop rfl rfl rfl ?_
     refine w_p (y_pickT (v := _) rfl rfl rfl rfl) rfl ?_
     refine w_store (i := 1) (v := .bool _) (vs := [_]) want_none Try.sizeOf4 rfl rfl rfl rfl rfl (by simp [Value.oneCell']) hs43 rfl (Nat.le_of_ble_eq_true rfl) (fun w45 hs46 => ?_)
     refine w_nil ?_
     refine q_blk_normal ?_
     refine rd_normal (_ :: _ :: M4) hs46.tail ?_
     exact ⟨_, M4, rfl, hM4, ask_cells (by rw [any_step hi2]; simp [*]) (by rw [any_step hi2]; simp [*])⟩
    ·
     try simp only [zA, zB, zC, zD, zE, zF] at h44
     refine w_y rfl rfl rfl (y_move (v := .bool _) rfl rfl) rfl ?_
     refine w_p (y_pickF (v := .bool _) rfl rfl rfl rfl) rfl ?_
     refine w_store (i := 1) (v := .bool _) (vs := [_]) want_none Try.sizeOf4 rfl rfl rfl rfl rfl (by simp [Value.oneCell']) hs43 rfl (Nat.le_of_ble_eq_true rfl) (fun w47 hs48 => ?_)
     refine w_nil ?_
     refine q_blk_normal ?_
     refine rd_normal (_ :: _ :: M4) hs48.tail ?_
     exact ⟨_, M4, rfl, hM4, ask_cells (by rw [any_step hi2]; simp [*]) (by rw [any_step hi2]; simp [*])⟩
   ·
    try simp only [zA, zB, zC, zD, zE, zF] at h41
    refine w_y rfl rfl rfl (y_move (v := .bool _) rfl rfl) rfl ?_
    refine w_p (y_pickF (v := .bool _) rfl rfl rfl rfl) rfl ?_
    refine w_store (i := 2) (v := .bool _) (vs := [_]) want_none Try.sizeOf4 rfl rfl rfl rfl rfl (by simp [Value.oneCell']) hs38 rfl (Nat.le_of_ble_eq_true rfl) (fun w49 hs50 => ?_)
    refine w_nil ?_
    refine q_then (hK39 _ _ ?_)
    refine w_region ?_
    refine w_p (y_load1 Try.isAgg4 hs50 rfl rfl (ats_own (i := 1) (vs := [_]) rfl rfl)) rfl ?_
    refine w_p (y_move (v := .bool _) rfl rfl) rfl ?_
    refine w_split (fun h51 => ?_) (fun h51 => ?_)
    ·
     try simp only [zA, zB, zC, zD, zE, zF] at h51
     refine w_skipop rfl rfl rfl ?_
     refine w_p (y_pickT (v := _) rfl rfl rfl rfl) rfl ?_
     refine w_store (i := 1) (v := .bool _) (vs := [_]) want_none Try.sizeOf4 rfl rfl rfl rfl rfl (by simp [Value.oneCell']) hs50 rfl (Nat.le_of_ble_eq_true rfl) (fun w52 hs53 => ?_)
     refine w_nil ?_
     refine q_blk_normal ?_
     refine rd_normal (_ :: _ :: M4) hs53.tail ?_
     exact ⟨_, M4, rfl, hM4, ask_cells (by rw [any_step hi2]; simp [*]) (by rw [any_step hi2]; simp [*])⟩
    ·
     try simp only [zA, zB, zC, zD, zE, zF] at h51
     refine w_y rfl rfl rfl (y_move (v := .bool _) rfl rfl) rfl ?_
     refine w_p (y_pickF (v := .bool _) rfl rfl rfl rfl) rfl ?_
     refine w_store (i := 1) (v := .bool _) (vs := [_]) want_none Try.sizeOf4 rfl rfl rfl rfl rfl (by simp [Value.oneCell']) hs50 rfl (Nat.le_of_ble_eq_true rfl) (fun w54 hs55 => ?_)
     refine w_nil ?_
     refine q_blk_normal ?_
     refine rd_normal (_ :: _ :: M4) hs55.tail ?_
     exact ⟨_, M4, rfl, hM4, ask_cells (by rw [any_step hi2]; simp [*]) (by rw [any_step hi2]; simp [*])⟩
  ·
   intro bd Bx w56 hJ hs
   obtain ⟨BB, M3, rfl, hM3, rfl⟩ := hJ
   rw [List.length_map, List.length_map, List.take_length] at hs
   replace hs := (show St _ _ (_ :: _ :: _ :: (M3 ++ ((bp, blk 95 [.pointer (some ⟨bb, 0, none⟩)]) :: (b9, blk 112 [.func (.func fk) f1 cp]) :: (b6, blk 3 [.int .i64 (c : Int)]) :: (b3, blk 95 [.pointer (some ⟨bb, 0, none⟩)]) :: (X ++ F)))) from hs)
   refine q_blk_normal ?_
   refine q_then (hK18 _ _ ?_)
   refine w_seq (fun K58 hK57 => ?_)
   refine w_draw [3] [(0, 1), (1, 1), (2, 2), (3, 3)] Try_mo (drawOK_of (by kernel_rfl)) hs (fun w59 hs60 => ?_)
   refine d_take rfl want_none rfl hs60 (fun _ hq => (y_load1 Try.isAgg4 hq rfl rfl (ats_own (i := 2) (vs := [_]) rfl rfl))) ?_
   refine d_take rfl want_none rfl hs60 (fun _ hq => (y_load1 Try.isAgg4 hq rfl rfl (ats_own (i := 1) (vs := [_]) rfl rfl))) ?_
   refine d_eff rfl ?_
   refine w_store (i := 2) (v := .bool _) (vs := [_]) want_none Try.sizeOf4 rfl rfl rfl rfl rfl (by simp [Value.oneCell']) hs60 rfl (Nat.le_of_ble_eq_true rfl) (fun w61 hs62 => ?_)
   refine w_nil ?_
   refine qn ⟨hs62, ?_⟩
   refine d_late rfl ?_
   refine w_store (i := 1) (v := .bool _) (vs := [_]) want_none Try.sizeOf4 rfl rfl rfl rfl rfl (by simp [Value.oneCell']) hs62 rfl (Nat.le_of_ble_eq_true rfl) (fun w63 hs64 => ?_)
   refine w_nil ?_
   refine qn ?_
   refine d_nil ?_
   refine q_then (hK57 _ _ ?_)
   refine w_ret ?_
   refine q_retM (i := 0) (l := [.cell 6 4, .cell 7 4]) (vs := [_, _]) hs64 rfl rfl (fun w65 hs66 => ⟨⟨⟨rfl, _, rfl, run_loadVar1 Try.isAgg4 hs66 (ats_own (i := 2) (vs := [_]) rfl rfl)⟩, ⟨rfl, _, rfl, run_loadVar1 Try.isAgg4 hs66 (ats_own (i := 1) (vs := [_]) rfl rfl)⟩, trivial⟩, ?_⟩)
   exact ⟨rfl, M3, hM3, mid_back4 hs66.tail.tail.tail⟩
  ·
   intro _ _ _ _ hJ
   obtain ⟨_, _, _, _, h⟩ := hJ
   exact h.elim

theorem c74 {w0 w : World} {F : List (Nat × Obj)} (n m : Bool) (hs : St w0 w F) :
  Con Try.prog 74 [.bool n, .bool m] w fun v w' => v = .int .i64 (toldN n m) ∧ St w0 w' F := by
  refine con_of_wc (n := 11) Try.func74 rfl rfl (Nat.le_of_ble_eq_true rfl) ?_
  refine w_seq (fun K2 hK1 => ?_)
  refine w_region ?_
  refine w_p (y_assign (v := _) rfl rfl) rfl ?_
  refine w_nil ?_
  refine q_then (hK1 _ _ ?_)
  refine w_seq (fun K4 hK3 => ?_)
  refine w_block ?_
  refine w_seq (fun K6 hK5 => ?_)
  refine w_region ?_
  refine w_p (y_move (v := .bool _) rfl rfl) rfl ?_
  refine w_p (y_not rfl rfl) rfl ?_
  refine w_p (y_assign (v := .bool _) rfl rfl) rfl ?_
  refine w_nil ?_
  refine q_then (hK5 _ _ ?_)
  refine w_cond rfl rfl (fun h7 => ?_) (fun h7 => ?_)
  ·
   try simp only [zA, zB, zC, zD, zE, zF] at h7
   refine w_seq (fun K9 hK8 => ?_)
   refine w_region ?_
   refine w_p (y_assign (v := _) rfl rfl) rfl ?_
   refine w_nil ?_
   refine q_then (hK8 _ _ ?_)
   refine w_ret ?_
   refine q_blk_ret ?_
   refine q_then_ret ?_
   refine q_ret (l := [.tmp 4]) (vs := [_]) rfl ⟨⟨rfl, show _ = (.int _ _ : Value) from rfl⟩, trivial⟩ ?_
   exact ⟨congrArg (Value.int .i64) (by rw [toldN_eq]; simp [*]), hs⟩
  ·
   try simp only [zA, zB, zC, zD, zE, zF] at h7
   refine w_seq (fun K11 hK10 => ?_)
   refine w_region ?_
   refine w_p (y_move (v := .bool _) rfl rfl) rfl ?_
   refine w_p (y_not rfl rfl) rfl ?_
   refine w_p (y_assign (v := .bool _) rfl rfl) rfl ?_
   refine w_nil ?_
   refine q_then (hK10 _ _ ?_)
   refine w_cond rfl rfl (fun h12 => ?_) (fun h12 => ?_)
   ·
    try simp only [zA, zB, zC, zD, zE, zF] at h12
    refine w_seq (fun K14 hK13 => ?_)
    refine w_region ?_
    refine w_p (y_assign (v := _) rfl rfl) rfl ?_
    refine w_nil ?_
    refine q_then (hK13 _ _ ?_)
    refine w_ret ?_
    refine q_blk_ret ?_
    refine q_then_ret ?_
    refine q_ret (l := [.tmp 4]) (vs := [_]) rfl ⟨⟨rfl, show _ = (.int _ _ : Value) from rfl⟩, trivial⟩ ?_
    exact ⟨congrArg (Value.int .i64) (by rw [toldN_eq]; simp [*]), hs⟩
   ·
    try simp only [zA, zB, zC, zD, zE, zF] at h12
    refine w_skip ?_
    refine q_blk_normal ?_
    refine q_then (hK3 _ _ ?_)
    refine w_seq (fun K16 hK15 => ?_)
    refine w_region ?_
    refine w_p (y_assign (v := _) rfl rfl) rfl ?_
    refine w_nil ?_
    refine q_then (hK15 _ _ ?_)
    refine w_ret ?_
    refine q_ret (l := [.tmp 4]) (vs := [_]) rfl ⟨⟨rfl, show _ = (.int _ _ : Value) from rfl⟩, trivial⟩ ?_
    exact ⟨congrArg (Value.int .i64) (by rw [toldN_eq]; simp [*]), hs⟩

theorem c23 {w0 w : World} {F : List (Nat × Obj)} (b : Board) (p : AtB) (hm : BIn w0 F b p) (a : Int) (hs : St w0 w F) :
  Con Try.prog 23 [.agg (b.cells p).toArray, .int .i64 a] w fun v w' => v = .tuple #[.int .i64 (rightP b a).1, .int .i64 (rightP b a).2] ∧ St w0 w' F := by
  refine con_of_wc (n := 33) Try.func23 rfl rfl (Nat.le_of_ble_eq_true rfl) ?_
  have hlh0 := hm.lh
  have hlc0 := hm.lc
  refine w_seq (fun K2 hK1 => ?_)
  refine w_region ?_
  refine w_box (v := .agg #[.int _ _, .slice _ _ _, .slice _ _ _]) (cs := [_, _, _]) want_none rfl rfl rfl hs (fun b3 w4 hs5 => ?_)
  refine w_p (y_assign (v := _) rfl rfl) rfl ?_
  refine w_p (y_assign (v := _) rfl rfl) rfl ?_
  refine w_nil ?_
  refine q_then (hK1 _ _ ?_)
  refine w_seq (fun K7 hK6 => ?_)
  refine w_region ?_
  refine w_p (y_loadN (vs := [_, _, _]) Try.isAgg25 Try.sizeOf25 hs5 rfl rfl (ats_own (i := 0) (vs := [_, _, _]) rfl rfl)) rfl ?_
  refine w_p (y_move (v := .int _ _) rfl rfl) rfl ?_
  refine w_p (y_fieldAddr (o := 2) (i := 2) Try.underlying25 rfl Try.sizeOf23 rfl rfl rfl) rfl ?_
  refine w_p (y_load1 Try.isAgg23 hs5 rfl rfl (ats_own (i := 0) (vs := [_]) rfl rfl)) rfl ?_
  refine w_p (y_lenS Try.underlying23 rfl rfl) rfl ?_
  refine w_bslice (ps := [(0, _), (1, _)]) (pv := [(0, .int _ _), (1, .int _ _)]) (cs := [_, _]) want_none rfl rfl (fun w => Try_M_fb3 _ _ w) hs5 (fun b8 w9 hs10 => ?_)
  refine w_call want_none Try.call63 rfl rfl rfl rfl ((by have h := c63 b _ hm.cons.cons 0 (some ⟨b8, 0, none⟩) 2 [a, (b.ctrs.length : Int)] (by simp) (by simp) (hns_c a) (sl_own (i := 0) (rows := [[_], [_]]) rfl (by simp) rfl) hs10; rw [pairs_two] at h; exact h)) ?_
  rintro _ w12 (⟨hee, rfl, hs13⟩ | ⟨hee, bb, mm, M, rfl, hM, hs13⟩)
  ·
   refine w_p (y_move (v := .tuple _) rfl rfl) rfl ?_
   refine w_p (y_extract (v := .pointer _) rfl rfl rfl) rfl ?_
   refine w_p (y_extract (v := .int _ _) rfl rfl rfl) rfl ?_
   refine w_p (y_assign (v := .pointer _) rfl rfl) rfl ?_
   refine w_p (y_assign (v := .int _ _) rfl rfl) rfl ?_
   refine w_nil ?_
   refine q_then (hK6 _ _ ?_)
   refine w_seq (fun K15 hK14 => ?_)
   refine w_seq (fun K17 hK16 => ?_)
   refine w_region ?_
   refine w_p (y_move (v := .int _ _) rfl rfl) rfl ?_
   refine w_p (y_neq rfl rfl rfl rfl) rfl ?_
   refine w_nil ?_
   refine q_then (hK16 _ _ ?_)
   refine w_cond rfl rfl (fun h18 => ?_) (fun h18 => ?_)
   ·
    try simp only [zA, zB, zC, zD, zE, zF] at h18
    refine w_seq (fun K20 hK19 => ?_)
    refine w_region ?_
    refine w_p (y_move (v := .int _ _) rfl rfl) rfl ?_
    refine w_p (y_assign (v := _) rfl rfl) rfl ?_
    refine w_p (y_assign (v := .int _ _) rfl rfl) rfl ?_
    refine w_nil ?_
    refine q_then (hK19 _ _ ?_)
    refine w_ret ?_
    refine q_then_ret ?_
    refine q_ret (l := [.tmp 4, .tmp 5]) (vs := [_, _]) rfl ⟨⟨rfl, show _ = (.int _ _ : Value) from rfl⟩, ⟨rfl, show _ = (.int _ _ : Value) from rfl⟩, trivial⟩ ?_
    exact ⟨by rw [rightP_e hee]; rfl, hs13.tail.tail⟩
   ·
    exfalso
    try simp only [zA, zB, zC, zD, zE, zF] at h18
    first | exact hee h18 | exact h18 hee
  ·
   replace hs13 := (show St _ _ (_ :: M ++ (_ :: _ :: F)) from hs13)
   have hs21 := (show St _ _ ([_] ++ (M ++ _)) from hs13).perm (perm_mid [_] M _)
   replace hs21 := (show St _ _ (M ++ (_ :: _ :: _ :: F)) from hs21)
   have hew := enterE_ok hee
   have hok := check_ok hew.1
   refine w_p (y_move (v := .tuple _) rfl rfl) rfl ?_
   refine w_p (y_extract (v := .pointer _) rfl rfl rfl) rfl ?_
   refine w_p (y_extract (v := .int _ _) rfl rfl rfl) rfl ?_
   refine w_p (y_assign (v := .pointer _) rfl rfl) rfl ?_
   refine w_p (y_assign (v := .int _ _) rfl rfl) rfl ?_
   refine w_nil ?_
   refine q_then (hK6 _ _ ?_)
   refine w_seq (fun K23 hK22 => ?_)
   refine w_seq (fun K25 hK24 => ?_)
   refine w_region ?_
   refine w_p (y_move (v := .int _ _) rfl rfl) rfl ?_
   refine w_p (y_neq rfl rfl rfl rfl) rfl ?_
   refine w_nil ?_
   refine q_then (hK24 _ _ ?_)
   refine w_condF rfl rfl ?_
   refine w_skip ?_
   refine q_then (hK22 _ _ ?_)
   refine w_seq (fun K27 hK26 => ?_)
   have hia := idxE_ok hew.2.1
   have hlc := hok.lc
   refine w_region ?_
   refine w_p (y_move (v := .pointer _) rfl rfl) rfl ?_
   refine w_p (y_move (v := .int _ _) rfl rfl) rfl ?_
   refine w_call want_none Try.call73 rfl rfl rfl rfl (c73 hs21) ?_
   rintro _ w29 ⟨rfl, hs30⟩
   refine w_call want_none Try.call72 rfl rfl rfl rfl ((by have h := c72 (X := []) (M := M) (F := (bb, blk 129 [.int .i64 b.holds, .slice p.ah b.hours.length p.ch, .slice p.ac b.ctrs.length p.cc, .map (some mm)]) :: _ :: _ :: F) b p bb mm ⟨hm.cons.cons.cons, ats_own (i := 0) rfl rfl, hok⟩ a.toNat (by omega) 100 #[] #[] slips qis_slips hM hs30; rw [Int.toNat_of_nonneg (by omega)] at h; exact h)) ?_
   rintro _ w32 ⟨rfl, M2, hM2, hs33⟩
   replace hs33 := (show St _ _ (M2 ++ (_ :: _ :: _ :: F)) from hs33)
   have hs34 := hs33.drop
   refine w_p (y_move (v := .tuple _) rfl rfl) rfl ?_
   refine w_p (y_extract (v := .bool _) rfl rfl rfl) rfl ?_
   refine w_p (y_extract (v := .bool _) rfl rfl rfl) rfl ?_
   refine w_p (y_assign (v := .bool _) rfl rfl) rfl ?_
   refine w_p (y_assign (v := .bool _) rfl rfl) rfl ?_
   refine w_nil ?_
   refine q_then (hK26 _ _ ?_)
   refine w_seq (fun K36 hK35 => ?_)
   refine w_region ?_
   refine w_p (y_move (v := .bool _) rfl rfl) rfl ?_
   refine w_p (y_move (v := .bool _) rfl rfl) rfl ?_
   refine w_call want_none Try.call74 rfl rfl rfl rfl (c74 _ _ hs34) ?_
   rintro _ w38 ⟨rfl, hs39⟩
   refine w_p (y_assign (v := .int _ _) rfl rfl) rfl ?_
   refine w_p (y_assign (v := _) rfl rfl) rfl ?_
   refine w_nil ?_
   refine q_then (hK35 _ _ ?_)
   refine w_ret ?_
   refine q_ret (l := [.tmp 4, .tmp 5]) (vs := [_, _]) rfl ⟨⟨rfl, show _ = (.int _ _ : Value) from rfl⟩, ⟨rfl, show _ = (.int _ _ : Value) from rfl⟩, trivial⟩ ?_
   exact ⟨by rw [rightP_y hee]; rfl, hs39.tail.tail.tail⟩

theorem c25 {w0 w : World} {F : List (Nat × Obj)} (b : Board) (p : AtB) (hm : BIn w0 F b p) (a e : Int) (hs : St w0 w F) :
  Con Try.prog 25 [.agg (b.cells p).toArray, .int .i64 a, .int .i64 e] w fun v w' => v = .tuple #[.int .i64 (zeroP b a e).1, .int .i64 (zeroP b a e).2] ∧ St w0 w' F := by
  refine con_of_wc (n := 35) Try.func25 rfl rfl (Nat.le_of_ble_eq_true rfl) ?_
  have hlh0 := hm.lh
  have hlc0 := hm.lc
  refine w_seq (fun K2 hK1 => ?_)
  refine w_region ?_
  refine w_box (v := .agg #[.int _ _, .slice _ _ _, .slice _ _ _]) (cs := [_, _, _]) want_none rfl rfl rfl hs (fun b3 w4 hs5 => ?_)
  refine w_p (y_assign (v := _) rfl rfl) rfl ?_
  refine w_p (y_assign (v := _) rfl rfl) rfl ?_
  refine w_nil ?_
  refine q_then (hK1 _ _ ?_)
  refine w_seq (fun K7 hK6 => ?_)
  refine w_region ?_
  refine w_p (y_loadN (vs := [_, _, _]) Try.isAgg25 Try.sizeOf25 hs5 rfl rfl (ats_own (i := 0) (vs := [_, _, _]) rfl rfl)) rfl ?_
  refine w_p (y_move (v := .int _ _) rfl rfl) rfl ?_
  refine w_p (y_fieldAddr (o := 2) (i := 2) Try.underlying25 rfl Try.sizeOf23 rfl rfl rfl) rfl ?_
  refine w_p (y_load1 Try.isAgg23 hs5 rfl rfl (ats_own (i := 0) (vs := [_]) rfl rfl)) rfl ?_
  refine w_p (y_lenS Try.underlying23 rfl rfl) rfl ?_
  refine w_p (y_move (v := .int _ _) rfl rfl) rfl ?_
  refine w_p (y_fieldAddr (o := 1) (i := 1) Try.underlying25 rfl Try.sizeOf22 rfl rfl rfl) rfl ?_
  refine w_p (y_load1 Try.isAgg22 hs5 rfl rfl (ats_own (i := 0) (vs := [_]) rfl rfl)) rfl ?_
  refine w_p (y_lenS Try.underlying22 rfl rfl) rfl ?_
  refine w_bslice (ps := [(0, _), (1, _), (2, _), (3, _)]) (pv := [(0, .int _ _), (1, .int _ _), (2, .int _ _), (3, .int _ _)]) (cs := [_, _, _, _]) want_none rfl rfl (fun w => Try_M_fb4 _ _ _ _ w) hs5 (fun b8 w9 hs10 => ?_)
  refine w_call want_none Try.call63 rfl rfl rfl rfl ((by have h := c63 b _ hm.cons.cons 0 (some ⟨b8, 0, none⟩) 4 [a, (b.ctrs.length : Int), e, (b.hours.length : Int)] (by simp) (by simp) (hns_4 a e) (sl_own (i := 0) (rows := [[_], [_], [_], [_]]) rfl (by simp) rfl) hs10; rw [pairs_four] at h; exact h)) ?_
  rintro _ w12 (⟨hee, rfl, hs13⟩ | ⟨hee, bb, mm, M, rfl, hM, hs13⟩)
  ·
   refine w_p (y_move (v := .tuple _) rfl rfl) rfl ?_
   refine w_p (y_extract (v := .pointer _) rfl rfl rfl) rfl ?_
   refine w_p (y_extract (v := .int _ _) rfl rfl rfl) rfl ?_
   refine w_p (y_assign (v := .pointer _) rfl rfl) rfl ?_
   refine w_p (y_assign (v := .int _ _) rfl rfl) rfl ?_
   refine w_nil ?_
   refine q_then (hK6 _ _ ?_)
   refine w_seq (fun K15 hK14 => ?_)
   refine w_seq (fun K17 hK16 => ?_)
   refine w_region ?_
   refine w_p (y_move (v := .int _ _) rfl rfl) rfl ?_
   refine w_p (y_neq rfl rfl rfl rfl) rfl ?_
   refine w_nil ?_
   refine q_then (hK16 _ _ ?_)
   refine w_cond rfl rfl (fun h18 => ?_) (fun h18 => ?_)
   ·
    try simp only [zA, zB, zC, zD, zE, zF] at h18
    refine w_seq (fun K20 hK19 => ?_)
    refine w_region ?_
    refine w_p (y_move (v := .int _ _) rfl rfl) rfl ?_
    refine w_p (y_assign (v := _) rfl rfl) rfl ?_
    refine w_p (y_assign (v := .int _ _) rfl rfl) rfl ?_
    refine w_nil ?_
    refine q_then (hK19 _ _ ?_)
    refine w_ret ?_
    refine q_then_ret ?_
    refine q_ret (l := [.tmp 6, .tmp 7]) (vs := [_, _]) rfl ⟨⟨rfl, show _ = (.int _ _ : Value) from rfl⟩, ⟨rfl, show _ = (.int _ _ : Value) from rfl⟩, trivial⟩ ?_
    exact ⟨by rw [zeroP_e hee]; rfl, hs13.tail.tail⟩
   ·
    exfalso
    try simp only [zA, zB, zC, zD, zE, zF] at h18
    first | exact hee h18 | exact h18 hee
  ·
   replace hs13 := (show St _ _ (_ :: M ++ (_ :: _ :: F)) from hs13)
   have hs21 := (show St _ _ ([_] ++ (M ++ _)) from hs13).perm (perm_mid [_] M _)
   replace hs21 := (show St _ _ (M ++ (_ :: _ :: _ :: F)) from hs21)
   have hew := enterE_ok hee
   have hok := check_ok hew.1
   refine w_p (y_move (v := .tuple _) rfl rfl) rfl ?_
   refine w_p (y_extract (v := .pointer _) rfl rfl rfl) rfl ?_
   refine w_p (y_extract (v := .int _ _) rfl rfl rfl) rfl ?_
   refine w_p (y_assign (v := .pointer _) rfl rfl) rfl ?_
   refine w_p (y_assign (v := .int _ _) rfl rfl) rfl ?_
   refine w_nil ?_
   refine q_then (hK6 _ _ ?_)
   refine w_seq (fun K23 hK22 => ?_)
   refine w_seq (fun K25 hK24 => ?_)
   refine w_region ?_
   refine w_p (y_move (v := .int _ _) rfl rfl) rfl ?_
   refine w_p (y_neq rfl rfl rfl rfl) rfl ?_
   refine w_nil ?_
   refine q_then (hK24 _ _ ?_)
   refine w_condF rfl rfl ?_
   refine w_skip ?_
   refine q_then (hK22 _ _ ?_)
   refine w_seq (fun K27 hK26 => ?_)
   have hia := idx2_ok hew.2.1
   have hlc := hok.lc
   refine w_region ?_
   refine w_p (y_move (v := .pointer _) rfl rfl) rfl ?_
   refine w_p (y_move (v := .int _ _) rfl rfl) rfl ?_
   refine w_p (y_move (v := .int _ _) rfl rfl) rfl ?_
   refine w_call want_none Try.call77 rfl rfl rfl rfl ((by have h := c77 e.toNat hs21; rw [Int.toNat_of_nonneg (by omega)] at h; exact h)) ?_
   rintro _ w29 ⟨bz, rfl, hs30⟩
   have hs31 := (show St _ _ ([_] ++ (M ++ _)) from hs30).perm (perm_mid [_] M _)
   replace hs31 := (show St _ _ (M ++ (_ :: _ :: _ :: _ :: F)) from hs31)
   refine w_call want_none Try.call72 rfl rfl rfl rfl ((by have h := c72 (X := []) (M := M) (F := _ :: (bb, blk 129 [.int .i64 b.holds, .slice p.ah b.hours.length p.ch, .slice p.ac b.ctrs.length p.cc, .map (some mm)]) :: _ :: _ :: F) b p bb mm ⟨hm.cons.cons.cons.cons, ats_own (i := 1) rfl rfl, hok⟩ a.toNat (by omega) 103 #[] #[.pointer (some ⟨bz, 0, none⟩)] (zeroed e.toNat) (qis_zeroed (ats_own (i := 0) (vs := [_]) rfl (by rw [Int.toNat_of_nonneg (by omega)]; rfl))) hM hs31; rw [Int.toNat_of_nonneg (by omega)] at h; exact h)) ?_
   rintro _ w33 ⟨rfl, M2, hM2, hs34⟩
   replace hs34 := (show St _ _ (M2 ++ (_ :: _ :: _ :: _ :: F)) from hs34)
   have hs35 := hs34.drop
   refine w_p (y_extract (v := .bool _) rfl rfl rfl) rfl ?_
   refine w_p (y_extract (v := .bool _) rfl rfl rfl) rfl ?_
   refine w_call want_none Try.call74 rfl rfl rfl rfl (c74 _ _ hs35) ?_
   rintro _ w37 ⟨rfl, hs38⟩
   refine w_p (y_assign (v := .int _ _) rfl rfl) rfl ?_
   refine w_p (y_assign (v := _) rfl rfl) rfl ?_
   refine w_nil ?_
   refine q_then (hK26 _ _ ?_)
   refine w_ret ?_
   refine q_ret (l := [.tmp 6, .tmp 7]) (vs := [_, _]) rfl ⟨⟨rfl, show _ = (.int _ _ : Value) from rfl⟩, ⟨rfl, show _ = (.int _ _ : Value) from rfl⟩, trivial⟩ ?_
   exact ⟨by rw [zeroP_y hee]; rfl, hs38.tail.tail.tail.tail⟩

end Go.Proofs
/- Walks of this seat, printed by gen.py over the engine: what each function returns, in whatever world. No conditions but those of each contract. -/
set_option linter.unusedVariables false
set_option linter.unusedSimpArgs false
set_option maxRecDepth 20000
namespace Go.Proofs
open Go.Rt Go.Rt.Ch
open Go.Rt.Ha (firstE firstE_step firstE_stop firstE_end failE nameE felt spanL upto span_mem listL fewest fewTo bit before fewStep drop_lt drop_get drop_next drop_done drop_notin set_take set_zero take_less)
attribute [local irreducible] WL WC Con Yd At Ats Sl Agree DW
theorem Try_N_fb3 (x0 : Int) (w : World) : (Instr.buildSlice 39 1 [(0, .int .i64 x0)].toArray).run Try.prog w = .ok (.slice (some ⟨w.heap.size, 0, none⟩) 1 1) (w.alloc (Go.Rt.blk 3 [.int .i64 x0])) := by kernel_rfl
theorem bit_not_one {b k : Nat} (h : ¬ ((bit b k : Nat) : Int) = 1) : ¬ bit b k = 1 := fun e => h (by rw [e]; rfl)
theorem bit_one {b k : Nat} (h : ((bit b k : Nat) : Int) = 1) : bit b k = 1 := by omega
theorem listL_sl {w0 : World} {L : List (Nat × Obj)} {i b : Nat} {t : TypeId} {x n : Nat} (hi : L[i]? = some (b, blk t (iv (listTo x n n)))) (hc : listL x n ≠ []) : Sl w0 L (some ⟨b, 0, none⟩) 1 ((listL x n).map fun x => [Value.int .i64 x]) := by
  have h := Sl.cut (w0 := w0) (l' := 0) (h' := (listL x n).length) (c := n) (sl_ints_own hi) (Nat.zero_le _) (by have := listL_le x n; simp [listTo_len x n n (Nat.le_refl _)]; omega) (by simp [listTo_len x n n (Nat.le_refl _)])
  rw [← List.map_drop, List.drop_zero, Nat.sub_zero, ← List.map_take, listTo_take] at h
  have hn : n ≠ 0 := by rintro rfl; exact hc rfl
  rw [if_neg hn] at h
  have e : (some (⟨b, 0, none⟩ : Addr)).map (·.add (0 * 1)) = some ⟨b, 0, none⟩ := rfl
  rwa [e] at h
theorem listL_slc {w0 : World} {L : List (Nat × Obj)} {b : Nat} {t : TypeId} {x n : Nat} (hi : L[0]? = some (b, blk t (iv (listTo x n n)))) : Sl w0 L (if n = 0 then some ⟨b, 0, none⟩ else (some (⟨b, 0, none⟩ : Addr)).map (·.add (0 * 1))) 1 ((listL x n).map fun x => [Value.int .i64 x]) := by
  by_cases hc : listL x n = []
  · rw [hc]; exact Sl.nil _ _
  · have hn : n ≠ 0 := by rintro rfl; exact hc rfl
    rw [if_neg hn]
    exact listL_sl hi hc
theorem cmp_here {a b : List Int} {i : Nat} (h : a.take i = b.take i) (ha : i < a.length) (hb : i < b.length) (hne : ¬ cmpI a[i] b[i] = 0) : decide (0 < cmpI a[i] b[i]) = less b a := by
  have hn : a[i] ≠ b[i] := fun e => hne (by unfold cmpI; rw [e]; simp)
  rw [less_here h.symm hb ha (fun e => hn e.symm)]
  unfold cmpI
  rw [Bool.eq_iff_iff]
  simp only [decide_eq_true_eq]
  split
  · simp; omega
  · split <;> simp <;> omega
theorem c104 {w0 w : World} {F : List (Nat × Obj)} (x n : Nat) (hx : x < 1000) (hn : n ≤ 40) (hs : St w0 w F) :
  Con Try.prog 104 [.int .i64 x, .int .i64 n] w fun v w' => ∃ B a c, v = .slice a (listL x n).length c ∧ Sl w0 B a 1 ((listL x n).map fun x => [Value.int .i64 x]) ∧ St w0 w' (B ++ F) := by
  refine con_of_wc (n := 31) Try.func104 rfl rfl (Nat.le_of_ble_eq_true rfl) ?_
  refine w_seq (fun K2 hK1 => ?_)
  refine w_region ?_
  refine w_p (y_assign (v := _) rfl rfl) rfl ?_
  refine w_nil ?_
  refine q_then (hK1 _ _ ?_)
  refine w_seq (fun K4 hK3 => ?_)
  refine w_region ?_
  refine w_p (y_move (v := .int _ _) rfl rfl) rfl ?_
  refine w_makeInts (k := n) want_none Try.underlying39 Try_info3 rfl rfl (by omega) rfl rfl rfl rfl rfl hs (fun b5 w6 hs7 => ?_)
  refine w_p (y_assign (v := .slice _ _ _) rfl rfl) rfl ?_
  refine w_nil ?_
  refine q_then (hK3 _ _ ?_)
  refine w_seq (fun K9 hK8 => ?_)
  refine w_region ?_
  refine w_p (y_assign (v := _) rfl rfl) rfl ?_
  refine w_nil ?_
  refine q_then (hK8 _ _ ?_)
  refine w_seq (fun K11 hK10 => ?_)
  refine w_seq (fun K13 hK12 => ?_)
  refine w_region ?_
  refine w_p (y_move (v := .int _ _) rfl rfl) rfl ?_
  refine w_p (y_move (v := _) rfl rfl) rfl ?_
  refine w_nil ?_
  refine q_then (hK12 _ _ ?_)
  refine w_block ?_
  refine w_loop [6, 7, 11, 12, 13, 14, 15, 16, 17, 18, 19, 20, 21, 22, 23, 24, 25, 26, 27] [6, 11] (fun k vs w => ∃ i : Nat, vs = [.int .i64 (listL x i).length, .int .i64 i] ∧ i ≤ n ∧ k = n - i ∧ St w0 w ((b5, blk 3 (iv (listTo x n i))) :: F)) (n) ?_ ?_
  ·
   exact ⟨0, rfl, by omega, by omega, by rw [listTo_zero]; exact hs7⟩
  ·
   intro k vs μ w16 hI K15 hN14
   obtain ⟨i, rfl, hia, rfl, hs⟩ := hI
   have hll := listL_le x i
   refine w_seq (fun K18 hK17 => ?_)
   refine w_region ?_
   refine w_p (y_lss rfl rfl rfl rfl) rfl ?_
   refine w_nil ?_
   refine q_then (hK17 _ _ ?_)
   refine w_seq (fun K20 hK19 => ?_)
   refine w_cond rfl rfl (fun h21 => ?_) (fun h21 => ?_)
   ·
    try simp only [zA, zB, zC, zD, zE, zF] at h21
    refine w_skip ?_
    refine q_then (hK19 _ _ ?_)
    refine w_seq (fun K23 hK22 => ?_)
    refine w_block ?_
    refine w_seq (fun K25 hK24 => ?_)
    refine w_region ?_
    refine w_p (y_move (v := .int _ _) rfl rfl) rfl ?_
    refine w_p (y_assign (v := .int _ _) rfl rfl) rfl ?_
    refine w_nil ?_
    refine q_then (hK24 _ _ ?_)
    refine w_seq (fun K27 hK26 => ?_)
    refine w_region ?_
    refine w_p (y_move (v := .int _ _) rfl rfl) rfl ?_
    refine w_p (y_move (v := .int _ _) rfl rfl) rfl ?_
    refine w_p (y_shr (x := _) (y := _) rfl rfl rfl rfl rfl rfl (by first | omega | exact shr_lt (by omega))) rfl ?_
    refine w_p (show Yd _ _ _ _ (.int .i64 ((bit x i : Nat) : Int)) from (y_and (x := _) (y := 1) rfl rfl rfl rfl rfl rfl (by first | omega | exact shr_lt (by omega)) (by first | omega | exact shr_lt (by omega)))) rfl ?_
    refine w_p (y_eql rfl rfl rfl rfl) rfl ?_
    refine w_nil ?_
    refine q_then (hK26 _ _ ?_)
    refine w_cond rfl rfl (fun h28 => ?_) (fun h28 => ?_)
    ·
     try simp only [zA, zB, zC, zD, zE, zF] at h28
     refine w_region ?_
     refine w_p (y_move (v := .int _ _) rfl rfl) rfl ?_
     refine w_p (y_move (v := .slice _ _ _) rfl rfl) rfl ?_
     refine w_p (y_move (v := .int _ _) rfl rfl) rfl ?_
     refine w_p (y_sliceS (l' := (listL x i).length) (h' := _) Try.underlying39 Try.sizeOf3 rfl rfl ⟨rfl, _, _, rfl, rfl⟩ rfl (by omega) (by omega)) rfl ?_
     refine w_p (y_move (v := .int _ _) rfl rfl) rfl ?_
     refine w_bslice (ps := [(0, _)]) (pv := [(0, .int _ _)]) (cs := [_]) want_none rfl rfl (fun w => Try_N_fb3 _ w) hs (fun b29 w30 hs31 => ?_)
     refine w_copy1 (i := 1) (i2 := 0) want_none Try.underlying39 Try.sizeOf3 rfl rfl rfl rfl hs31 rfl rfl (by omega) (by first | omega | rfl | (simp only [listTo_len x n i (by omega), List.length_map, List.length_set, List.length_append, List.length_take, List.length_drop, List.length_replicate, List.length_cons, List.length_nil] <;> omega)) (fun w32 hs33 => ?_)
     refine w_p (y_add rfl rfl rfl rfl (by omega) (by omega)) rfl ?_
     refine w_p (y_assign (v := .int _ _) rfl rfl) rfl ?_
     refine w_nil ?_
     refine q_blk_normal ?_
     refine q_then (hK22 _ _ ?_)
     refine w_region ?_
     refine w_p (y_add rfl rfl rfl rfl (by omega) (by omega)) rfl ?_
     refine w_p (y_move (v := .int _ _) rfl rfl) rfl ?_
     refine w_nil ?_
     refine q_then (hN14 _ _ (Nx.intro (n - (i + 1)) (by omega) (by repeat (first | exact agree_mix | refine agree_upd rfl ?_ | refine agree_updL rfl ?_ _ | refine agree_mixin rfl ?_)) ?_))
     first
       | exact ⟨i + 1, iv2 (by rw [listL_yes (bit_one (by assumption)), List.length_append]; rfl) rfl, by omega, rfl, by have hq := hs33.tail; rw [listTo_yes (by omega) (bit_one (by assumption))] at hq; exact hq⟩
       | exact ⟨i + 1, iv2 (by rw [listL_no (bit_not_one (by assumption))]) rfl, by omega, rfl, by rw [← listTo_no (bit_not_one (by assumption))]; exact hs33⟩
    ·
     try simp only [zA, zB, zC, zD, zE, zF] at h28
     refine w_skip ?_
     refine q_blk_normal ?_
     refine q_then (hK22 _ _ ?_)
     refine w_region ?_
     refine w_p (y_add rfl rfl rfl rfl (by omega) (by omega)) rfl ?_
     refine w_p (y_move (v := .int _ _) rfl rfl) rfl ?_
     refine w_nil ?_
     refine q_then (hN14 _ _ (Nx.intro (n - (i + 1)) (by omega) (by repeat (first | exact agree_mix | refine agree_upd rfl ?_ | refine agree_updL rfl ?_ _ | refine agree_mixin rfl ?_)) ?_))
     first
       | exact ⟨i + 1, iv2 (by rw [listL_yes (bit_one (by assumption)), List.length_append]; rfl) rfl, by omega, rfl, by have hq := hs.tail; rw [listTo_yes (by omega) (bit_one (by assumption))] at hq; exact hq⟩
       | exact ⟨i + 1, iv2 (by rw [listL_no (bit_not_one (by assumption))]) rfl, by omega, rfl, by rw [← listTo_no (bit_not_one (by assumption))]; exact hs⟩
   ·
    try simp only [zA, zB, zC, zD, zE, zF] at h21
    refine w_exit ?_
    refine q_then_exit ?_
    refine q_then_exit ?_
    refine q_blk_this ?_
    refine q_then (hK10 _ _ ?_)
    refine w_seq (fun K35 hK34 => ?_)
    refine w_region ?_
    refine w_p (y_move (v := .slice _ _ _) rfl rfl) rfl ?_
    refine w_p (y_move (v := .int _ _) rfl rfl) rfl ?_
    refine w_p (y_sliceS (l' := 0) (h' := (listL x i).length) Try.underlying39 Try.sizeOf3 rfl rfl rfl ⟨rfl, _, _, rfl, rfl⟩ (by omega) (by omega)) rfl ?_
    refine w_p (y_assign (v := .slice _ _ _) rfl rfl) rfl ?_
    refine w_nil ?_
    refine q_then (hK34 _ _ ?_)
    refine w_ret ?_
    refine q_ret (l := [.tmp 4]) (vs := [_]) rfl ⟨⟨rfl, show _ = (.slice _ _ _ : Value) from rfl⟩, trivial⟩ ?_
    have hin : i = n := by omega
    subst hin
    exact ⟨[_], _, _, rfl, listL_slc (L := [_]) rfl, hs⟩

theorem c112 {w0 w : World} {F : List (Nat × Obj)} (x : Int) (hs : St w0 w F) :
  Con Try.prog 112 [.int .i64 x] w fun v w' => v = .bool false ∧ St w0 w' F := by
  refine con_of_wc (n := 6) Try.func112 rfl rfl (Nat.le_of_ble_eq_true rfl) ?_
  refine w_seq (fun K2 hK1 => ?_)
  refine w_region ?_
  refine w_p (y_assign (v := _) rfl rfl) rfl ?_
  refine w_nil ?_
  refine q_then (hK1 _ _ ?_)
  refine w_seq (fun K4 hK3 => ?_)
  refine w_region ?_
  refine w_p (y_move (v := .int _ _) rfl rfl) rfl ?_
  refine w_p (y_move (v := .int _ _) rfl rfl) rfl ?_
  refine w_p (y_neq rfl rfl rfl rfl) rfl ?_
  refine w_p (y_assign (v := .bool _) rfl rfl) rfl ?_
  refine w_nil ?_
  refine q_then (hK3 _ _ ?_)
  refine w_ret ?_
  refine q_ret (l := [.tmp 2]) (vs := [_]) rfl ⟨⟨rfl, show _ = (.bool _ : Value) from rfl⟩, trivial⟩ ?_
  exact ⟨by simp [retV], hs⟩

theorem c111 {w0 w : World} {F : List (Nat × Obj)} (a b : Int) (hs : St w0 w F) :
  Con Try.prog 111 [.int .i64 a, .int .i64 b] w fun v w' => v = .int .i64 (cmpI a b) ∧ St w0 w' F := by
  refine con_of_wc (n := 20) Try.func111 rfl rfl (Nat.le_of_ble_eq_true rfl) ?_
  refine w_seq (fun K2 hK1 => ?_)
  refine w_region ?_
  refine w_p (y_assign (v := _) rfl rfl) rfl ?_
  refine w_nil ?_
  refine q_then (hK1 _ _ ?_)
  refine w_seq (fun K4 hK3 => ?_)
  refine w_region ?_
  refine w_p (y_move (v := .int _ _) rfl rfl) rfl ?_
  refine w_call want_none Try.call112 rfl rfl rfl rfl (c112 _ hs) ?_
  rintro _ w6 ⟨rfl, hs7⟩
  refine w_p (y_assign (v := .bool _) rfl rfl) rfl ?_
  refine w_nil ?_
  refine q_then (hK3 _ _ ?_)
  refine w_seq (fun K9 hK8 => ?_)
  refine w_region ?_
  refine w_p (y_move (v := .int _ _) rfl rfl) rfl ?_
  refine w_call want_none Try.call112 rfl rfl rfl rfl (c112 _ hs7) ?_
  rintro _ w11 ⟨rfl, hs12⟩
  refine w_p (y_assign (v := .bool _) rfl rfl) rfl ?_
  refine w_nil ?_
  refine q_then (hK8 _ _ ?_)
  refine w_seq (fun K14 hK13 => ?_)
  refine w_seq (fun K16 hK15 => ?_)
  refine w_region ?_
  refine w_p (y_move (v := .bool _) rfl rfl) rfl ?_
  refine w_nil ?_
  refine q_then (hK15 _ _ ?_)
  refine w_condF rfl rfl ?_
  refine w_skip ?_
  refine q_then (hK13 _ _ ?_)
  refine w_seq (fun K18 hK17 => ?_)
  refine w_seq (fun K20 hK19 => ?_)
  refine w_region ?_
  refine w_p (y_move (v := .bool _) rfl rfl) rfl ?_
  refine w_nil ?_
  refine q_then (hK19 _ _ ?_)
  refine w_condF rfl rfl ?_
  refine w_skip ?_
  refine q_then (hK17 _ _ ?_)
  refine w_seq (fun K22 hK21 => ?_)
  refine w_seq (fun K24 hK23 => ?_)
  refine w_region ?_
  refine w_p (y_move (v := .int _ _) rfl rfl) rfl ?_
  refine w_p (y_move (v := .int _ _) rfl rfl) rfl ?_
  refine w_p (y_lss rfl rfl rfl rfl) rfl ?_
  refine w_nil ?_
  refine q_then (hK23 _ _ ?_)
  refine w_cond rfl rfl (fun h25 => ?_) (fun h25 => ?_)
  ·
   try simp only [zA, zB, zC, zD, zE, zF] at h25
   refine w_seq (fun K27 hK26 => ?_)
   refine w_region ?_
   refine w_p (y_assign (v := _) rfl rfl) rfl ?_
   refine w_nil ?_
   refine q_then (hK26 _ _ ?_)
   refine w_ret ?_
   refine q_then_ret ?_
   refine q_ret (l := [.tmp 4]) (vs := [_]) rfl ⟨⟨rfl, show _ = (.int _ _ : Value) from rfl⟩, trivial⟩ ?_
   exact ⟨congrArg (Value.int .i64) (by unfold cmpI; (repeat' split) <;> first | rfl | omega), hs12⟩
  ·
   try simp only [zA, zB, zC, zD, zE, zF] at h25
   refine w_skip ?_
   refine q_then (hK21 _ _ ?_)
   refine w_seq (fun K29 hK28 => ?_)
   refine w_seq (fun K31 hK30 => ?_)
   refine w_region ?_
   refine w_p (y_move (v := .int _ _) rfl rfl) rfl ?_
   refine w_p (y_move (v := .int _ _) rfl rfl) rfl ?_
   refine w_p (y_gtr rfl rfl rfl rfl) rfl ?_
   refine w_nil ?_
   refine q_then (hK30 _ _ ?_)
   refine w_cond rfl rfl (fun h32 => ?_) (fun h32 => ?_)
   ·
    try simp only [zA, zB, zC, zD, zE, zF] at h32
    refine w_seq (fun K34 hK33 => ?_)
    refine w_region ?_
    refine w_p (y_assign (v := _) rfl rfl) rfl ?_
    refine w_nil ?_
    refine q_then (hK33 _ _ ?_)
    refine w_ret ?_
    refine q_then_ret ?_
    refine q_ret (l := [.tmp 4]) (vs := [_]) rfl ⟨⟨rfl, show _ = (.int _ _ : Value) from rfl⟩, trivial⟩ ?_
    exact ⟨congrArg (Value.int .i64) (by unfold cmpI; (repeat' split) <;> first | rfl | omega), hs12⟩
   ·
    try simp only [zA, zB, zC, zD, zE, zF] at h32
    refine w_skip ?_
    refine q_then (hK28 _ _ ?_)
    refine w_seq (fun K36 hK35 => ?_)
    refine w_region ?_
    refine w_p (y_assign (v := _) rfl rfl) rfl ?_
    refine w_nil ?_
    refine q_then (hK35 _ _ ?_)
    refine w_ret ?_
    refine q_ret (l := [.tmp 4]) (vs := [_]) rfl ⟨⟨rfl, show _ = (.int _ _ : Value) from rfl⟩, trivial⟩ ?_
    exact ⟨congrArg (Value.int .i64) (by unfold cmpI; (repeat' split) <;> first | rfl | omega), hs12⟩

theorem c105 {w0 w : World} {F : List (Nat × Obj)} (aa ab : Option Addr) (a b : List Int) (ca cb : Nat) (hla : a.length ≤ 9223372036854775807) (hlb : b.length ≤ 9223372036854775807) (ha : Sl w0 F aa 1 (a.map fun x => [Value.int .i64 x])) (hb : Sl w0 F ab 1 (b.map fun x => [Value.int .i64 x])) (hs : St w0 w F) :
  Con Try.prog 105 [.slice aa a.length ca, .slice ab b.length cb] w fun v w' => (∃ z, v = .int .i64 z ∧ decide (0 < z) = less b a) ∧ St w0 w' F := by
  refine con_of_wc (n := 36) Try.func105 rfl rfl (Nat.le_of_ble_eq_true rfl) ?_
  refine w_seq (fun K2 hK1 => ?_)
  refine w_region ?_
  refine w_p (y_assign (v := _) rfl rfl) rfl ?_
  refine w_nil ?_
  refine q_then (hK1 _ _ ?_)
  refine w_seq (fun K4 hK3 => ?_)
  refine w_seq (fun K6 hK5 => ?_)
  refine w_region ?_
  refine w_p (y_move (v := .slice _ _ _) rfl rfl) rfl ?_
  refine w_p (y_lenS Try.underlying39 rfl rfl) rfl ?_
  refine w_p (y_move (v := _) rfl rfl) rfl ?_
  refine w_nil ?_
  refine q_then (hK5 _ _ ?_)
  refine w_block ?_
  refine w_loop [4, 5, 6, 7, 8, 11, 12, 13, 14, 15, 16, 17, 18, 19, 20, 21, 22, 23, 24, 25, 26, 27, 28, 29, 30] [11] (fun k vs w => ∃ i : Nat, vs = [.int .i64 i] ∧ i ≤ a.length ∧ i ≤ b.length ∧ k = a.length - i ∧ a.take i = b.take i ∧ St w0 w F) (a.length) ?_ ?_
  ·
   exact ⟨0, rfl, by omega, by omega, by omega, rfl, hs⟩
  ·
   intro k vs μ w9 hI K8 hN7
   obtain ⟨i, rfl, hia, hib, rfl, hpre, hs⟩ := hI
   refine w_seq (fun K11 hK10 => ?_)
   refine w_region ?_
   refine w_p (y_lss rfl rfl rfl rfl) rfl ?_
   refine w_nil ?_
   refine q_then (hK10 _ _ ?_)
   refine w_seq (fun K13 hK12 => ?_)
   refine w_cond rfl rfl (fun h14 => ?_) (fun h14 => ?_)
   ·
    try simp only [zA, zB, zC, zD, zE, zF] at h14
    refine w_skip ?_
    refine q_then (hK12 _ _ ?_)
    refine w_seq (fun K16 hK15 => ?_)
    refine w_block ?_
    refine w_seq (fun K18 hK17 => ?_)
    have hia2 : i < a.length := by omega
    obtain ⟨ba, oa, rfl, hxa⟩ := sl_ints ha hia2
    refine w_region ?_
    refine w_p (y_move (v := .int _ _) rfl rfl) rfl ?_
    refine w_p (y_indexS Try.underlying39 Try.sizeOf3 rfl rfl rfl rfl (i := _) rfl (by omega)) rfl ?_
    refine w_p (y_load1 Try.isAgg3 hs rfl rfl hxa) rfl ?_
    refine w_p (y_assign (v := .int _ _) rfl rfl) rfl ?_
    refine w_p (y_assign (v := .int _ _) rfl rfl) rfl ?_
    refine w_nil ?_
    refine q_then (hK17 _ _ ?_)
    refine w_seq (fun K20 hK19 => ?_)
    refine w_seq (fun K22 hK21 => ?_)
    refine w_region ?_
    refine w_p (y_move (v := .int _ _) rfl rfl) rfl ?_
    refine w_p (y_move (v := .slice _ _ _) rfl rfl) rfl ?_
    refine w_p (y_lenS Try.underlying39 rfl rfl) rfl ?_
    refine w_p (y_geq rfl rfl rfl rfl) rfl ?_
    refine w_nil ?_
    refine q_then (hK21 _ _ ?_)
    refine w_cond rfl rfl (fun h23 => ?_) (fun h23 => ?_)
    ·
     try simp only [zA, zB, zC, zD, zE, zF] at h23
     refine w_seq (fun K25 hK24 => ?_)
     refine w_region ?_
     refine w_p (y_assign (v := _) rfl rfl) rfl ?_
     refine w_nil ?_
     refine q_then (hK24 _ _ ?_)
     refine w_ret ?_
     refine q_then_ret ?_
     refine q_blk_ret ?_
     refine q_then_ret ?_
     refine q_then_ret ?_
     refine q_blk_ret ?_
     refine q_then_ret ?_
     refine q_ret (l := [.tmp 4]) (vs := [_]) rfl ⟨⟨rfl, show _ = (.int _ _ : Value) from rfl⟩, trivial⟩ ?_
     first
       | exact ⟨⟨_, rfl, cmp_here hpre hia2 hib2 (by assumption)⟩, hs⟩
       | exact ⟨⟨_, rfl, by rw [less_short hpre.symm (by omega) (by omega)]; rfl⟩, hs⟩
       | exact ⟨⟨_, rfl, by rw [less_end hpre.symm hib (by omega)]; rfl⟩, hs⟩
    ·
     try simp only [zA, zB, zC, zD, zE, zF] at h23
     refine w_skip ?_
     refine q_then (hK19 _ _ ?_)
     refine w_seq (fun K27 hK26 => ?_)
     have hib2 : i < b.length := by omega
     obtain ⟨bb, ob, rfl, hxb⟩ := sl_ints hb hib2
     refine w_region ?_
     refine w_p (y_move (v := .slice _ _ _) rfl rfl) rfl ?_
     refine w_p (y_move (v := .int _ _) rfl rfl) rfl ?_
     refine w_p (y_indexS Try.underlying39 Try.sizeOf3 rfl rfl rfl rfl (i := _) rfl (by omega)) rfl ?_
     refine w_p (y_load1 Try.isAgg3 hs rfl rfl hxb) rfl ?_
     refine w_p (y_assign (v := .int _ _) rfl rfl) rfl ?_
     refine w_nil ?_
     refine q_then (hK26 _ _ ?_)
     refine w_seq (fun K29 hK28 => ?_)
     refine w_region ?_
     refine w_p (y_move (v := .int _ _) rfl rfl) rfl ?_
     refine w_p (y_move (v := .int _ _) rfl rfl) rfl ?_
     refine w_call want_none Try.call111 rfl rfl rfl rfl (c111 _ _ hs) ?_
     rintro _ w31 ⟨rfl, hs32⟩
     refine w_p (y_assign (v := .int _ _) rfl rfl) rfl ?_
     refine w_nil ?_
     refine q_then (hK28 _ _ ?_)
     refine w_seq (fun K34 hK33 => ?_)
     refine w_region ?_
     refine w_p (y_move (v := .int _ _) rfl rfl) rfl ?_
     refine w_p (y_neq rfl rfl rfl rfl) rfl ?_
     refine w_nil ?_
     refine q_then (hK33 _ _ ?_)
     refine w_cond rfl rfl (fun h35 => ?_) (fun h35 => ?_)
     ·
      try simp only [zA, zB, zC, zD, zE, zF] at h35
      refine w_seq (fun K37 hK36 => ?_)
      refine w_region ?_
      refine w_p (y_move (v := .int _ _) rfl rfl) rfl ?_
      refine w_p (y_assign (v := .int _ _) rfl rfl) rfl ?_
      refine w_nil ?_
      refine q_then (hK36 _ _ ?_)
      refine w_ret ?_
      refine q_blk_ret ?_
      refine q_then_ret ?_
      refine q_then_ret ?_
      refine q_blk_ret ?_
      refine q_then_ret ?_
      refine q_ret (l := [.tmp 4]) (vs := [_]) rfl ⟨⟨rfl, show _ = (.int _ _ : Value) from rfl⟩, trivial⟩ ?_
      first
        | exact ⟨⟨_, rfl, cmp_here hpre hia2 hib2 (by assumption)⟩, hs32⟩
        | exact ⟨⟨_, rfl, by rw [less_short hpre.symm (by omega) (by omega)]; rfl⟩, hs32⟩
        | exact ⟨⟨_, rfl, by rw [less_end hpre.symm hib (by omega)]; rfl⟩, hs32⟩
     ·
      try simp only [zA, zB, zC, zD, zE, zF] at h35
      refine w_skip ?_
      refine q_blk_normal ?_
      refine q_then (hK15 _ _ ?_)
      refine w_region ?_
      refine w_p (y_add rfl rfl rfl rfl (by omega) (by omega)) rfl ?_
      refine w_p (y_move (v := .int _ _) rfl rfl) rfl ?_
      refine w_nil ?_
      refine q_then (hN7 _ _ (Nx.intro (a.length - (i + 1)) (by omega) (by repeat (first | exact agree_mix | refine agree_upd rfl ?_ | refine agree_updL rfl ?_ _ | refine agree_mixin rfl ?_)) ?_))
      exact ⟨i + 1, rfl, by omega, by omega, rfl, take_snoc_eq hpre (by omega) (by omega) (cmp_zero (by assumption)), hs32⟩
   ·
    try simp only [zA, zB, zC, zD, zE, zF] at h14
    refine w_exit ?_
    refine q_then_exit ?_
    refine q_then_exit ?_
    refine q_blk_this ?_
    refine q_then (hK3 _ _ ?_)
    refine w_seq (fun K39 hK38 => ?_)
    refine w_seq (fun K41 hK40 => ?_)
    refine w_region ?_
    refine w_p (y_move (v := .slice _ _ _) rfl rfl) rfl ?_
    refine w_p (y_lenS Try.underlying39 rfl rfl) rfl ?_
    refine w_p (y_move (v := .slice _ _ _) rfl rfl) rfl ?_
    refine w_p (y_lenS Try.underlying39 rfl rfl) rfl ?_
    refine w_p (y_lss rfl rfl rfl rfl) rfl ?_
    refine w_nil ?_
    refine q_then (hK40 _ _ ?_)
    refine w_cond rfl rfl (fun h42 => ?_) (fun h42 => ?_)
    ·
     try simp only [zA, zB, zC, zD, zE, zF] at h42
     refine w_seq (fun K44 hK43 => ?_)
     refine w_region ?_
     refine w_p (y_assign (v := _) rfl rfl) rfl ?_
     refine w_nil ?_
     refine q_then (hK43 _ _ ?_)
     refine w_ret ?_
     refine q_then_ret ?_
     refine q_ret (l := [.tmp 4]) (vs := [_]) rfl ⟨⟨rfl, show _ = (.int _ _ : Value) from rfl⟩, trivial⟩ ?_
     first
       | exact ⟨⟨_, rfl, cmp_here hpre hia2 hib2 (by assumption)⟩, hs⟩
       | exact ⟨⟨_, rfl, by rw [less_short hpre.symm (by omega) (by omega)]; rfl⟩, hs⟩
       | exact ⟨⟨_, rfl, by rw [less_end hpre.symm hib (by omega)]; rfl⟩, hs⟩
    ·
     try simp only [zA, zB, zC, zD, zE, zF] at h42
     refine w_skip ?_
     refine q_then (hK38 _ _ ?_)
     refine w_seq (fun K46 hK45 => ?_)
     refine w_region ?_
     refine w_p (y_assign (v := _) rfl rfl) rfl ?_
     refine w_nil ?_
     refine q_then (hK45 _ _ ?_)
     refine w_ret ?_
     refine q_ret (l := [.tmp 4]) (vs := [_]) rfl ⟨⟨rfl, show _ = (.int _ _ : Value) from rfl⟩, trivial⟩ ?_
     first
       | exact ⟨⟨_, rfl, cmp_here hpre hia2 hib2 (by assumption)⟩, hs⟩
       | exact ⟨⟨_, rfl, by rw [less_short hpre.symm (by omega) (by omega)]; rfl⟩, hs⟩
       | exact ⟨⟨_, rfl, by rw [less_end hpre.symm hib (by omega)]; rfl⟩, hs⟩

theorem c78 {w0 w : World} {M F : List (Nat × Obj)} (n : Nat) (hn : n ≤ 8) (fv : Value) (d : Nat → Bool) (I : List (Nat × Obj) → Prop) (hd : ∀ (s : Nat) (M X : List (Nat × Obj)) (w : World), s < 1 <<< n → I M → St w0 w (X ++ (M ++ F)) → FCon Try.prog fv [.int .i64 (s : Int)] w fun v w' => v = .bool (d s) ∧ ∃ M', I M' ∧ St w0 w' (X ++ (M' ++ F))) (hI0 : I M) (hs : St w0 w (M ++ F)) :
  Con Try.prog 78 [.int .i64 (n : Int), fv] w fun v w' => ∃ B M' a c, v = .slice a (fewest d n).1.length c ∧ Sl w0 B a 1 ((fewest d n).1.map fun x => [Value.int .i64 x]) ∧ I M' ∧ St w0 w' (B ++ (M' ++ F)) := by
  refine con_of_wc (n := 43) Try.func78 rfl rfl (Nat.le_of_ble_eq_true rfl) ?_
  have hsh := shl_256 hn
  refine w_seq (fun K2 hK1 => ?_)
  refine w_region ?_
  refine w_p (y_assign (v := _) rfl rfl) rfl ?_
  refine w_nil ?_
  refine q_then (hK1 _ _ ?_)
  refine w_seq (fun K4 hK3 => ?_)
  refine w_region ?_
  refine w_p (y_assign (v := _) rfl rfl) rfl ?_
  refine w_nil ?_
  refine q_then (hK3 _ _ ?_)
  refine w_seq (fun K6 hK5 => ?_)
  refine w_seq (fun K8 hK7 => ?_)
  refine w_region ?_
  refine w_p (y_move (v := .int _ _) rfl rfl) rfl ?_
  refine w_p (y_shl (x := 1) (y := n) rfl rfl rfl rfl rfl (by first | rfl | omega) (by first | omega | exact shr_lt (by omega)) (by first | omega | exact shr_lt (by omega))) rfl ?_
  refine w_p (y_move (v := _) rfl rfl) rfl ?_
  refine w_nil ?_
  refine q_then (hK7 _ _ ?_)
  refine w_block ?_
  refine w_loop [4, 5, 6, 7, 10, 11, 12, 13, 14, 15, 16, 17, 18, 19, 20, 21, 22, 23, 24, 25, 26, 27, 28, 29, 30, 31, 32, 33, 34, 35, 36, 37, 38, 39, 40, 41] [4, 5, 10] (fun k vs w => ∃ (s : Nat) (av : Option Addr) (cv : Nat) (B M : List (Nat × Obj)), vs = [.slice av (fewTo d n s).1.length cv, .bool (fewTo d n s).2, .int .i64 s] ∧ s ≤ 1 <<< n ∧ k = (1 <<< n) - s ∧ Sl w0 B av 1 ((fewTo d n s).1.map fun x => [Value.int .i64 x]) ∧ I M ∧ St w0 w (B ++ (M ++ F))) (1 <<< n) ?_ ?_
  ·
   exact ⟨0, _, _, [], M, rfl, by omega, by omega, Sl.nil _ _, hI0, hs⟩
  ·
   intro k vs μ w11 hI K10 hN9
   clear hs
   obtain ⟨s, av, cv, B, M, rfl, hba, rfl, hslv, hIM, hs⟩ := hI
   generalize hfd : (fewTo d n s).2 = fd
   refine w_seq (fun K13 hK12 => ?_)
   refine w_region ?_
   refine w_p (y_lss rfl rfl rfl rfl) rfl ?_
   refine w_nil ?_
   refine q_then (hK12 _ _ ?_)
   refine w_seq (fun K15 hK14 => ?_)
   refine w_cond rfl rfl (fun h16 => ?_) (fun h16 => ?_)
   ·
    try simp only [zA, zB, zC, zD, zE, zF] at h16
    refine w_skip ?_
    refine q_then (hK14 _ _ ?_)
    refine w_seq (fun K18 hK17 => ?_)
    refine w_block ?_
    refine w_seq (fun K20 hK19 => ?_)
    refine w_region ?_
    refine w_p (y_move (v := .int _ _) rfl rfl) rfl ?_
    refine w_p (y_assign (v := .int _ _) rfl rfl) rfl ?_
    refine w_nil ?_
    refine q_then (hK19 _ _ ?_)
    refine w_seq (fun K22 hK21 => ?_)
    refine w_region ?_
    refine w_p (y_move (v := .int _ _) rfl rfl) rfl ?_
    refine w_p (y_move (v := .int _ _) rfl rfl) rfl ?_
    refine w_call want_none Try.call104 rfl rfl rfl rfl (c104 _ _ (by omega) (by omega) hs) ?_
    rintro _ w24 ⟨B1, a1, c1, rfl, hsl1, hs25⟩
    replace hs25 := (show St _ _ (B1 ++ (B ++ (M ++ (F)))) from hs25)
    have hle1 := listL_le s n
    have hle2 := few_len d n s
    refine w_p (y_assign (v := .slice _ _ _) rfl rfl) rfl ?_
    refine w_nil ?_
    refine q_then (hK21 _ _ ?_)
    refine w_seq (fun K27 hK26 => ?_)
    refine w_seq (fun K29 hK28 => ?_)
    refine w_region ?_
    refine w_p (y_move (v := .bool _) rfl rfl) rfl ?_
    refine w_p (y_move (v := .bool _) rfl rfl) rfl ?_
    refine w_split (fun h30 => ?_) (fun h30 => ?_)
    ·
     subst h30
     refine w_y rfl rfl rfl (y_move (v := .slice _ _ _) rfl rfl) rfl ?_
     refine w_y rfl rfl rfl (y_lenS Try.underlying39 rfl rfl) rfl ?_
     refine w_y rfl rfl rfl (y_move (v := .slice _ _ _) rfl rfl) rfl ?_
     refine w_y rfl rfl rfl (y_lenS Try.underlying39 rfl rfl) rfl ?_
     refine w_y rfl rfl rfl (y_gtr rfl rfl rfl rfl) rfl ?_
     refine w_y rfl rfl rfl (y_move (v := .bool _) rfl rfl) rfl ?_
     refine w_split (fun h31 => ?_) (fun h31 => ?_)
     ·
      try simp only [zA, zB, zC, zD, zE, zF] at h31
      refine w_skipop rfl rfl rfl ?_
      refine w_skipop rfl rfl rfl ?_
      refine w_skipop rfl rfl rfl ?_
      refine w_skipop rfl rfl rfl ?_
      refine w_skipop rfl rfl rfl ?_
      refine w_skipop rfl rfl rfl ?_
      refine w_skipop' rfl rfl rfl ?_
      refine w_skipop' rfl rfl rfl ?_
      refine w_skipop' rfl rfl rfl ?_
      refine w_skipop' rfl rfl rfl ?_
      refine w_skipop rfl rfl rfl ?_
      refine w_y rfl rfl rfl (y_pickT (v := _) rfl rfl rfl rfl) rfl ?_
      refine w_p (y_pickT (v := .bool _) rfl rfl rfl rfl) rfl ?_
      refine w_nil ?_
      refine q_then (hK28 _ _ ?_)
      refine w_condT rfl rfl ?_
      refine w_exit ?_
      refine q_then_exit ?_
      refine q_blk_this ?_
      refine q_then (hK17 _ _ ?_)
      refine w_region ?_
      refine w_p (y_add rfl rfl rfl rfl (by omega) (by omega)) rfl ?_
      refine w_p (y_move (v := .int _ _) rfl rfl) rfl ?_
      refine w_nil ?_
      refine q_then (hN9 _ _ (Nx.intro ((1 <<< n) - (s + 1)) (by omega) (by repeat (first | exact agree_mix | refine agree_upd rfl ?_ | refine agree_updL rfl ?_ _ | refine agree_mixin rfl ?_)) ?_))
      first
        | (have hq := few_skip hfd (by unfold before; simp; omega)
           exact ⟨s + 1, av, cv, B1 ++ B, M, few_vals (by rw [hq] <;> rfl) (by rw [hq, hfd] <;> rfl) rfl, by omega, rfl, by rw [hq]; exact hslv.app, hIM, (by rw [List.append_assoc]; exact hs25)⟩)
        | (have hq := few_skip hfd (by unfold before; rw [Bool.or_eq_true, Bool.and_eq_true]; exact .inr ⟨by simp; omega, by rw [← hz]; simp; omega⟩)
           exact ⟨s + 1, av, cv, B1 ++ B, M, few_vals (by rw [hq] <;> rfl) (by rw [hq, hfd] <;> rfl) rfl, by omega, rfl, by rw [hq]; exact hslv.app, hIM, (by rw [List.append_assoc]; exact hs25)⟩)
        | (have hq := few_yes (d := d) (n := n) (s := s) (by first | exact .inl hfd | exact .inr (before_no (by omega) (by omega)) | exact .inr (before_no (by omega) (fun e => by rw [← hz]; exact decide_eq_false (by omega)))) (by assumption)
           exact ⟨s + 1, a1, c1, B1 ++ B, M2, few_vals (by rw [hq] <;> rfl) (by rw [hq] <;> rfl) rfl, by omega, rfl, by rw [hq]; exact hsl1.top, hIM2, (by rw [List.append_assoc]; exact hs25)⟩)
        | (have hq := few_no (d := d) (n := n) (s := s) (by first | exact .inl hfd | exact .inr (before_no (by omega) (by omega)) | exact .inr (before_no (by omega) (fun e => by rw [← hz]; exact decide_eq_false (by omega)))) (by assumption)
           exact ⟨s + 1, av, cv, B1 ++ B, M2, few_vals (by rw [hq] <;> rfl) (by rw [hq, hfd] <;> rfl) rfl, by omega, rfl, by rw [hq]; exact hslv.app, hIM2, (by rw [List.append_assoc]; exact hs25)⟩)
     ·
      try simp only [zA, zB, zC, zD, zE, zF] at h31
      refine w_y rfl rfl rfl (y_move (v := .slice _ _ _) rfl rfl) rfl ?_
      refine w_y rfl rfl rfl (y_lenS Try.underlying39 rfl rfl) rfl ?_
      refine w_y rfl rfl rfl (y_move (v := .slice _ _ _) rfl rfl) rfl ?_
      refine w_y rfl rfl rfl (y_lenS Try.underlying39 rfl rfl) rfl ?_
      refine w_y rfl rfl rfl (y_eql rfl rfl rfl rfl) rfl ?_
      refine w_y rfl rfl rfl (y_move (v := .bool _) rfl rfl) rfl ?_
      refine w_split (fun h32 => ?_) (fun h32 => ?_)
      ·
       try simp only [zA, zB, zC, zD, zE, zF] at h32
       refine w_y rfl rfl rfl (y_move (v := .slice _ _ _) rfl rfl) rfl ?_
       refine w_y rfl rfl rfl (y_move (v := .slice _ _ _) rfl rfl) rfl ?_
       refine w_call (want_yes rfl rfl rfl) Try.call105 rfl rfl rfl rfl (c105 _ _ _ _ _ _ (by omega) (by omega) hsl1.top hslv.top.app hs25) ?_
       rintro _ w34 ⟨⟨z, rfl, hz⟩, hs35⟩
       refine w_y rfl rfl rfl (y_gtr rfl rfl rfl rfl) rfl ?_
       refine w_y rfl rfl rfl (y_pickT (v := .bool _) rfl rfl rfl rfl) rfl ?_
       refine w_y rfl rfl rfl (y_pickF (v := .bool _) rfl rfl rfl rfl) rfl ?_
       refine w_p (y_pickT (v := .bool _) rfl rfl rfl rfl) rfl ?_
       refine w_nil ?_
       refine q_then (hK28 _ _ ?_)
       refine w_cond rfl rfl (fun h36 => ?_) (fun h36 => ?_)
       ·
        try simp only [zA, zB, zC, zD, zE, zF] at h36
        refine w_exit ?_
        refine q_then_exit ?_
        refine q_blk_this ?_
        refine q_then (hK17 _ _ ?_)
        refine w_region ?_
        refine w_p (y_add rfl rfl rfl rfl (by omega) (by omega)) rfl ?_
        refine w_p (y_move (v := .int _ _) rfl rfl) rfl ?_
        refine w_nil ?_
        refine q_then (hN9 _ _ (Nx.intro ((1 <<< n) - (s + 1)) (by omega) (by repeat (first | exact agree_mix | refine agree_upd rfl ?_ | refine agree_updL rfl ?_ _ | refine agree_mixin rfl ?_)) ?_))
        first
          | (have hq := few_skip hfd (by unfold before; simp; omega)
             exact ⟨s + 1, av, cv, B1 ++ B, M, few_vals (by rw [hq] <;> rfl) (by rw [hq, hfd] <;> rfl) rfl, by omega, rfl, by rw [hq]; exact hslv.app, hIM, (by rw [List.append_assoc]; exact hs35)⟩)
          | (have hq := few_skip hfd (by unfold before; rw [Bool.or_eq_true, Bool.and_eq_true]; exact .inr ⟨by simp; omega, by rw [← hz]; simp; omega⟩)
             exact ⟨s + 1, av, cv, B1 ++ B, M, few_vals (by rw [hq] <;> rfl) (by rw [hq, hfd] <;> rfl) rfl, by omega, rfl, by rw [hq]; exact hslv.app, hIM, (by rw [List.append_assoc]; exact hs35)⟩)
          | (have hq := few_yes (d := d) (n := n) (s := s) (by first | exact .inl hfd | exact .inr (before_no (by omega) (by omega)) | exact .inr (before_no (by omega) (fun e => by rw [← hz]; exact decide_eq_false (by omega)))) (by assumption)
             exact ⟨s + 1, a1, c1, B1 ++ B, M2, few_vals (by rw [hq] <;> rfl) (by rw [hq] <;> rfl) rfl, by omega, rfl, by rw [hq]; exact hsl1.top, hIM2, (by rw [List.append_assoc]; exact hs35)⟩)
          | (have hq := few_no (d := d) (n := n) (s := s) (by first | exact .inl hfd | exact .inr (before_no (by omega) (by omega)) | exact .inr (before_no (by omega) (fun e => by rw [← hz]; exact decide_eq_false (by omega)))) (by assumption)
             exact ⟨s + 1, av, cv, B1 ++ B, M2, few_vals (by rw [hq] <;> rfl) (by rw [hq, hfd] <;> rfl) rfl, by omega, rfl, by rw [hq]; exact hslv.app, hIM2, (by rw [List.append_assoc]; exact hs35)⟩)
       ·
        try simp only [zA, zB, zC, zD, zE, zF] at h36
        refine w_skip ?_
        refine q_then (hK26 _ _ ?_)
        refine w_seq (fun K38 hK37 => ?_)
        refine w_region ?_
        refine w_p (y_move (v := fv) rfl rfl) rfl ?_
        refine w_p (y_move (v := .int _ _) rfl rfl) rfl ?_
        refine w_callV want_none rfl rfl rfl rfl (hd s M (B1 ++ B) _ (by omega) hIM (St.cast (by simp only [List.append_assoc]) hs35)) ?_
        rintro _ w40 ⟨rfl, M2, hIM2, hs41⟩
        rw [List.append_assoc] at hs41
        refine w_nil ?_
        refine q_then (hK37 _ _ ?_)
        refine w_cond rfl rfl (fun h42 => ?_) (fun h42 => ?_)
        ·
         try simp only [zA, zB, zC, zD, zE, zF] at h42
         refine w_region ?_
         refine w_p (y_move (v := .slice _ _ _) rfl rfl) rfl ?_
         refine w_p (y_assign (v := .slice _ _ _) rfl rfl) rfl ?_
         refine w_p (y_assign (v := _) rfl rfl) rfl ?_
         refine w_nil ?_
         refine q_blk_normal ?_
         refine q_then (hK17 _ _ ?_)
         refine w_region ?_
         refine w_p (y_add rfl rfl rfl rfl (by omega) (by omega)) rfl ?_
         refine w_p (y_move (v := .int _ _) rfl rfl) rfl ?_
         refine w_nil ?_
         refine q_then (hN9 _ _ (Nx.intro ((1 <<< n) - (s + 1)) (by omega) (by repeat (first | exact agree_mix | refine agree_upd rfl ?_ | refine agree_updL rfl ?_ _ | refine agree_mixin rfl ?_)) ?_))
         first
           | (have hq := few_skip hfd (by unfold before; simp; omega)
              exact ⟨s + 1, av, cv, B1 ++ B, M, few_vals (by rw [hq] <;> rfl) (by rw [hq, hfd] <;> rfl) rfl, by omega, rfl, by rw [hq]; exact hslv.app, hIM, (by rw [List.append_assoc]; exact hs41)⟩)
           | (have hq := few_skip hfd (by unfold before; rw [Bool.or_eq_true, Bool.and_eq_true]; exact .inr ⟨by simp; omega, by rw [← hz]; simp; omega⟩)
              exact ⟨s + 1, av, cv, B1 ++ B, M, few_vals (by rw [hq] <;> rfl) (by rw [hq, hfd] <;> rfl) rfl, by omega, rfl, by rw [hq]; exact hslv.app, hIM, (by rw [List.append_assoc]; exact hs41)⟩)
           | (have hq := few_yes (d := d) (n := n) (s := s) (by first | exact .inl hfd | exact .inr (before_no (by omega) (by omega)) | exact .inr (before_no (by omega) (fun e => by rw [← hz]; exact decide_eq_false (by omega)))) (by assumption)
              exact ⟨s + 1, a1, c1, B1 ++ B, M2, few_vals (by rw [hq] <;> rfl) (by rw [hq] <;> rfl) rfl, by omega, rfl, by rw [hq]; exact hsl1.top, hIM2, (by rw [List.append_assoc]; exact hs41)⟩)
           | (have hq := few_no (d := d) (n := n) (s := s) (by first | exact .inl hfd | exact .inr (before_no (by omega) (by omega)) | exact .inr (before_no (by omega) (fun e => by rw [← hz]; exact decide_eq_false (by omega)))) (by assumption)
              exact ⟨s + 1, av, cv, B1 ++ B, M2, few_vals (by rw [hq] <;> rfl) (by rw [hq, hfd] <;> rfl) rfl, by omega, rfl, by rw [hq]; exact hslv.app, hIM2, (by rw [List.append_assoc]; exact hs41)⟩)
        ·
         try simp only [zA, zB, zC, zD, zE, zF] at h42
         refine w_skip ?_
         refine q_blk_normal ?_
         refine q_then (hK17 _ _ ?_)
         refine w_region ?_
         refine w_p (y_add rfl rfl rfl rfl (by omega) (by omega)) rfl ?_
         refine w_p (y_move (v := .int _ _) rfl rfl) rfl ?_
         refine w_nil ?_
         refine q_then (hN9 _ _ (Nx.intro ((1 <<< n) - (s + 1)) (by omega) (by repeat (first | exact agree_mix | refine agree_upd rfl ?_ | refine agree_updL rfl ?_ _ | refine agree_mixin rfl ?_)) ?_))
         first
           | (have hq := few_skip hfd (by unfold before; simp; omega)
              exact ⟨s + 1, av, cv, B1 ++ B, M, few_vals (by rw [hq] <;> rfl) (by rw [hq, hfd] <;> rfl) rfl, by omega, rfl, by rw [hq]; exact hslv.app, hIM, (by rw [List.append_assoc]; exact hs41)⟩)
           | (have hq := few_skip hfd (by unfold before; rw [Bool.or_eq_true, Bool.and_eq_true]; exact .inr ⟨by simp; omega, by rw [← hz]; simp; omega⟩)
              exact ⟨s + 1, av, cv, B1 ++ B, M, few_vals (by rw [hq] <;> rfl) (by rw [hq, hfd] <;> rfl) rfl, by omega, rfl, by rw [hq]; exact hslv.app, hIM, (by rw [List.append_assoc]; exact hs41)⟩)
           | (have hq := few_yes (d := d) (n := n) (s := s) (by first | exact .inl hfd | exact .inr (before_no (by omega) (by omega)) | exact .inr (before_no (by omega) (fun e => by rw [← hz]; exact decide_eq_false (by omega)))) (by assumption)
              exact ⟨s + 1, a1, c1, B1 ++ B, M2, few_vals (by rw [hq] <;> rfl) (by rw [hq] <;> rfl) rfl, by omega, rfl, by rw [hq]; exact hsl1.top, hIM2, (by rw [List.append_assoc]; exact hs41)⟩)
           | (have hq := few_no (d := d) (n := n) (s := s) (by first | exact .inl hfd | exact .inr (before_no (by omega) (by omega)) | exact .inr (before_no (by omega) (fun e => by rw [← hz]; exact decide_eq_false (by omega)))) (by assumption)
              exact ⟨s + 1, av, cv, B1 ++ B, M2, few_vals (by rw [hq] <;> rfl) (by rw [hq, hfd] <;> rfl) rfl, by omega, rfl, by rw [hq]; exact hslv.app, hIM2, (by rw [List.append_assoc]; exact hs41)⟩)
      ·
       try simp only [zA, zB, zC, zD, zE, zF] at h32
       refine w_skipop rfl rfl rfl ?_
       refine w_skipop rfl rfl rfl ?_
       refine w_skipop rfl rfl rfl ?_
       refine w_skipop rfl rfl rfl ?_
       refine w_y rfl rfl rfl (y_pickF (v := _) rfl rfl rfl rfl) rfl ?_
       refine w_y rfl rfl rfl (y_pickF (v := .bool _) rfl rfl rfl rfl) rfl ?_
       refine w_p (y_pickT (v := .bool _) rfl rfl rfl rfl) rfl ?_
       refine w_nil ?_
       refine q_then (hK28 _ _ ?_)
       refine w_condF rfl rfl ?_
       refine w_skip ?_
       refine q_then (hK26 _ _ ?_)
       refine w_seq (fun K44 hK43 => ?_)
       refine w_region ?_
       refine w_p (y_move (v := fv) rfl rfl) rfl ?_
       refine w_p (y_move (v := .int _ _) rfl rfl) rfl ?_
       refine w_callV want_none rfl rfl rfl rfl (hd s M (B1 ++ B) _ (by omega) hIM (St.cast (by simp only [List.append_assoc]) hs25)) ?_
       rintro _ w46 ⟨rfl, M2, hIM2, hs47⟩
       rw [List.append_assoc] at hs47
       refine w_nil ?_
       refine q_then (hK43 _ _ ?_)
       refine w_cond rfl rfl (fun h48 => ?_) (fun h48 => ?_)
       ·
        try simp only [zA, zB, zC, zD, zE, zF] at h48
        refine w_region ?_
        refine w_p (y_move (v := .slice _ _ _) rfl rfl) rfl ?_
        refine w_p (y_assign (v := .slice _ _ _) rfl rfl) rfl ?_
        refine w_p (y_assign (v := _) rfl rfl) rfl ?_
        refine w_nil ?_
        refine q_blk_normal ?_
        refine q_then (hK17 _ _ ?_)
        refine w_region ?_
        refine w_p (y_add rfl rfl rfl rfl (by omega) (by omega)) rfl ?_
        refine w_p (y_move (v := .int _ _) rfl rfl) rfl ?_
        refine w_nil ?_
        refine q_then (hN9 _ _ (Nx.intro ((1 <<< n) - (s + 1)) (by omega) (by repeat (first | exact agree_mix | refine agree_upd rfl ?_ | refine agree_updL rfl ?_ _ | refine agree_mixin rfl ?_)) ?_))
        first
          | (have hq := few_skip hfd (by unfold before; simp; omega)
             exact ⟨s + 1, av, cv, B1 ++ B, M, few_vals (by rw [hq] <;> rfl) (by rw [hq, hfd] <;> rfl) rfl, by omega, rfl, by rw [hq]; exact hslv.app, hIM, (by rw [List.append_assoc]; exact hs47)⟩)
          | (have hq := few_skip hfd (by unfold before; rw [Bool.or_eq_true, Bool.and_eq_true]; exact .inr ⟨by simp; omega, by rw [← hz]; simp; omega⟩)
             exact ⟨s + 1, av, cv, B1 ++ B, M, few_vals (by rw [hq] <;> rfl) (by rw [hq, hfd] <;> rfl) rfl, by omega, rfl, by rw [hq]; exact hslv.app, hIM, (by rw [List.append_assoc]; exact hs47)⟩)
          | (have hq := few_yes (d := d) (n := n) (s := s) (by first | exact .inl hfd | exact .inr (before_no (by omega) (by omega)) | exact .inr (before_no (by omega) (fun e => by rw [← hz]; exact decide_eq_false (by omega)))) (by assumption)
             exact ⟨s + 1, a1, c1, B1 ++ B, M2, few_vals (by rw [hq] <;> rfl) (by rw [hq] <;> rfl) rfl, by omega, rfl, by rw [hq]; exact hsl1.top, hIM2, (by rw [List.append_assoc]; exact hs47)⟩)
          | (have hq := few_no (d := d) (n := n) (s := s) (by first | exact .inl hfd | exact .inr (before_no (by omega) (by omega)) | exact .inr (before_no (by omega) (fun e => by rw [← hz]; exact decide_eq_false (by omega)))) (by assumption)
             exact ⟨s + 1, av, cv, B1 ++ B, M2, few_vals (by rw [hq] <;> rfl) (by rw [hq, hfd] <;> rfl) rfl, by omega, rfl, by rw [hq]; exact hslv.app, hIM2, (by rw [List.append_assoc]; exact hs47)⟩)
       ·
        try simp only [zA, zB, zC, zD, zE, zF] at h48
        refine w_skip ?_
        refine q_blk_normal ?_
        refine q_then (hK17 _ _ ?_)
        refine w_region ?_
        refine w_p (y_add rfl rfl rfl rfl (by omega) (by omega)) rfl ?_
        refine w_p (y_move (v := .int _ _) rfl rfl) rfl ?_
        refine w_nil ?_
        refine q_then (hN9 _ _ (Nx.intro ((1 <<< n) - (s + 1)) (by omega) (by repeat (first | exact agree_mix | refine agree_upd rfl ?_ | refine agree_updL rfl ?_ _ | refine agree_mixin rfl ?_)) ?_))
        first
          | (have hq := few_skip hfd (by unfold before; simp; omega)
             exact ⟨s + 1, av, cv, B1 ++ B, M, few_vals (by rw [hq] <;> rfl) (by rw [hq, hfd] <;> rfl) rfl, by omega, rfl, by rw [hq]; exact hslv.app, hIM, (by rw [List.append_assoc]; exact hs47)⟩)
          | (have hq := few_skip hfd (by unfold before; rw [Bool.or_eq_true, Bool.and_eq_true]; exact .inr ⟨by simp; omega, by rw [← hz]; simp; omega⟩)
             exact ⟨s + 1, av, cv, B1 ++ B, M, few_vals (by rw [hq] <;> rfl) (by rw [hq, hfd] <;> rfl) rfl, by omega, rfl, by rw [hq]; exact hslv.app, hIM, (by rw [List.append_assoc]; exact hs47)⟩)
          | (have hq := few_yes (d := d) (n := n) (s := s) (by first | exact .inl hfd | exact .inr (before_no (by omega) (by omega)) | exact .inr (before_no (by omega) (fun e => by rw [← hz]; exact decide_eq_false (by omega)))) (by assumption)
             exact ⟨s + 1, a1, c1, B1 ++ B, M2, few_vals (by rw [hq] <;> rfl) (by rw [hq] <;> rfl) rfl, by omega, rfl, by rw [hq]; exact hsl1.top, hIM2, (by rw [List.append_assoc]; exact hs47)⟩)
          | (have hq := few_no (d := d) (n := n) (s := s) (by first | exact .inl hfd | exact .inr (before_no (by omega) (by omega)) | exact .inr (before_no (by omega) (fun e => by rw [← hz]; exact decide_eq_false (by omega)))) (by assumption)
             exact ⟨s + 1, av, cv, B1 ++ B, M2, few_vals (by rw [hq] <;> rfl) (by rw [hq, hfd] <;> rfl) rfl, by omega, rfl, by rw [hq]; exact hslv.app, hIM2, (by rw [List.append_assoc]; exact hs47)⟩)
    ·
     subst h30
     refine w_skipop rfl rfl rfl ?_
     refine w_skipop rfl rfl rfl ?_
     refine w_skipop rfl rfl rfl ?_
     refine w_skipop rfl rfl rfl ?_
     refine w_skipop rfl rfl rfl ?_
     refine w_skipop rfl rfl rfl ?_
     refine w_skipop' rfl rfl rfl ?_
     refine w_skipop' rfl rfl rfl ?_
     refine w_skipop' rfl rfl rfl ?_
     refine w_skipop' rfl rfl rfl ?_
     refine w_skipop' rfl rfl rfl ?_
     refine w_skipop' rfl rfl rfl ?_
     refine w_skipop' rfl rfl rfl ?_
     refine w_skipop' rfl rfl rfl ?_
     refine w_skipop' rfl rfl rfl ?_
     refine w_skipop' rfl rfl rfl ?_
     refine w_skipop' rfl rfl rfl ?_
     refine w_skipop rfl rfl rfl ?_
     refine w_p (y_pickF (v := _) rfl rfl rfl rfl) rfl ?_
     refine w_nil ?_
     refine q_then (hK28 _ _ ?_)
     refine w_condF rfl rfl ?_
     refine w_skip ?_
     refine q_then (hK26 _ _ ?_)
     refine w_seq (fun K50 hK49 => ?_)
     refine w_region ?_
     refine w_p (y_move (v := fv) rfl rfl) rfl ?_
     refine w_p (y_move (v := .int _ _) rfl rfl) rfl ?_
     refine w_callV want_none rfl rfl rfl rfl (hd s M (B1 ++ B) _ (by omega) hIM (St.cast (by simp only [List.append_assoc]) hs25)) ?_
     rintro _ w52 ⟨rfl, M2, hIM2, hs53⟩
     rw [List.append_assoc] at hs53
     refine w_nil ?_
     refine q_then (hK49 _ _ ?_)
     refine w_cond rfl rfl (fun h54 => ?_) (fun h54 => ?_)
     ·
      try simp only [zA, zB, zC, zD, zE, zF] at h54
      refine w_region ?_
      refine w_p (y_move (v := .slice _ _ _) rfl rfl) rfl ?_
      refine w_p (y_assign (v := .slice _ _ _) rfl rfl) rfl ?_
      refine w_p (y_assign (v := _) rfl rfl) rfl ?_
      refine w_nil ?_
      refine q_blk_normal ?_
      refine q_then (hK17 _ _ ?_)
      refine w_region ?_
      refine w_p (y_add rfl rfl rfl rfl (by omega) (by omega)) rfl ?_
      refine w_p (y_move (v := .int _ _) rfl rfl) rfl ?_
      refine w_nil ?_
      refine q_then (hN9 _ _ (Nx.intro ((1 <<< n) - (s + 1)) (by omega) (by repeat (first | exact agree_mix | refine agree_upd rfl ?_ | refine agree_updL rfl ?_ _ | refine agree_mixin rfl ?_)) ?_))
      first
        | (have hq := few_skip hfd (by unfold before; simp; omega)
           exact ⟨s + 1, av, cv, B1 ++ B, M, few_vals (by rw [hq] <;> rfl) (by rw [hq, hfd] <;> rfl) rfl, by omega, rfl, by rw [hq]; exact hslv.app, hIM, (by rw [List.append_assoc]; exact hs53)⟩)
        | (have hq := few_skip hfd (by unfold before; rw [Bool.or_eq_true, Bool.and_eq_true]; exact .inr ⟨by simp; omega, by rw [← hz]; simp; omega⟩)
           exact ⟨s + 1, av, cv, B1 ++ B, M, few_vals (by rw [hq] <;> rfl) (by rw [hq, hfd] <;> rfl) rfl, by omega, rfl, by rw [hq]; exact hslv.app, hIM, (by rw [List.append_assoc]; exact hs53)⟩)
        | (have hq := few_yes (d := d) (n := n) (s := s) (by first | exact .inl hfd | exact .inr (before_no (by omega) (by omega)) | exact .inr (before_no (by omega) (fun e => by rw [← hz]; exact decide_eq_false (by omega)))) (by assumption)
           exact ⟨s + 1, a1, c1, B1 ++ B, M2, few_vals (by rw [hq] <;> rfl) (by rw [hq] <;> rfl) rfl, by omega, rfl, by rw [hq]; exact hsl1.top, hIM2, (by rw [List.append_assoc]; exact hs53)⟩)
        | (have hq := few_no (d := d) (n := n) (s := s) (by first | exact .inl hfd | exact .inr (before_no (by omega) (by omega)) | exact .inr (before_no (by omega) (fun e => by rw [← hz]; exact decide_eq_false (by omega)))) (by assumption)
           exact ⟨s + 1, av, cv, B1 ++ B, M2, few_vals (by rw [hq] <;> rfl) (by rw [hq, hfd] <;> rfl) rfl, by omega, rfl, by rw [hq]; exact hslv.app, hIM2, (by rw [List.append_assoc]; exact hs53)⟩)
     ·
      try simp only [zA, zB, zC, zD, zE, zF] at h54
      refine w_skip ?_
      refine q_blk_normal ?_
      refine q_then (hK17 _ _ ?_)
      refine w_region ?_
      refine w_p (y_add rfl rfl rfl rfl (by omega) (by omega)) rfl ?_
      refine w_p (y_move (v := .int _ _) rfl rfl) rfl ?_
      refine w_nil ?_
      refine q_then (hN9 _ _ (Nx.intro ((1 <<< n) - (s + 1)) (by omega) (by repeat (first | exact agree_mix | refine agree_upd rfl ?_ | refine agree_updL rfl ?_ _ | refine agree_mixin rfl ?_)) ?_))
      first
        | (have hq := few_skip hfd (by unfold before; simp; omega)
           exact ⟨s + 1, av, cv, B1 ++ B, M, few_vals (by rw [hq] <;> rfl) (by rw [hq, hfd] <;> rfl) rfl, by omega, rfl, by rw [hq]; exact hslv.app, hIM, (by rw [List.append_assoc]; exact hs53)⟩)
        | (have hq := few_skip hfd (by unfold before; rw [Bool.or_eq_true, Bool.and_eq_true]; exact .inr ⟨by simp; omega, by rw [← hz]; simp; omega⟩)
           exact ⟨s + 1, av, cv, B1 ++ B, M, few_vals (by rw [hq] <;> rfl) (by rw [hq, hfd] <;> rfl) rfl, by omega, rfl, by rw [hq]; exact hslv.app, hIM, (by rw [List.append_assoc]; exact hs53)⟩)
        | (have hq := few_yes (d := d) (n := n) (s := s) (by first | exact .inl hfd | exact .inr (before_no (by omega) (by omega)) | exact .inr (before_no (by omega) (fun e => by rw [← hz]; exact decide_eq_false (by omega)))) (by assumption)
           exact ⟨s + 1, a1, c1, B1 ++ B, M2, few_vals (by rw [hq] <;> rfl) (by rw [hq] <;> rfl) rfl, by omega, rfl, by rw [hq]; exact hsl1.top, hIM2, (by rw [List.append_assoc]; exact hs53)⟩)
        | (have hq := few_no (d := d) (n := n) (s := s) (by first | exact .inl hfd | exact .inr (before_no (by omega) (by omega)) | exact .inr (before_no (by omega) (fun e => by rw [← hz]; exact decide_eq_false (by omega)))) (by assumption)
           exact ⟨s + 1, av, cv, B1 ++ B, M2, few_vals (by rw [hq] <;> rfl) (by rw [hq, hfd] <;> rfl) rfl, by omega, rfl, by rw [hq]; exact hslv.app, hIM2, (by rw [List.append_assoc]; exact hs53)⟩)
   ·
    try simp only [zA, zB, zC, zD, zE, zF] at h16
    refine w_exit ?_
    refine q_then_exit ?_
    refine q_then_exit ?_
    refine q_blk_this ?_
    refine q_then (hK5 _ _ ?_)
    refine w_seq (fun K56 hK55 => ?_)
    refine w_region ?_
    refine w_p (y_move (v := .slice _ _ _) rfl rfl) rfl ?_
    refine w_p (y_assign (v := .slice _ _ _) rfl rfl) rfl ?_
    refine w_nil ?_
    refine q_then (hK55 _ _ ?_)
    refine w_ret ?_
    refine q_ret (l := [.tmp 4]) (vs := [_]) rfl ⟨⟨rfl, show _ = (.slice _ _ _ : Value) from rfl⟩, trivial⟩ ?_
    have hin : s = 1 <<< n := by omega
    subst hin
    exact ⟨B, M, av, cv, rfl, hslv, hIM, hs⟩

end Go.Proofs
/- Walks of this seat, printed by gen.py over the engine: what each function returns, in whatever world. No conditions but those of each contract. -/
set_option linter.unusedVariables false
set_option linter.unusedSimpArgs false
set_option maxRecDepth 20000
namespace Go.Proofs
open Go.Rt Go.Rt.Ch
open Go.Rt.Ha (firstE firstE_step firstE_stop firstE_end failE nameE felt spanL upto span_mem listL fewest fewTo bit before fewStep drop_lt drop_get drop_next drop_done drop_notin set_take set_zero take_less)
attribute [local irreducible] WL WC Con Yd At Ats Sl Agree DW
theorem Try_O_fb3 (x0 : Int) (x1 : Int) (w : World) : (Instr.build 31 [(0, .int .i64 x0), (1, .int .i64 x1)].toArray).run Try.prog w = .ok (.agg #[.int .i64 x0, .int .i64 x1]) w := by kernel_rfl
theorem nodup_inj {α : Type} : ∀ {es : List (α × Value × Nat)}, (es.map (·.2.2)).Nodup → ∀ {a b : α × Value × Nat}, a ∈ es → b ∈ es → a.2.2 = b.2.2 → a = b
  | [], _, a, _, h, _, _ => by cases h
  | x :: es, hn, a, b, ha, hb, e => by
    rw [List.map_cons, List.nodup_cons] at hn
    have hnot : ∀ r ∈ es, r.2.2 ≠ x.2.2 := fun r hr e => hn.1 (by rw [← e]; exact List.mem_map_of_mem (f := fun r : α × Value × Nat => r.2.2) hr)
    rcases List.mem_cons.1 ha with ea | ha2
    · rcases List.mem_cons.1 hb with eb | hb2
      · rw [ea, eb]
      · exact absurd (by rw [← ea]; exact e.symm) (hnot b hb2)
    · rcases List.mem_cons.1 hb with eb | hb2
      · exact absurd (by rw [← eb]; exact e) (hnot a ha2)
      · exact nodup_inj hn.2 ha2 hb2 e
theorem key100 : KeyTy Try.prog 100 4 := keyTy_array Try.underlying100 Try.underlying3 Try.sizeOf3 (by kernel_rfl)
theorem spm_step {b : Board} {s i ck : Nat} {f : List Int → Int} {es : List (List Int × Value × Nat)} {lo hi : Int} (hi2 : i < (truths b).length) (hsp : SpM s f ((truths b).take i) es) (hn : (es.map (·.1)).Nodup)
    (h : (mask s (pad4 (truths b)[i]) ∉ es.map (·.1) ∧ lo = min (f (truths b)[i]) (f (truths b)[i]) ∧ hi = max (f (truths b)[i]) (f (truths b)[i])) ∨ (mask s (pad4 (truths b)[i]) ∈ es.map (·.1) ∧ lo = min (gS s f ((truths b).take i) (mask s (pad4 (truths b)[i]))).1 (f (truths b)[i]) ∧ hi = max (gS s f ((truths b).take i) (mask s (pad4 (truths b)[i]))).2 (f (truths b)[i]))) :
    SpM s f ((truths b).take (i + 1)) (putA (mask s (pad4 (truths b)[i])) (.agg #[.int .i64 lo, .int .i64 hi]) ck es) := by
  rw [List.take_succ_eq_append_getElem hi2]
  refine hsp.put hn (p := (lo, hi)) ?_ ck
  rcases h with ⟨h1, rfl, rfl⟩ | ⟨h1, rfl, rfl⟩
  · rw [gS_new hsp h1]
  · rw [gS_more hsp h1]
theorem mul_40 {a : Int} (s k : Nat) (h : 0 ≤ a ∧ a ≤ 40) : 0 ≤ a * ((bit s k : Nat) : Int) ∧ a * ((bit s k : Nat) : Int) ≤ 40 := by
  rcases bit_lt2 s k with e | e <;> rw [e] <;> simp <;> omega
theorem tells_no {b : Board} (hok : b.Ok) {hold within : Int} {s : Nat} {es : List (List Int × Value × Nat)} (h : SpM s (inH b hold) (truths b) es) {q : List Int × Value × Nat} (hq : q ∈ es) (hn : within < (gS s (inH b hold) (truths b) q.1).2 - (gS s (inH b hold) (truths b) q.1).1) : false = tellsS b hold within s := by
  cases ht : tellsS b hold within s with
  | false => rfl
  | true => have := (tells_map hok h).1 ht q hq; omega
theorem looksP_e {b : Board} {h n : Int} (e : ¬ enterE b (looksE b h n) = 0) : looksP b h n = ([], enterE b (looksE b h n)) := by unfold looksP; rw [if_pos e]
theorem looksP_y {b : Board} {h n : Int} (e : enterE b (looksE b h n) = 0) : looksP b h n = ((fewest (tellsS b h n) b.hours.length).1, 0) := by unfold looksP; rw [if_neg (by simp [e])]
theorem keep_front {w0 w : World} {B M P F : List (Nat × Obj)} (h : St w0 w (B ++ (M ++ (P ++ F)))) : St w0 w (B ++ F) := by
  have e : B ++ (M ++ (P ++ F)) = B ++ ((M ++ P) ++ F) := by simp only [List.append_assoc]
  rw [e] at h
  exact (h.perm (perm_mid B (M ++ P) F)).drop
theorem c79 {w0 w : World} {X M F : List (Nat × Obj)} (b : Board) (p : AtB) (bb mm : Nat) (hk : BK w0 F b p bb mm) (s : Nat) (hs1k : s < 1000) (hold within : Int) (bq bh bw : Nat) (h1 : Ats w0 F bq 0 [.pointer (some ⟨bb, 0, none⟩)]) (h2 : Ats w0 F bh 0 [.int .i64 hold]) (h3 : Ats w0 F bw 0 [.int .i64 within]) (hM : Memo w0 b mm M) (hs : St w0 w (X ++ (M ++ F))) :
  Con Try.prog 79 [.int .i64 (s : Int), .pointer (some ⟨bq, 0, none⟩), .pointer (some ⟨bh, 0, none⟩), .pointer (some ⟨bw, 0, none⟩)] w fun v w' => v = .bool (tellsS b hold within s) ∧ ∃ M', Memo w0 b mm M' ∧ St w0 w' (X ++ (M' ++ F)) := by
  refine con_of_wcM (n := 70) Try.func79 rfl rfl (Nat.le_of_ble_eq_true rfl) ?_
  have hlh := hk.ok.lh
  refine w_seq (fun K2 hK1 => ?_)
  refine w_region ?_
  refine w_box (v := .int _ _) (cs := [_]) want_none rfl rfl rfl hs (fun b3 w4 hs5 => ?_)
  refine w_p (y_assign (v := _) rfl rfl) rfl ?_
  refine w_nil ?_
  refine q_then (hK1 _ _ ?_)
  refine w_seq (fun K7 hK6 => ?_)
  refine w_region ?_
  refine w_makeMap want_none hs5 (fun b8 w9 hs10 => ?_)
  refine w_alloc (cs := [_]) want_none Try.zeroValue118 rfl hs10 (fun b11 w12 hs13 => ?_)
  refine w_store (i := 0) (v := .map _) (vs := [_]) want_none Try.sizeOf118 rfl rfl rfl rfl rfl (by simp [Value.oneCell']) hs13 rfl (Nat.le_of_ble_eq_true rfl) (fun w14 hs15 => ?_)
  refine w_nil ?_
  refine q_then (hK6 _ _ ?_)
  refine w_seq (fun K17 hK16 => ?_)
  refine w_seq (fun K19 hK18 => ?_)
  refine w_region ?_
  refine w_p (y_load1 Try.isAgg95 hs15.tail.tail.tail.drop.drop rfl rfl h1) rfl ?_
  refine w_call want_none Try.call80 rfl rfl rfl rfl (c80 _ hs15) ?_
  rintro _ w21 ⟨bp, rfl, hs22⟩
  refine w_nil ?_
  refine q_then (hK18 _ _ ?_)
  refine w_block ?_
  refine w_rangeC ([_, _] ++ M) (fun i Bx => ∃ B M, Bx = B ++ M ∧ Memo w0 b mm M ∧ ∃ (es : List (List Int × Value × Nat)) (ck : Nat), MOk es ck ∧ SpM s (inH b hold) ((truths b).take (i)) es ∧ B = [(b11, blk 118 [.map (some b8)]), (b8, .map (ents (fun l : List Int => ia l) es).toArray (ck))]) (fun c Bx => ∃ B M, Bx = B ++ M ∧ Memo w0 b mm M ∧ False) rfl rfl rfl Try.call106 (truths_iter b p bb mm hk.app.cons.cons bp (ats_own (i := 0) (vs := [_]) rfl rfl)) (clsM_range (fun i B => ∃ (es : List (List Int × Value × Nat)) (ck : Nat), MOk es ck ∧ SpM s (inH b hold) ((truths b).take (i)) es ∧ B = [(b11, blk 118 [.map (some b8)]), (b8, .map (ents (fun l : List Int => ia l) es).toArray (ck))]) (fun c B => False) (fun i Bx => Iff.rfl) (fun c Bx => Iff.rfl)) hs22 (hull_perm _ _ _ _ _ _ _) ⟨_, M, rfl, hM, [], 0, mok_nil, spm_nil _ _, rfl⟩ ?_ ?_ ?_
  ·
   intro lp i hi Bx Xr Xr2 w24 hJ hs K hK23
   obtain ⟨BB, M3, rfl, hM3, es, ck, hmk, hsp, rfl⟩ := hJ
   have hi2 : i < (truths b).length := by simpa using hi
   rw [List.getElem_map, List.getElem_map]
   have htm := List.getElem_mem hi2
   have hpl := pad_len hk.ok htm
   have h40 : ∀ k, 0 ≤ ld (pad4 (truths b)[i]) k ∧ ld (pad4 (truths b)[i]) k ≤ 40 := fun k => by rw [ld_pad]; exact ld_40 hk.ok htm k
   obtain ⟨h, hh⟩ : ∃ h, h = pad4 (truths b)[i] := ⟨_, rfl⟩
   rw [← hh] at hpl h40 ⊢
   have hx4 : Ats w0 ((bp, blk 95 [.pointer (some ⟨bb, 0, none⟩)]) :: (b3, blk 3 [.int .i64 (s : Int)]) :: (X ++ F)) b3 0 [.int .i64 (s : Int)] := ats_own (i := 1) rfl rfl
   replace hs := (show St _ _ (_ :: _ :: (M3 ++ (Xr ++ ((bp, blk 95 [.pointer (some ⟨bb, 0, none⟩)]) :: (b3, blk 3 [.int .i64 (s : Int)]) :: (X ++ F))))) from hs)
   refine w_region ?_
   refine w_alloc (cs := iv [0, 0, 0, 0]) want_none Try.zeroValue100 rfl hs (fun b25 w26 hs27 => ?_)
   refine w_storeI (i := 0) (l := _) want_none Try.sizeOf100 (by first | omega | rfl | (simp only [hpl, maskTo_len, List.length_map, List.length_set, List.length_append, List.length_take, List.length_drop, List.length_replicate, List.length_cons, List.length_nil] <;> omega)) rfl rfl rfl rfl rfl hs27 rfl (by first | omega | rfl | (simp only [hpl, maskTo_len, List.length_map, List.length_set, List.length_append, List.length_take, List.length_drop, List.length_replicate, List.length_cons, List.length_nil] <;> omega)) (fun w28 hs29 => ?_)
   refine w_nil ?_
   refine q_then (hK23 _ _ (_ :: _ :: _ :: M3) hs29 (fun w30 hs31 => ?_))
   replace hs31 := (show St _ _ (_ :: _ :: _ :: M3 ++ (Xr2 ++ (_ :: _ :: X ++ (F)))) from hs31)
   refine w_block ?_
   refine w_seq (fun K33 hK32 => ?_)
   refine w_region ?_
   refine w_p (y_load1 Try.isAgg95 hs31.tail.tail.tail.drop.drop.tail.tail.drop rfl rfl h1) rfl ?_
   refine w_p (y_loadI (i := 0) Try.isAgg100 Try.sizeOf100 (by first | omega | rfl | (simp only [hpl, maskTo_len, List.length_map, List.length_set, List.length_append, List.length_take, List.length_drop, List.length_replicate, List.length_cons, List.length_nil] <;> omega)) hs31 rfl rfl rfl) rfl ?_
   refine w_p (y_load1 Try.isAgg3 hs31.tail.tail.tail.drop.drop.tail.tail.drop rfl rfl h2) rfl ?_
   refine w_call want_none Try.call70 rfl rfl rfl rfl (c70 b p bb mm hk.app.cons.cons.app.app.cons.cons.cons h hpl h40 hold hs31) ?_
   rintro _ w35 ⟨rfl, hs36⟩
   refine w_p (y_assign (v := .int _ _) rfl rfl) rfl ?_
   refine w_nil ?_
   refine q_then (hK32 _ _ ?_)
   refine w_seq (fun K38 hK37 => ?_)
   refine w_seq (fun K40 hK39 => ?_)
   refine w_region ?_
   refine w_p (y_move (v := _) rfl rfl) rfl ?_
   refine w_nil ?_
   refine q_then (hK39 _ _ ?_)
   refine w_block ?_
   refine w_loop [9, 22, 23, 24, 25, 26, 27, 28, 29, 30, 31, 32, 33, 34] [22] (fun kk vs w => ∃ k : Nat, vs = [.int .i64 k] ∧ k ≤ 4 ∧ kk = 4 - k ∧ St w0 w ((b25, blk 100 (iv (maskTo s h k))) :: (b11, blk 118 [.map (some b8)]) :: (b8, .map (ents (fun l : List Int => ia l) es).toArray ck) :: (M3 ++ (Xr2 ++ ((bp, blk 95 [.pointer (some ⟨bb, 0, none⟩)]) :: (b3, blk 3 [.int .i64 (s : Int)]) :: (X ++ F)))))) (4) ?_ ?_
   ·
    exact ⟨0, rfl, by omega, by omega, by rw [maskTo_zero hpl]; exact hs36⟩
   ·
    intro k vs μ w43 hI K42 hN41
    obtain ⟨k, rfl, hka, rfl, hs⟩ := hI
    refine w_seq (fun K45 hK44 => ?_)
    refine w_region ?_
    refine w_p (y_lss rfl rfl rfl rfl) rfl ?_
    refine w_nil ?_
    refine q_then (hK44 _ _ ?_)
    refine w_seq (fun K47 hK46 => ?_)
    refine w_cond rfl rfl (fun h48 => ?_) (fun h48 => ?_)
    ·
     try simp only [zA, zB, zC, zD, zE, zF] at h48
     refine w_skip ?_
     refine q_then (hK46 _ _ ?_)
     refine w_seq (fun K50 hK49 => ?_)
     refine w_block ?_
     refine w_seq (fun K52 hK51 => ?_)
     refine w_region ?_
     refine w_p (y_move (v := .int _ _) rfl rfl) rfl ?_
     refine w_p (y_assign (v := .int _ _) rfl rfl) rfl ?_
     refine w_nil ?_
     refine q_then (hK51 _ _ ?_)
     have hk4 : k < 4 := by omega
     have hmg : (maskTo s h k).getD k 0 = h.getD k 0 := maskTo_get hk4
     have hm40 := h40 k
     have hml : ld h k = h.getD k 0 := rfl
     have hmb := mul_40 (a := (maskTo s h k).getD k 0) s k (by omega)
     refine w_draw [9] [(0, 0), (1, 0), (2, 1), (3, 1), (4, 0), (5, 0), (6, 0), (7, 0), (8, 0), (9, 3)] Try_mo (drawOK_of (by kernel_rfl)) hs (fun w53 hs54 => ?_)
     refine d_any rfl want_none rfl (fun _ => (y_move (v := .int _ _) rfl rfl)) ?_
     refine d_any rfl want_none rfl (fun _ => (y_indexA Try.underlying100 Try.sizeOf3 rfl rfl rfl rfl (i := k) (by first | rfl | omega) (by omega))) ?_
     refine d_take rfl want_none rfl hs54 (fun _ hq => (y_load1 Try.isAgg3 hq rfl rfl (ats_ints (i := 0) (j := k) rfl (by first | omega | rfl | (simp only [hpl, maskTo_len, List.length_map, List.length_set, List.length_append, List.length_take, List.length_drop, List.length_replicate, List.length_cons, List.length_nil] <;> omega))))) ?_
     refine d_take rfl want_none rfl hs54 (fun _ hq => (y_load1 Try.isAgg3 hq.tail.tail.tail.drop.drop rfl rfl hx4)) ?_
     refine d_any rfl want_none rfl (fun _ => (y_move (v := .int _ _) rfl rfl)) ?_
     refine d_any rfl want_none rfl (fun _ => (y_shr (x := s) (y := k) rfl rfl rfl rfl (by first | rfl | omega) (by first | rfl | omega) (by first | omega | exact shr_lt (by omega)))) ?_
     refine d_any rfl want_none rfl (fun _ => (show Yd _ _ _ _ (.int .i64 ((bit s k : Nat) : Int)) from (y_and (x := _) (y := 1) rfl rfl rfl rfl rfl rfl (by first | omega | exact shr_lt (by omega)) (by first | omega | exact shr_lt (by omega))))) ?_
     refine d_any rfl want_none rfl (fun _ => (y_mul rfl rfl rfl rfl (by omega) (by omega))) ?_
     refine d_any rfl want_none rfl (fun _ => (y_indexA Try.underlying100 Try.sizeOf3 rfl rfl rfl rfl (i := k) (by first | rfl | omega) (by omega))) ?_
     refine d_late rfl ?_
     refine w_storeAtI (i := 0) (j := k) want_none Try.sizeOf3 rfl rfl rfl rfl hs54 rfl (by first | omega | rfl | (simp only [hpl, maskTo_len, List.length_map, List.length_set, List.length_append, List.length_take, List.length_drop, List.length_replicate, List.length_cons, List.length_nil] <;> omega)) (fun w55 hs56 => ?_)
     refine w_nil ?_
     refine qn ?_
     refine d_nil ?_
     refine q_blk_normal ?_
     refine q_then (hK49 _ _ ?_)
     refine w_region ?_
     refine w_p (y_add rfl rfl rfl rfl (by omega) (by omega)) rfl ?_
     refine w_p (y_move (v := .int _ _) rfl rfl) rfl ?_
     refine w_nil ?_
     refine q_then (hN41 _ _ (Nx.intro (4 - (k + 1)) (by omega) (by repeat (first | exact agree_mix | refine agree_upd rfl ?_ | refine agree_updL rfl ?_ _ | refine agree_mixin rfl ?_)) ?_))
     exact ⟨k + 1, rfl, by omega, rfl, by rw [← maskTo_set hk4]; exact hs56⟩
    ·
     try simp only [zA, zB, zC, zD, zE, zF] at h48
     refine w_exit ?_
     refine q_then_exit ?_
     refine q_then_exit ?_
     refine q_blk_this ?_
     refine q_then (hK37 _ _ ?_)
     refine w_seq (fun K58 hK57 => ?_)
     have hk4 : k = 4 := by omega
     subst hk4
     refine w_region ?_
     refine w_p (y_load1 Try.isAgg118 hs rfl rfl (ats_own (i := 1) (vs := [_]) rfl rfl)) rfl ?_
     refine w_p (y_loadI (i := 0) Try.isAgg100 Try.sizeOf100 (by first | omega | rfl | (simp only [hpl, maskTo_len, List.length_map, List.length_set, List.length_append, List.length_take, List.length_drop, List.length_replicate, List.length_cons, List.length_nil] <;> omega)) hs rfl rfl rfl) rfl ?_
     refine w_p (G_look2V (i := 2) (a := mask s h) (l := es) (fun key => sv (gS s (inH b hold) ((truths b).take i) key)) Try.underlying118 (keyG_ia key100) (by unfold mask; exact maskTo_len _ _ _) hsp.len hsp.v (fun hn w => by rw [hsp.zero hn]; exact Try.zeroValue31 w) hs rfl rfl rfl rfl rfl) rfl ?_
     refine w_p (y_move (v := .tuple _) rfl rfl) rfl ?_
     refine w_p (y_extract (v := .agg _) rfl rfl rfl) rfl ?_
     refine w_p (y_extract (v := .bool _) rfl rfl rfl) rfl ?_
     refine w_alloc (cs := [_, _]) want_none Try.zeroValue31 rfl hs (fun b59 w60 hs61 => ?_)
     refine w_store (i := 0) (v := .agg #[.int _ _, .int _ _]) (vs := [_, _]) want_none Try.sizeOf31 rfl rfl rfl rfl rfl (by simp [Value.oneCell']) hs61 rfl (Nat.le_of_ble_eq_true rfl) (fun w62 hs63 => ?_)
     refine w_p (y_assign (v := .bool _) rfl rfl) rfl ?_
     refine w_nil ?_
     refine q_then (hK57 _ _ ?_)
     refine w_seq (fun K65 hK64 => ?_)
     refine w_seq (fun K67 hK66 => ?_)
     refine w_region ?_
     refine w_p (y_move (v := .bool _) rfl rfl) rfl ?_
     refine w_p (y_not rfl rfl) rfl ?_
     refine w_nil ?_
     refine q_then (hK66 _ _ ?_)
     refine w_cond rfl rfl (fun h68 => ?_) (fun h68 => ?_)
     ·
      try simp only [zA, zB, zC, zD, zE, zF] at h68
      refine w_region ?_
      refine w_p (y_move (v := .int _ _) rfl rfl) rfl ?_
      refine w_p (y_move (v := .int _ _) rfl rfl) rfl ?_
      refine w_p (y_build (ps := [(0, _), (1, _)]) (pv := [(0, .int _ _), (1, .int _ _)]) rfl rfl (fun w => Try_O_fb3 _ _ w)) rfl ?_
      refine w_store (i := 0) (v := .agg #[.int _ _, .int _ _]) (vs := [_, _]) want_none Try.sizeOf31 rfl rfl rfl rfl rfl (by simp [Value.oneCell']) hs63 rfl (Nat.le_of_ble_eq_true rfl) (fun w69 hs70 => ?_)
      refine w_nil ?_
      refine q_then (hK64 _ _ ?_)
      refine w_region ?_
      refine w_p (y_load1 Try.isAgg118 hs70 rfl rfl (ats_own (i := 2) (vs := [_]) rfl rfl)) rfl ?_
      refine w_p (y_loadI (i := 1) Try.isAgg100 Try.sizeOf100 (by first | omega | rfl | (simp only [hpl, maskTo_len, List.length_map, List.length_set, List.length_append, List.length_take, List.length_drop, List.length_replicate, List.length_cons, List.length_nil] <;> omega)) hs70 rfl rfl rfl) rfl ?_
      refine w_p (y_fieldAddr (o := 0) (i := 0) Try.underlying31 rfl Try.sizeOf3 rfl rfl rfl) rfl ?_
      refine w_p (y_load1 Try.isAgg3 hs70 rfl rfl (ats_own (i := 0) (vs := [_]) rfl rfl)) rfl ?_
      refine w_p (y_move (v := .int _ _) rfl rfl) rfl ?_
      refine w_p (y_min2 rfl rfl rfl rfl) rfl ?_
      refine w_p (y_fieldAddr (o := 1) (i := 1) Try.underlying31 rfl Try.sizeOf3 rfl rfl rfl) rfl ?_
      refine w_p (y_load1 Try.isAgg3 hs70 rfl rfl (ats_own (i := 0) (vs := [_]) rfl rfl)) rfl ?_
      refine w_p (y_move (v := .int _ _) rfl rfl) rfl ?_
      refine w_p (y_max2 rfl rfl rfl rfl) rfl ?_
      refine w_p (y_build (ps := [(0, _), (1, _)]) (pv := [(0, .int _ _), (1, .int _ _)]) rfl rfl (fun w => Try_O_fb3 _ _ w)) rfl ?_
      refine G_put (i := 3) (a := mask s h) (l := es) want_none Try.underlying118 (keyG_ia key100) (by unfold mask; exact maskTo_len _ _ _) hsp.len rfl rfl rfl rfl rfl rfl hs70 rfl (fun w71 hs72 => ?_)
      refine w_nil ?_
      refine q_blk_normal ?_
      refine rd_normal (_ :: _ :: M3) hs72.tail.tail ?_
      subst hh
      refine ⟨_, M3, rfl, hM3, _, _, ?_, ?_, rfl⟩
      · exact hmk.put _ _
      · refine spm_step hi2 hsp hmk.key ?_
        first
          | exact .inl ⟨by simpa using (by assumption : ¬ mask s (pad4 (truths b)[i]) ∈ es.map (·.1)), by rw [inH_pad], by rw [inH_pad]⟩
          | exact .inr ⟨by assumption, by rw [inH_pad], by rw [inH_pad]⟩
     ·
      try simp only [zA, zB, zC, zD, zE, zF] at h68
      refine w_skip ?_
      refine q_then (hK64 _ _ ?_)
      refine w_region ?_
      refine w_p (y_load1 Try.isAgg118 hs63 rfl rfl (ats_own (i := 2) (vs := [_]) rfl rfl)) rfl ?_
      refine w_p (y_loadI (i := 1) Try.isAgg100 Try.sizeOf100 (by first | omega | rfl | (simp only [hpl, maskTo_len, List.length_map, List.length_set, List.length_append, List.length_take, List.length_drop, List.length_replicate, List.length_cons, List.length_nil] <;> omega)) hs63 rfl rfl rfl) rfl ?_
      refine w_p (y_fieldAddr (o := 0) (i := 0) Try.underlying31 rfl Try.sizeOf3 rfl rfl rfl) rfl ?_
      refine w_p (y_load1 Try.isAgg3 hs63 rfl rfl (ats_own (i := 0) (vs := [_]) rfl rfl)) rfl ?_
      refine w_p (y_move (v := .int _ _) rfl rfl) rfl ?_
      refine w_p (y_min2 rfl rfl rfl rfl) rfl ?_
      refine w_p (y_fieldAddr (o := 1) (i := 1) Try.underlying31 rfl Try.sizeOf3 rfl rfl rfl) rfl ?_
      refine w_p (y_load1 Try.isAgg3 hs63 rfl rfl (ats_own (i := 0) (vs := [_]) rfl rfl)) rfl ?_
      refine w_p (y_move (v := .int _ _) rfl rfl) rfl ?_
      refine w_p (y_max2 rfl rfl rfl rfl) rfl ?_
      refine w_p (y_build (ps := [(0, _), (1, _)]) (pv := [(0, .int _ _), (1, .int _ _)]) rfl rfl (fun w => Try_O_fb3 _ _ w)) rfl ?_
      refine G_put (i := 3) (a := mask s h) (l := es) want_none Try.underlying118 (keyG_ia key100) (by unfold mask; exact maskTo_len _ _ _) hsp.len rfl rfl rfl rfl rfl rfl hs63 rfl (fun w73 hs74 => ?_)
      refine w_nil ?_
      refine q_blk_normal ?_
      refine rd_normal (_ :: _ :: M3) hs74.tail.tail ?_
      subst hh
      refine ⟨_, M3, rfl, hM3, _, _, ?_, ?_, rfl⟩
      · exact hmk.put _ _
      · refine spm_step hi2 hsp hmk.key ?_
        first
          | exact .inl ⟨by simpa using (by assumption : ¬ mask s (pad4 (truths b)[i]) ∈ es.map (·.1)), by rw [inH_pad], by rw [inH_pad]⟩
          | exact .inr ⟨by assumption, by rw [inH_pad], by rw [inH_pad]⟩
  ·
   intro bd Bx w75 hJ hs
   obtain ⟨BB, M3, rfl, hM3, es, ck, hmk, hsp, rfl⟩ := hJ
   rw [List.length_map, List.length_map, List.take_length] at hsp
   replace hs := (show St _ _ (_ :: _ :: _ :: (M3 ++ ((bp, blk 95 [.pointer (some ⟨bb, 0, none⟩)]) :: (b3, blk 3 [.int .i64 (s : Int)]) :: (X ++ F)))) from hs)
   refine q_blk_normal ?_
   refine q_then (hK16 _ _ ?_)
   refine w_seq (fun K77 hK76 => ?_)
   refine w_seq (fun K79 hK78 => ?_)
   refine w_region ?_
   refine w_p (y_load1 Try.isAgg118 hs rfl rfl (ats_own (i := 1) (vs := [_]) rfl rfl)) rfl ?_
   refine w_rangeMap (i := 2) want_none Try.underlying118 rfl rfl hs rfl (fun b80 w81 hs82 => ?_)
   refine w_nil ?_
   refine q_then (hK78 _ _ ?_)
   refine w_block ?_
   refine w_loop [5, 13, 59, 60, 61, 62, 63, 64, 65, 66, 67, 68, 69] [] (fun kk vs w => ∃ (seen : Array Nat), vs = [] ∧ kk = remN es seen ∧ (∀ q ∈ es, q.2.2 ∈ seen.toList → (gS s (inH b hold) (truths b) q.1).2 - (gS s (inH b hold) (truths b) q.1).1 ≤ within) ∧ St w0 w ((b80, .mapIter (some b8) ck seen ck) :: (bd, .deferred (some [])) :: (b11, blk 118 [.map (some b8)]) :: (b8, .map (ents (fun l : List Int => ia l) es).toArray ck) :: (M3 ++ ((bp, blk 95 [.pointer (some ⟨bb, 0, none⟩)]) :: (b3, blk 3 [.int .i64 (s : Int)]) :: (X ++ F))))) (es.length) ?_ ?_
   ·
    exact ⟨#[], rfl, (rem_zero es).symm, fun q _ h => by simp at h, hs82⟩
   ·
    intro k vs μ w85 hI K84 hN83
    clear hs
    obtain ⟨seen, rfl, rfl, hsn, hs⟩ := hI
    refine w_seq (fun K87 hK86 => ?_)
    refine w_region ?_
    refine w_nextMap (i := 0) (j := 3) want_none rfl rfl hs rfl rfl hmk.born (Nat.le_refl _) (fun r hr hnr w89 hs90 => ?_) (fun hall => ?_)
    ·
     obtain ⟨rk, rv, rb⟩ := r
     have hrv := hsp.v _ hr
     dsimp only at hrv
     subst hrv
     refine w_p (y_extract (v := .bool _) rfl rfl rfl) rfl ?_
     refine w_nil ?_
     refine q_then (hK86 _ _ ?_)
     refine w_seq (fun K92 hK91 => ?_)
     refine w_condT rfl rfl ?_
     refine w_skip ?_
     refine q_then (hK91 _ _ ?_)
     refine w_block ?_
     refine w_seq (fun K94 hK93 => ?_)
     have hgi := gS_in hk.ok (hold := hold) s (fun l h => h) rk
     refine w_region ?_
     refine w_p (y_entryG (i := 0) (j := 3) rfl rfl hs90 rfl rfl hr hmk.bnd) rfl ?_
     refine w_p (y_extract (v := .agg _) rfl rfl rfl) rfl ?_
     refine w_alloc (cs := [_, _]) want_none Try.zeroValue31 rfl hs90 (fun b95 w96 hs97 => ?_)
     refine w_store (i := 0) (v := .agg #[.int _ _, .int _ _]) (vs := [_, _]) want_none Try.sizeOf31 rfl rfl rfl rfl rfl (by simp [Value.oneCell']) hs97 rfl (Nat.le_of_ble_eq_true rfl) (fun w98 hs99 => ?_)
     refine w_nil ?_
     refine q_then (hK93 _ _ ?_)
     refine w_seq (fun K101 hK100 => ?_)
     refine w_region ?_
     refine w_p (y_fieldAddr (o := 1) (i := 1) Try.underlying31 rfl Try.sizeOf3 rfl rfl rfl) rfl ?_
     refine w_p (y_load1 Try.isAgg3 hs99 rfl rfl (ats_own (i := 0) (vs := [_]) rfl rfl)) rfl ?_
     refine w_p (y_fieldAddr (o := 0) (i := 0) Try.underlying31 rfl Try.sizeOf3 rfl rfl rfl) rfl ?_
     refine w_p (y_load1 Try.isAgg3 hs99 rfl rfl (ats_own (i := 0) (vs := [_]) rfl rfl)) rfl ?_
     refine w_p (y_sub rfl rfl rfl rfl (by omega) (by omega)) rfl ?_
     refine w_p (y_load1 Try.isAgg3 hs99.tail.tail.tail.tail.tail.drop.tail.tail.drop rfl rfl h3) rfl ?_
     refine w_p (y_gtr rfl rfl rfl rfl) rfl ?_
     refine w_nil ?_
     refine q_then (hK100 _ _ ?_)
     refine w_cond rfl rfl (fun h102 => ?_) (fun h102 => ?_)
     ·
      try simp only [zA, zB, zC, zD, zE, zF] at h102
      refine w_seq (fun K104 hK103 => ?_)
      refine w_region ?_
      refine w_p (y_assign (v := _) rfl rfl) rfl ?_
      refine w_nil ?_
      refine q_then (hK103 _ _ ?_)
      refine w_ret ?_
      refine q_blk_ret ?_
      refine q_then_ret ?_
      refine q_blk_ret ?_
      refine q_then_ret ?_
      refine q_retM (i := 2) (l := [.tmp 5]) (vs := [_]) hs99 rfl rfl (fun w105 hs106 => ⟨⟨⟨rfl, show _ = (.bool _ : Value) from rfl⟩, trivial⟩, ?_⟩)
      first
        | exact ⟨congrArg Value.bool (tells_no hk.ok hsp hr (by simpa using (by assumption))), M3, hM3, mid_back2 hs106.tail.tail.tail.tail.tail⟩
        | exact ⟨congrArg Value.bool ((tells_map hk.ok hsp).2 fun q hq => hsn q hq (hall q hq)).symm, M3, hM3, mid_back2 hs106.tail.tail.tail.tail.tail⟩
     ·
      try simp only [zA, zB, zC, zD, zE, zF] at h102
      refine w_skip ?_
      refine q_blk_normal ?_
      refine q_then (hN83 _ _ (Nx.intro (remN es (seen.push rb)) (by have := rem_push hmk.bnd hr hnr; dsimp only at this; omega) (by repeat (first | exact agree_mix | refine agree_upd rfl ?_ | refine agree_updL rfl ?_ _ | refine agree_mixin rfl ?_)) ?_))
      exact ⟨seen.push rb, rfl, rfl, fun q hq h => (by
        rw [Array.toList_push, List.mem_append, List.mem_singleton] at h
        rcases h with h | h
        · exact hsn q hq h
        · have e := nodup_inj hmk.bnd hq hr h
          rw [e]; simpa using (by assumption)), hs99.tail⟩
    ·
     refine w_p (y_extract (v := .bool _) rfl rfl rfl) rfl ?_
     refine w_nil ?_
     refine q_then (hK86 _ _ ?_)
     refine w_seq (fun K108 hK107 => ?_)
     refine w_condF rfl rfl ?_
     refine w_exit ?_
     refine q_then_exit ?_
     refine q_then_exit ?_
     refine q_blk_this ?_
     refine q_then (hK76 _ _ ?_)
     refine w_seq (fun K110 hK109 => ?_)
     refine w_region ?_
     refine w_p (y_assign (v := _) rfl rfl) rfl ?_
     refine w_nil ?_
     refine q_then (hK109 _ _ ?_)
     refine w_ret ?_
     refine q_retM (i := 1) (l := [.tmp 5]) (vs := [_]) hs rfl rfl (fun w111 hs112 => ⟨⟨⟨rfl, show _ = (.bool _ : Value) from rfl⟩, trivial⟩, ?_⟩)
     first
       | exact ⟨congrArg Value.bool (tells_no hk.ok hsp hr (by simpa using (by assumption))), M3, hM3, mid_back2 hs112.tail.tail.tail.tail⟩
       | exact ⟨congrArg Value.bool ((tells_map hk.ok hsp).2 fun q hq => hsn q hq (hall q hq)).symm, M3, hM3, mid_back2 hs112.tail.tail.tail.tail⟩
  ·
   intro _ _ _ _ hJ
   obtain ⟨_, _, _, _, h⟩ := hJ
   exact h.elim

end Go.Proofs
/- Walks of this seat, printed by gen.py over the engine: what each function returns, in whatever world. No conditions but those of each contract. -/
set_option linter.unusedVariables false
set_option linter.unusedSimpArgs false
set_option maxRecDepth 20000
namespace Go.Proofs
open Go.Rt Go.Rt.Ch
open Go.Rt.Ha (firstE firstE_step firstE_stop firstE_end failE nameE felt spanL upto span_mem listL fewest fewTo bit before fewStep drop_lt drop_get drop_next drop_done drop_notin set_take set_zero take_less)
attribute [local irreducible] WL WC Con Yd At Ats Sl Agree DW
theorem Try_P_fb3 (x0 : Int) (x1 : Int) (w : World) : (Instr.buildSlice 39 2 [(0, .int .i64 x0), (1, .int .i64 x1)].toArray).run Try.prog w = .ok (.slice (some ⟨w.heap.size, 0, none⟩) 2 2) (w.alloc (Go.Rt.blk 3 [.int .i64 x0, .int .i64 x1])) := by kernel_rfl
theorem c27 {w0 w : World} {F : List (Nat × Obj)} (b : Board) (p : AtB) (hm : BIn w0 F b p) (a n : Int) (hs : St w0 w F) :
  Con Try.prog 27 [.agg (b.cells p).toArray, .int .i64 a, .int .i64 n] w fun v w' => ∃ B a' c, v = .tuple #[.slice a' (looksP b a n).1.length c, .int .i64 (looksP b a n).2] ∧ Sl w0 B a' 1 ((looksP b a n).1.map fun x => [Value.int .i64 x]) ∧ St w0 w' (B ++ F) := by
  refine con_of_wc (n := 31) Try.func27 rfl rfl (Nat.le_of_ble_eq_true rfl) ?_
  have hlh0 := hm.lh
  have hlc0 := hm.lc
  refine w_seq (fun K2 hK1 => ?_)
  refine w_region ?_
  refine w_box (v := .agg #[.int _ _, .slice _ _ _, .slice _ _ _]) (cs := [_, _, _]) want_none rfl rfl rfl hs (fun b3 w4 hs5 => ?_)
  refine w_box (v := .int _ _) (cs := [_]) want_none rfl rfl rfl hs5 (fun b6 w7 hs8 => ?_)
  refine w_box (v := .int _ _) (cs := [_]) want_none rfl rfl rfl hs8 (fun b9 w10 hs11 => ?_)
  refine w_p (y_assign (v := _) rfl rfl) rfl ?_
  refine w_p (y_assign (v := _) rfl rfl) rfl ?_
  refine w_nil ?_
  refine q_then (hK1 _ _ ?_)
  refine w_seq (fun K13 hK12 => ?_)
  refine w_region ?_
  refine w_p (y_assign (v := _) rfl rfl) rfl ?_
  refine w_nil ?_
  refine q_then (hK12 _ _ ?_)
  refine w_seq (fun K15 hK14 => ?_)
  refine w_cut [8, 11, 12] [8] (fun vs w => vs = [.int .i64 (if n < 0 then (7 : Int) else 0)] ∧ St w0 w ((b9, blk 3 [.int .i64 n]) :: (b6, blk 3 [.int .i64 a]) :: (b3, blk 25 (b.cells p)) :: F)) (fun K17 hC16 => ?_) ?_
  ·
   refine w_seq (fun K19 hK18 => ?_)
   refine w_region ?_
   refine w_p (y_load1 Try.isAgg3 hs11 rfl rfl (ats_own (i := 0) (vs := [_]) rfl rfl)) rfl ?_
   refine w_p (y_lss rfl rfl rfl rfl) rfl ?_
   refine w_nil ?_
   refine q_then (hK18 _ _ ?_)
   refine w_cond rfl rfl (fun h20 => ?_) (fun h20 => ?_)
   ·
    try simp only [zA, zB, zC, zD, zE, zF] at h20
    refine w_region ?_
    refine w_p (y_assign (v := _) rfl rfl) rfl ?_
    refine w_nil ?_
    refine q_then (hC16 _ _ (Md.intro (by repeat (first | exact agree_refl | exact agree_mix | refine agree_upd rfl ?_ | refine agree_updL rfl ?_ _ | refine agree_mixin rfl ?_)) ?_))
    first
      | exact ⟨by rw [if_pos (by assumption)]; rfl, hs11⟩
      | exact ⟨by rw [if_neg (by omega)]; rfl, hs11⟩
   ·
    try simp only [zA, zB, zC, zD, zE, zF] at h20
    refine w_skip ?_
    refine q_then (hC16 _ _ (Md.intro (by repeat (first | exact agree_refl | exact agree_mix | refine agree_upd rfl ?_ | refine agree_updL rfl ?_ _ | refine agree_mixin rfl ?_)) ?_))
    first
      | exact ⟨by rw [if_pos (by assumption)]; rfl, hs11⟩
      | exact ⟨by rw [if_neg (by omega)]; rfl, hs11⟩
  ·
   intro vs μ w21 hM
   obtain ⟨rfl, hs⟩ := hM
   refine q_then (hK14 _ _ ?_)
   refine w_seq (fun K23 hK22 => ?_)
   have hb3 : Ats w0 ((b3, blk 25 (b.cells p)) :: F) b3 0 (b.cells p) := ats_own (i := 0) (vs := b.cells p) rfl rfl
   refine w_region ?_
   refine w_p (y_loadN (vs := [_, _, _]) Try.isAgg25 Try.sizeOf25 hs.tail.tail rfl rfl hb3) rfl ?_
   refine w_p (y_move (v := .int _ _) rfl rfl) rfl ?_
   refine w_p (y_load1 Try.isAgg3 hs rfl rfl (ats_own (i := 1) (vs := [_]) rfl rfl)) rfl ?_
   refine w_p (y_fieldAddr (o := 0) (i := 0) Try.underlying25 rfl Try.sizeOf3 rfl rfl rfl) rfl ?_
   refine w_p (y_load1 Try.isAgg3 hs.tail.tail rfl rfl (show Ats _ _ _ _ [_] from Ats.part hb3 0 1)) rfl ?_
   refine w_bslice (ps := [(0, _), (1, _)]) (pv := [(0, .int _ _), (1, .int _ _)]) (cs := [_, _]) want_none rfl rfl (fun w => Try_P_fb3 _ _ w) hs (fun b24 w25 hs26 => ?_)
   refine w_call want_none Try.call63 rfl rfl rfl rfl ((by have h := c63 b _ hm.cons.cons.cons.cons (if n < 0 then (7 : Int) else 0) (some ⟨b24, 0, none⟩) 2 [a, b.holds] (by simp) (by simp) (hns_b a) (sl_own (i := 0) (rows := [[_], [_]]) rfl (by simp) rfl) hs26; rw [pairs_looks] at h; exact h)) ?_
   rintro _ w28 (⟨hee, rfl, hs29⟩ | ⟨hee, bb, mm, M, rfl, hM, hs29⟩)
   ·
    refine w_p (y_move (v := .tuple _) rfl rfl) rfl ?_
    refine w_p (y_extract (v := .pointer _) rfl rfl rfl) rfl ?_
    refine w_p (y_extract (v := .int _ _) rfl rfl rfl) rfl ?_
    refine w_alloc (cs := [_]) want_none Try.zeroValue95 rfl hs29 (fun b30 w31 hs32 => ?_)
    refine w_store (i := 0) (v := .pointer _) (vs := [_]) want_none Try.sizeOf95 rfl rfl rfl rfl rfl (by simp [Value.oneCell']) hs32 rfl (Nat.le_of_ble_eq_true rfl) (fun w33 hs34 => ?_)
    refine w_p (y_assign (v := .int _ _) rfl rfl) rfl ?_
    refine w_nil ?_
    refine q_then (hK22 _ _ ?_)
    refine w_seq (fun K36 hK35 => ?_)
    refine w_seq (fun K38 hK37 => ?_)
    refine w_region ?_
    refine w_p (y_move (v := .int _ _) rfl rfl) rfl ?_
    refine w_p (y_neq rfl rfl rfl rfl) rfl ?_
    refine w_nil ?_
    refine q_then (hK37 _ _ ?_)
    refine w_cond rfl rfl (fun h39 => ?_) (fun h39 => ?_)
    ·
     try simp only [zA, zB, zC, zD, zE, zF] at h39
     refine w_seq (fun K41 hK40 => ?_)
     refine w_region ?_
     refine w_p (y_move (v := .int _ _) rfl rfl) rfl ?_
     refine w_p (y_assign (v := _) rfl rfl) rfl ?_
     refine w_p (y_assign (v := .int _ _) rfl rfl) rfl ?_
     refine w_nil ?_
     refine q_then (hK40 _ _ ?_)
     refine w_ret ?_
     refine q_then_ret ?_
     refine q_ret (l := [.tmp 6, .tmp 7]) (vs := [_, _]) rfl ⟨⟨rfl, show _ = (.slice _ _ _ : Value) from rfl⟩, ⟨rfl, show _ = (.int _ _ : Value) from rfl⟩, trivial⟩ ?_
     exact ⟨[], none, 0, by rw [looksP_e hee]; rfl, by rw [looksP_e hee]; exact Sl.nil _ _, hs34.tail.tail.tail.tail.tail⟩
    ·
     exfalso
     try simp only [zA, zB, zC, zD, zE, zF] at h39
     first | exact hee h39 | exact h39 hee
   ·
    replace hs29 := (show St _ _ (_ :: M ++ (_ :: _ :: _ :: _ :: F)) from hs29)
    have hs42 := (show St _ _ ([_] ++ (M ++ _)) from hs29).perm (perm_mid [_] M _)
    replace hs42 := (show St _ _ (M ++ (_ :: _ :: _ :: _ :: _ :: F)) from hs42)
    have hew := enterE_ok hee
    have hok := check_ok hew.1
    refine w_p (y_move (v := .tuple _) rfl rfl) rfl ?_
    refine w_p (y_extract (v := .pointer _) rfl rfl rfl) rfl ?_
    refine w_p (y_extract (v := .int _ _) rfl rfl rfl) rfl ?_
    refine w_alloc (cs := [_]) want_none Try.zeroValue95 rfl hs42 (fun b43 w44 hs45 => ?_)
    refine w_store (i := 0) (v := .pointer _) (vs := [_]) want_none Try.sizeOf95 rfl rfl rfl rfl rfl (by simp [Value.oneCell']) hs45 rfl (Nat.le_of_ble_eq_true rfl) (fun w46 hs47 => ?_)
    refine w_p (y_assign (v := .int _ _) rfl rfl) rfl ?_
    refine w_nil ?_
    refine q_then (hK22 _ _ ?_)
    refine w_seq (fun K49 hK48 => ?_)
    refine w_seq (fun K51 hK50 => ?_)
    refine w_region ?_
    refine w_p (y_move (v := .int _ _) rfl rfl) rfl ?_
    refine w_p (y_neq rfl rfl rfl rfl) rfl ?_
    refine w_nil ?_
    refine q_then (hK50 _ _ ?_)
    refine w_condF rfl rfl ?_
    refine w_skip ?_
    refine q_then (hK48 _ _ ?_)
    refine w_seq (fun K53 hK52 => ?_)
    refine w_region ?_
    refine w_p (y_fieldAddr (o := 1) (i := 1) Try.underlying25 rfl Try.sizeOf22 rfl rfl rfl) rfl ?_
    refine w_p (y_load1 Try.isAgg22 hs47.tail.drop.tail.tail.tail.tail rfl rfl (show Ats _ _ _ _ [_] from Ats.part hb3 1 1)) rfl ?_
    refine w_p (y_lenS Try.underlying22 rfl rfl) rfl ?_
    refine w_p (y_makeFunc (fv := []) (cv := [_, _, _]) rfl rfl rfl rfl) rfl ?_
    have hs54 := (show St _ _ ([_] ++ (M ++ _)) from hs47).perm (perm_mid [_] M _)
    replace hs54 := (show St _ _ (M ++ (_ :: _ :: _ :: _ :: _ :: _ :: F)) from hs54)
    refine w_call want_none Try.call78 rfl rfl rfl rfl (c78 (M := M) (F := _ :: (bb, blk 129 [.int .i64 b.holds, .slice p.ah b.hours.length p.ch, .slice p.ac b.ctrs.length p.cc, .map (some mm)]) :: _ :: _ :: _ :: _ :: F) b.hours.length (by have := hok.lh; omega) _ (tellsS b a n) (Memo w0 b mm) (fun s M X w hs1 hM hs => fcon_fn Try.call79 (c79 b p bb mm ⟨hm.cons.cons.cons.cons.cons.cons, ats_own (i := 1) rfl rfl, hok⟩ s (by have := (shl_256 (n := b.hours.length) (by have := hok.lh; omega)).2; omega) a n _ _ _ (ats_own (i := 0) (vs := [_]) rfl rfl) (ats_own (i := 4) (vs := [_]) rfl rfl) (ats_own (i := 3) (vs := [_]) rfl rfl) hM hs)) hM hs54) ?_
    rintro _ w56 ⟨B, M2, a2, c2, rfl, hslB, hM2, hs57⟩
    replace hs57 := (show St _ _ (B ++ (M2 ++ (_ :: _ :: _ :: _ :: _ :: _ :: F))) from hs57)
    refine w_p (y_assign (v := .slice _ _ _) rfl rfl) rfl ?_
    refine w_p (y_assign (v := _) rfl rfl) rfl ?_
    refine w_nil ?_
    refine q_then (hK52 _ _ ?_)
    refine w_ret ?_
    refine q_ret (l := [.tmp 6, .tmp 7]) (vs := [_, _]) rfl ⟨⟨rfl, show _ = (.slice _ _ _ : Value) from rfl⟩, ⟨rfl, show _ = (.int _ _ : Value) from rfl⟩, trivial⟩ ?_
    exact ⟨B, a2, c2, by rw [looksP_y hee]; rfl, by rw [looksP_y hee]; exact hslB, keep_front (P := [_, _, _, _, _, _]) hs57⟩

end Go.Proofs
/- Rows of cells, one of which is set anew. No conditions. -/
set_option linter.unusedSimpArgs false
set_option linter.unusedVariables false
namespace Go.Rt
theorem flat_len_sz {rows : List (List Value)} {sz : Nat} (hr : ∀ row ∈ rows, row.length = sz) : rows.flatten.length = rows.length * sz := by
  induction rows with
  | nil => simp
  | cons r l ih => rw [List.flatten_cons, List.length_append, hr r (.head _), ih fun x hx => hr x (.tail _ hx), List.length_cons, Nat.succ_mul]; omega
theorem setMany_len : ∀ (vs cs : List Value) (off : Nat), (setMany cs off vs).length = cs.length
  | [], cs, off => rfl
  | v :: vs, cs, off => by simp only [setMany]; rw [setMany_len vs]; simp
end Go.Rt
