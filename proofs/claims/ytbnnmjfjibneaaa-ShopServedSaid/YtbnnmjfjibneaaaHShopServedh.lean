/- Own texts of this claim, joined. No conditions. -/
import Derived.Test.YtbnnmjfjibneaaaHShopServeda
import Derived.Test.YtbnnmjfjibneaaaHShopServedb
import Derived.Test.YtbnnmjfjibneaaaHShopServedc
import Derived.Test.YtbnnmjfjibneaaaHShopServedd
import Derived.Test.YtbnnmjfjibneaaaHShopServede
import Derived.Test.YtbnnmjfjibneaaaHShopServedf
import Derived.Test.YtbnnmjfjibneaaaHShopServedg
/- Walks of this seat, printed by gen.py over the engine: what each function returns, in whatever world. No conditions but those of each contract. -/
set_option linter.unusedVariables false
set_option linter.unusedSimpArgs false
set_option maxRecDepth 20000
namespace Go.Proofs
open Go.Rt Go.Rt.Sh
attribute [local irreducible] WL WC Con Yd At Ats Sl Agree DW
theorem Try_Zj_fb6  (w : World) : (Instr.buildSlice 30 0 [].toArray).run Try.prog w = .ok (.slice (some ⟨w.heap.size, 0, none⟩) 0 0) (w.alloc (Go.Rt.blk 3 [])) := by kernel_rfl
theorem c36 {w0 w : World} {F : List (Nat × Obj)} (m : Market) (p : At3) (hm : MIn w0 F m p) (hok : m.Ok) (al : Option Addr) (cl : Nat) (l : List Int) (hll : l.length ≤ 9223372036854775807) (hl : Sl w0 F al 1 (l.map fun x => [Value.int .i64 x])) (ah : Option Addr) (ch : Nat) (hands : List Int) (hhl : hands.length = m.rooms.length) (hhs : Sl w0 F ah 1 (hands.map fun x => [Value.int .i64 x])) (hhb : ∀ z ∈ hands, 0 ≤ z ∧ z ≤ 200) (hhn : ah = none → ch = 0) (hld : Load m (gD hands) l) (hs : St w0 w F) :
  Con Try.prog 36 [.agg (m.cells p).toArray, .slice al l.length cl, .slice ah hands.length ch] w fun v w' => v = .bool true ∧ St w0 w' F := by
  refine con_of_wc (n := 71) Try.func36 rfl rfl (Nat.le_of_ble_eq_true rfl) ?_
  have hls := hok.ls
  have hlt := hok.lt
  have hlr := hok.lr
  have hlen := hld.len
  refine w_seq (fun K2 hK1 => ?_)
  refine w_region ?_
  refine w_box (v := .agg #[.slice _ _ _, .slice _ _ _, .slice _ _ _]) (cs := [_, _, _]) want_none rfl rfl rfl hs (fun b3 w4 hs5 => ?_)
  refine w_pure want_none (y_assign (v := _) rfl rfl) rfl ?_
  refine w_nil ?_
  refine q_then (hK1 _ _ ?_)
  refine w_seq (fun K7 hK6 => ?_)
  refine w_seq (fun K9 hK8 => ?_)
  have hbx : Ats w0 ((b3, blk 26 (m.cells p)) :: F) b3 0 (m.cells p) := ats_own (i := 0) (vs := m.cells p) rfl rfl
  refine w_region ?_
  refine w_pure want_none (y_move (v := .slice _ _ _) rfl rfl) rfl ?_
  refine w_pure want_none (y_lenS Try.underlying30 rfl rfl) rfl ?_
  refine w_pure want_none (y_fieldAddr (o := 2) (i := 2) Try.underlying26 rfl Try.sizeOf24 rfl rfl rfl) rfl ?_
  refine w_pure want_none (y_load1 Try.isAgg24 hs5 rfl rfl (show Ats _ _ _ _ [_] from Ats.part hbx 2 1)) rfl ?_
  refine w_pure want_none (y_lenS Try.underlying24 rfl rfl) rfl ?_
  refine w_pure want_none (y_neq rfl rfl rfl rfl) rfl ?_
  refine w_nil ?_
  refine q_then (hK8 _ _ ?_)
  refine w_cond rfl rfl (fun h10 => ?_) (fun h10 => ?_)
  ·
   exfalso
   try simp only [Bool.not_eq_true', Bool.not_eq_false', decide_eq_true_eq, decide_eq_false_iff_not, Int.not_lt, Int.not_le] at h10
   omega
  ·
   try simp only [Bool.not_eq_true', Bool.not_eq_false', decide_eq_true_eq, decide_eq_false_iff_not, Int.not_lt, Int.not_le] at h10
   refine w_skip ?_
   refine q_then (hK6 _ _ ?_)
   refine w_seq (fun K12 hK11 => ?_)
   refine w_region ?_
   refine w_bslice (ps := []) (pv := []) (cs := []) want_none rfl rfl (fun w => Try_Zj_fb6  w) hs5 (fun b13 w14 hs15 => ?_)
   refine w_pure want_none (y_move (v := .slice _ _ _) rfl rfl) rfl ?_
   refine w_append (X := ([])) (B := [_]) (rows := (hands.map fun x => [Value.int .i64 x])) (sz := 1) (bytes := 8) want_none Try.underlying30 Try_info3 rfl rfl rfl rfl rfl rfl rfl rfl rfl hs15 own_made hhs.cons.cons (List.length_map _) hhn (ints_one _) (by simp only [maxLen]; omega) (by omega) (fun v16 w17 B18 ho19 hs20 => ?_)
   replace hs20 := (show St _ _ (B18 ++ (_ :: F)) from hs20)
   refine w_pure want_none (y_assign (v := v16) rfl rfl) rfl ?_
   refine w_nil ?_
   refine q_then (hK11 _ _ ?_)
   refine w_seq (fun K22 hK21 => ?_)
   refine w_seq (fun K24 hK23 => ?_)
   refine w_region ?_
   refine w_pure want_none (y_assign (v := _) rfl rfl) rfl ?_
   refine w_nil ?_
   refine q_then (hK23 _ _ ?_)
   refine w_block ?_
   refine w_loop [6, 8, 9, 19, 20, 21, 22, 23, 24, 25, 26, 27, 28, 29, 30, 31, 32, 33, 34, 35, 36, 37, 38, 39, 40, 41, 42, 43, 44, 45, 46, 47, 48, 49, 50, 51, 52, 53, 54, 55, 56, 57, 58, 59, 60, 61, 62, 63, 64, 65, 66, 67, 68, 69, 70] [8] (fun k vs w => ∃ (i : Nat) (LB : List (Nat × Obj)), vs = [.int .i64 i] ∧ i ≤ l.length ∧ k = l.length - i ∧ Rt.Own v16 3 1 m.rooms.length (iv (leftTo m hands l i)) LB ∧ St w0 w (LB ++ ((b3, blk 26 (m.cells p)) :: F))) (l.length) ?_ ?_
   ·
    rw [Nat.zero_add, List.nil_append, flat_ints, hhl] at ho19
    exact ⟨0, _, rfl, by omega, by omega, ho19, hs20⟩
   ·
    intro k vs μ w27 hI K26 hN25
    obtain ⟨i, LB, rfl, hia, rfl, hownL, hs⟩ := hI
    refine w_seq (fun K29 hK28 => ?_)
    refine w_seq (fun K31 hK30 => ?_)
    refine w_region ?_
    refine w_pure want_none (y_move (v := .int _ _) rfl rfl) rfl ?_
    refine w_pure want_none (y_move (v := .slice _ _ _) rfl rfl) rfl ?_
    refine w_pure want_none (y_lenS Try.underlying30 rfl rfl) rfl ?_
    refine w_pure want_none (y_lss rfl rfl rfl rfl) rfl ?_
    refine w_nil ?_
    refine q_then (hK30 _ _ ?_)
    refine w_cond rfl rfl (fun h32 => ?_) (fun h32 => ?_)
    ·
     try simp only [Bool.not_eq_true', Bool.not_eq_false', decide_eq_true_eq, decide_eq_false_iff_not, Int.not_lt, Int.not_le] at h32
     refine w_skip ?_
     refine q_then (hK28 _ _ ?_)
     refine w_seq (fun K34 hK33 => ?_)
     refine w_block ?_
     refine w_seq (fun K36 hK35 => ?_)
     have hi1 : i < l.length := by omega
     have hi2 : i < m.trains.length := by omega
     obtain ⟨bt, ot, hbt, hxt⟩ := sl_trows hm.t hi2
     have htt := hok.train _ (List.getElem_mem hi2)
     obtain ⟨ho1, ho2, ho3⟩ := hld.ok i hi2
     rw [gD_get hi1] at ho1 ho2 ho3
     obtain ⟨hf1, hf2, hf3⟩ := leftTo_fine hok hhl hhb hld i (by omega)
     obtain ⟨hg1, hg2, hg3⟩ := leftTo_fine hok hhl hhb hld (i + 1) (by omega)
     rw [leftTo_succ hi2, gD_get hi1] at hg1 hg2 hg3
     have hr2 : (m.trains[i]'hi2).room.toNat < (leftTo m hands l i).length := by omega
     have hr3 : (m.trains[i]'hi2).room.toNat < (subAt (leftTo m hands l i) (m.trains[i]'hi2).room.toNat (l[i]'hi1)).length := by omega
     have hrb := hf3 _ (List.getElem_mem hr2)
     have hrb3 := hg3 _ (List.getElem_mem hr3)
     obtain ⟨bx, ox, hbx2, hx⟩ := sl_ints hl hi1
     subst hbx2
     obtain ⟨bl, capl, csl, rfl, hBl, hcl1, hcl2, hcl3, hcl4⟩ := own_some hownL (by omega)
     subst hBl
     replace hs := (show St _ _ ((bl, blk 3 csl) :: ((b3, blk 26 (m.cells p)) :: F)) from hs)
     obtain ⟨by_, oy, hby2, hy⟩ := sl_ints (sl_own_ints (w0 := w0) (L := (bl, blk 3 csl) :: ((b3, blk 26 (m.cells p)) :: F)) (i := 0) rfl hf1 hcl4) hr2
     cases hby2
     refine w_region ?_
     refine w_pure want_none (y_fieldAddr (o := 2) (i := 2) Try.underlying26 rfl Try.sizeOf24 rfl rfl rfl) rfl ?_
     refine w_pure want_none (yd_slice hbt (y_load1 Try.isAgg24 hs.tail rfl rfl (show Ats _ _ _ _ [_] from Ats.part hbx 2 1))) rfl ?_
     refine w_pure want_none (y_move (v := .int _ _) rfl rfl) rfl ?_
     refine w_pure want_none (y_indexS Try.underlying24 Try.sizeOf63 rfl rfl rfl rfl (i := _) rfl (by omega)) rfl ?_
     refine w_pure want_none (y_loadN (vs := [_, _, _, _]) Try.isAgg63 Try.sizeOf63 hs.tail.tail rfl rfl hxt) rfl ?_
     refine w_alloc (cs := [_, _, _, _]) want_none Try.zeroValue63 rfl hs (fun b37 w38 hs39 => ?_)
     refine w_store (i := 0) (v := .agg #[.int _ _, .int _ _, .int _ _, .int _ _]) (vs := [_, _, _, _]) want_none Try.sizeOf63 rfl rfl rfl rfl rfl (by simp [Value.oneCell']) hs39 rfl (Nat.le_of_ble_eq_true rfl) (fun w40 hs41 => ?_)
     refine w_nil ?_
     refine q_then (hK35 _ _ ?_)
     refine w_seq (fun K43 hK42 => ?_)
     refine w_seq (fun K45 hK44 => ?_)
     refine w_draw [] [(0, 0), (1, 0), (2, 0), (3, 1), (4, 0), (5, 1), (6, 2), (7, 0), (8, 0), (9, 0), (10, 0), (11, 0), (12, 1), (13, 0), (14, 0), (15, 1), (16, 1), (17, 2), (18, 0), (19, 0), (20, 0)] Try_mo (by kernel_rfl) hs41 (fun w46 hs47 => ?_)
     refine d_any rfl want_none rfl (fun _ => (y_move (v := .slice _ _ _) rfl rfl)) ?_
     refine d_any rfl want_none rfl (fun _ => (y_move (v := .int _ _) rfl rfl)) ?_
     refine d_any rfl want_none rfl (fun _ => (y_indexS Try.underlying30 Try.sizeOf3 rfl rfl rfl rfl (i := _) rfl (by omega))) ?_
     refine d_take rfl want_none rfl hs47 (fun _ hq => (y_load1 Try.isAgg3 hq.tail.tail.tail rfl rfl hx)) ?_
     refine d_any rfl want_none rfl (fun _ => (y_fieldAddr (o := 3) (i := 3) Try.underlying63 rfl Try.sizeOf3 rfl rfl rfl)) ?_
     refine d_take rfl want_none rfl hs47 (fun _ hq => (y_load1 Try.isAgg3 hq rfl rfl (ats_own (i := 0) (vs := [_]) rfl rfl))) ?_
     refine d_eff rfl ?_
     refine w_call want_none Try.call51 rfl rfl rfl rfl (c51 _ _ _ hs47) ?_
     rintro _ w49 ⟨rfl, hs50⟩
     refine w_nil ?_
     refine qn ⟨hs50, ?_⟩
     refine d_any rfl want_none rfl (fun _ => (y_not rfl rfl)) ?_
     refine d_any rfl want_none rfl (fun _ => (y_move (v := .bool _) rfl rfl)) ?_
     refine d_split (fun h51 => ?_) (fun h51 => ?_)
     ·
      exfalso
      try simp only [Bool.not_eq_true', Bool.not_eq_false', decide_eq_true_eq, decide_eq_false_iff_not, Int.not_lt, Int.not_le] at h51
      exact h51 ⟨by omega, by omega⟩
     ·
      try simp only [Bool.not_eq_true', Bool.not_eq_false', decide_eq_true_eq, decide_eq_false_iff_not, Int.not_lt, Int.not_le] at h51
      refine d_any rfl (want_yes rfl rfl rfl) rfl (fun _ => (y_move (v := .slice _ _ _) rfl rfl)) ?_
      refine d_any rfl (want_yes rfl rfl rfl) rfl (fun _ => (y_move (v := .int _ _) rfl rfl)) ?_
      refine d_any rfl (want_yes rfl rfl rfl) rfl (fun _ => (y_indexS Try.underlying30 Try.sizeOf3 rfl rfl rfl rfl (i := _) rfl (by omega))) ?_
      refine d_take rfl (want_yes rfl rfl rfl) rfl hs50 (fun _ hq => (y_load1 Try.isAgg3 hq.tail.tail.tail rfl rfl hx)) ?_
      refine d_any rfl (want_yes rfl rfl rfl) rfl (fun _ => (y_gtr rfl rfl rfl rfl)) ?_
      refine d_any rfl (want_yes rfl rfl rfl) rfl (fun _ => (y_move (v := .bool _) rfl rfl)) ?_
      refine d_split (fun h52 => ?_) (fun h52 => ?_)
      ·
       try simp only [Bool.not_eq_true', Bool.not_eq_false', decide_eq_true_eq, decide_eq_false_iff_not, Int.not_lt, Int.not_le] at h52
       refine d_take rfl (want_yes rfl rfl rfl) rfl hs50 (fun _ hq => (y_loadN (vs := [_, _, _]) Try.isAgg26 Try.sizeOf26 hq.tail.tail rfl rfl hbx)) ?_
       refine d_take rfl (want_yes rfl rfl rfl) rfl hs50 (fun _ hq => (y_loadN (vs := [_, _, _, _]) Try.isAgg63 Try.sizeOf63 hq rfl rfl (ats_own (i := 0) (vs := [_, _, _, _]) rfl rfl))) ?_
       refine d_eff rfl ?_
       refine w_call (want_yes rfl rfl rfl) Try.call53 rfl rfl rfl rfl (c53 m _ hm.cons.cons.cons hok _ (List.getElem_mem hi2) hs50) ?_
       rintro _ w54 ⟨rfl, hs55⟩
       refine w_nil ?_
       refine qn ⟨hs55, ?_⟩
       refine d_any rfl (want_yes rfl rfl rfl) rfl (fun _ => (y_not rfl rfl)) ?_
       refine d_any rfl (want_yes rfl rfl rfl) rfl (fun _ => (y_pickT (v := .bool _) rfl rfl rfl rfl)) ?_
       refine d_any rfl want_none rfl (fun _ => (y_pickF (v := .bool _) rfl rfl rfl rfl)) ?_
       refine d_nil ?_
       refine q_then (hK44 _ _ ?_)
       refine w_cond rfl rfl (fun h56 => ?_) (fun h56 => ?_)
       ·
        exfalso
        try simp only [Bool.not_eq_true', Bool.not_eq_false', decide_eq_true_eq, decide_eq_false_iff_not, Int.not_lt, Int.not_le] at h56
        have := ho3 h56; omega
       ·
        try simp only [Bool.not_eq_true', Bool.not_eq_false', decide_eq_true_eq, decide_eq_false_iff_not, Int.not_lt, Int.not_le] at h56
        refine w_skip ?_
        refine q_then (hK42 _ _ ?_)
        refine w_seq (fun K58 hK57 => ?_)
        refine w_draw [14] [(0, 0), (1, 0), (2, 1), (3, 0), (4, 0), (5, 1), (6, 0), (7, 1), (8, 0), (9, 0), (10, 0), (11, 1), (12, 0), (13, 0), (14, 3)] Try_mo (by kernel_rfl) hs55 (fun w59 hs60 => ?_)
        refine d_any rfl want_none rfl (fun _ => (y_move (v := .slice _ _ _) rfl rfl)) ?_
        refine d_any rfl want_none rfl (fun _ => (y_fieldAddr (o := 0) (i := 0) Try.underlying63 rfl Try.sizeOf3 rfl rfl rfl)) ?_
        refine d_take rfl want_none rfl hs60 (fun _ hq => (y_load1 Try.isAgg3 hq rfl rfl (ats_own (i := 0) (vs := [_]) rfl rfl))) ?_
        refine d_any rfl want_none rfl (fun _ => (y_move (v := .slice _ _ _) rfl rfl)) ?_
        refine d_any rfl want_none rfl (fun _ => (y_fieldAddr (o := 0) (i := 0) Try.underlying63 rfl Try.sizeOf3 rfl rfl rfl)) ?_
        refine d_take rfl want_none rfl hs60 (fun _ hq => (y_load1 Try.isAgg3 hq rfl rfl (ats_own (i := 0) (vs := [_]) rfl rfl))) ?_
        refine d_any rfl want_none rfl (fun _ => (y_indexS Try.underlying30 Try.sizeOf3 rfl rfl rfl rfl (i := (m.trains[i]'hi2).room.toNat) (by omega) (by omega))) ?_
        refine d_take rfl want_none rfl hs60 (fun _ hq => (y_load1 Try.isAgg3 hq.tail rfl rfl hy)) ?_
        refine d_any rfl want_none rfl (fun _ => (y_move (v := .slice _ _ _) rfl rfl)) ?_
        refine d_any rfl want_none rfl (fun _ => (y_move (v := .int _ _) rfl rfl)) ?_
        refine d_any rfl want_none rfl (fun _ => (y_indexS Try.underlying30 Try.sizeOf3 rfl rfl rfl rfl (i := _) rfl (by omega))) ?_
        refine d_take rfl want_none rfl hs60 (fun _ hq => (y_load1 Try.isAgg3 hq.tail.tail.tail rfl rfl hx)) ?_
        refine d_any rfl want_none rfl (fun _ => (y_sub rfl rfl rfl rfl (by omega) (by omega))) ?_
        refine d_any rfl want_none rfl (fun _ => (y_indexS Try.underlying30 Try.sizeOf3 rfl rfl rfl rfl (i := (m.trains[i]'hi2).room.toNat) (by omega) (by omega))) ?_
        refine d_late rfl ?_
        refine w_store (i := 1) (v := .int _ _) (vs := [_]) want_none Try.sizeOf3 rfl rfl rfl rfl rfl (by simp [Value.oneCell']) hs60 rfl (show 0 + (m.trains[i]'hi2).room.toNat * 1 + 1 ≤ csl.length by omega) (fun w61 hs62 => ?_)
        have hcl5 : (csl.set ((m.trains[i]'hi2).room.toNat) (.int .i64 ((leftTo m hands l i)[(m.trains[i]'hi2).room.toNat]'hr2 - l[i]'hi1))).take (m.rooms.length * 1) = iv (subAt (leftTo m hands l i) (m.trains[i]'hi2).room.toNat (l[i]'hi1)) := subAt_cells hf1 hr2 hcl4
        replace hs62 := (show St _ _ (_ :: (bl, blk 3 (csl.set ((m.trains[i]'hi2).room.toNat) (.int .i64 ((leftTo m hands l i)[(m.trains[i]'hi2).room.toNat]'hr2 - l[i]'hi1)))) :: _ :: F) from (by have h6 := hs62; simp only [setMany, Nat.zero_add, Nat.mul_one] at h6; exact h6))
        refine w_nil ?_
        refine qn ?_
        refine d_nil ?_
        refine q_then (hK57 _ _ ?_)
        refine w_seq (fun K64 hK63 => ?_)
        obtain ⟨bz, oz, hbz2, hz⟩ := sl_ints (sl_own_ints (w0 := w0) (L := (bl, blk 3 (csl.set ((m.trains[i]'hi2).room.toNat) (.int .i64 ((leftTo m hands l i)[(m.trains[i]'hi2).room.toNat]'hr2 - l[i]'hi1)))) :: ((b3, blk 26 (m.cells p)) :: F)) (i := 0) rfl hg1 hcl5) hr3
        cases hbz2
        refine w_region ?_
        refine w_pure want_none (y_move (v := .slice _ _ _) rfl rfl) rfl ?_
        refine w_pure want_none (y_fieldAddr (o := 0) (i := 0) Try.underlying63 rfl Try.sizeOf3 rfl rfl rfl) rfl ?_
        refine w_pure want_none (y_load1 Try.isAgg3 hs62 rfl rfl (ats_own (i := 0) (vs := [_]) rfl rfl)) rfl ?_
        refine w_pure want_none (y_indexS Try.underlying30 Try.sizeOf3 rfl rfl rfl rfl (i := (m.trains[i]'hi2).room.toNat) (by omega) (by omega)) rfl ?_
        refine w_pure want_none (y_load1 Try.isAgg3 hs62.tail rfl rfl hz) rfl ?_
        refine w_pure want_none (y_lss rfl rfl rfl rfl) rfl ?_
        refine w_nil ?_
        refine q_then (hK63 _ _ ?_)
        refine w_cond rfl rfl (fun h65 => ?_) (fun h65 => ?_)
        ·
         exfalso
         try simp only [Bool.not_eq_true', Bool.not_eq_false', decide_eq_true_eq, decide_eq_false_iff_not, Int.not_lt, Int.not_le] at h65
         omega
        ·
         try simp only [Bool.not_eq_true', Bool.not_eq_false', decide_eq_true_eq, decide_eq_false_iff_not, Int.not_lt, Int.not_le] at h65
         refine w_skip ?_
         refine q_blk_normal ?_
         refine q_then (hK33 _ _ ?_)
         refine w_region ?_
         refine w_pure want_none (y_move (v := .int _ _) rfl rfl) rfl ?_
         refine w_pure want_none (y_add rfl rfl rfl rfl (by omega) (by omega)) rfl ?_
         refine w_pure want_none (y_assign (v := .int _ _) rfl rfl) rfl ?_
         refine w_nil ?_
         refine q_then (hN25 _ _ (Nx.intro (l.length - (i + 1)) (by omega) (by repeat (first | exact agree_mix | refine agree_upd rfl ?_ | refine agree_updL rfl ?_ _ | refine agree_mixin rfl ?_)) ?_))
         exact ⟨i + 1, [(bl, _)], rfl, by omega, rfl, by rw [leftTo_succ hi2, gD_get hi1]; exact own_set hf1 hcl1 hcl2 hcl3 hcl5, hs62.tail⟩
      ·
       try simp only [Bool.not_eq_true', Bool.not_eq_false', decide_eq_true_eq, decide_eq_false_iff_not, Int.not_lt, Int.not_le] at h52
       refine d_skip1 rfl rfl rfl rfl hs50 ?_
       refine d_skip1 rfl rfl rfl rfl hs50 ?_
       refine d_eff rfl ?_
       refine w_skipop rfl rfl rfl ?_
       refine w_nil ?_
       refine qn ⟨hs50, ?_⟩
       refine d_skip rfl rfl rfl rfl ?_
       refine d_any rfl (want_yes rfl rfl rfl) rfl (fun _ => (y_pickF (v := _) rfl rfl rfl rfl)) ?_
       refine d_any rfl want_none rfl (fun _ => (y_pickF (v := .bool _) rfl rfl rfl rfl)) ?_
       refine d_nil ?_
       refine q_then (hK44 _ _ ?_)
       refine w_condF rfl rfl ?_
       refine w_skip ?_
       refine q_then (hK42 _ _ ?_)
       refine w_seq (fun K67 hK66 => ?_)
       refine w_draw [14] [(0, 0), (1, 0), (2, 1), (3, 0), (4, 0), (5, 1), (6, 0), (7, 1), (8, 0), (9, 0), (10, 0), (11, 1), (12, 0), (13, 0), (14, 3)] Try_mo (by kernel_rfl) hs50 (fun w68 hs69 => ?_)
       refine d_any rfl want_none rfl (fun _ => (y_move (v := .slice _ _ _) rfl rfl)) ?_
       refine d_any rfl want_none rfl (fun _ => (y_fieldAddr (o := 0) (i := 0) Try.underlying63 rfl Try.sizeOf3 rfl rfl rfl)) ?_
       refine d_take rfl want_none rfl hs69 (fun _ hq => (y_load1 Try.isAgg3 hq rfl rfl (ats_own (i := 0) (vs := [_]) rfl rfl))) ?_
       refine d_any rfl want_none rfl (fun _ => (y_move (v := .slice _ _ _) rfl rfl)) ?_
       refine d_any rfl want_none rfl (fun _ => (y_fieldAddr (o := 0) (i := 0) Try.underlying63 rfl Try.sizeOf3 rfl rfl rfl)) ?_
       refine d_take rfl want_none rfl hs69 (fun _ hq => (y_load1 Try.isAgg3 hq rfl rfl (ats_own (i := 0) (vs := [_]) rfl rfl))) ?_
       refine d_any rfl want_none rfl (fun _ => (y_indexS Try.underlying30 Try.sizeOf3 rfl rfl rfl rfl (i := (m.trains[i]'hi2).room.toNat) (by omega) (by omega))) ?_
       refine d_take rfl want_none rfl hs69 (fun _ hq => (y_load1 Try.isAgg3 hq.tail rfl rfl hy)) ?_
       refine d_any rfl want_none rfl (fun _ => (y_move (v := .slice _ _ _) rfl rfl)) ?_
       refine d_any rfl want_none rfl (fun _ => (y_move (v := .int _ _) rfl rfl)) ?_
       refine d_any rfl want_none rfl (fun _ => (y_indexS Try.underlying30 Try.sizeOf3 rfl rfl rfl rfl (i := _) rfl (by omega))) ?_
       refine d_take rfl want_none rfl hs69 (fun _ hq => (y_load1 Try.isAgg3 hq.tail.tail.tail rfl rfl hx)) ?_
       refine d_any rfl want_none rfl (fun _ => (y_sub rfl rfl rfl rfl (by omega) (by omega))) ?_
       refine d_any rfl want_none rfl (fun _ => (y_indexS Try.underlying30 Try.sizeOf3 rfl rfl rfl rfl (i := (m.trains[i]'hi2).room.toNat) (by omega) (by omega))) ?_
       refine d_late rfl ?_
       refine w_store (i := 1) (v := .int _ _) (vs := [_]) want_none Try.sizeOf3 rfl rfl rfl rfl rfl (by simp [Value.oneCell']) hs69 rfl (show 0 + (m.trains[i]'hi2).room.toNat * 1 + 1 ≤ csl.length by omega) (fun w70 hs71 => ?_)
       have hcl5 : (csl.set ((m.trains[i]'hi2).room.toNat) (.int .i64 ((leftTo m hands l i)[(m.trains[i]'hi2).room.toNat]'hr2 - l[i]'hi1))).take (m.rooms.length * 1) = iv (subAt (leftTo m hands l i) (m.trains[i]'hi2).room.toNat (l[i]'hi1)) := subAt_cells hf1 hr2 hcl4
       replace hs71 := (show St _ _ (_ :: (bl, blk 3 (csl.set ((m.trains[i]'hi2).room.toNat) (.int .i64 ((leftTo m hands l i)[(m.trains[i]'hi2).room.toNat]'hr2 - l[i]'hi1)))) :: _ :: F) from (by have h6 := hs71; simp only [setMany, Nat.zero_add, Nat.mul_one] at h6; exact h6))
       refine w_nil ?_
       refine qn ?_
       refine d_nil ?_
       refine q_then (hK66 _ _ ?_)
       refine w_seq (fun K73 hK72 => ?_)
       obtain ⟨bz, oz, hbz2, hz⟩ := sl_ints (sl_own_ints (w0 := w0) (L := (bl, blk 3 (csl.set ((m.trains[i]'hi2).room.toNat) (.int .i64 ((leftTo m hands l i)[(m.trains[i]'hi2).room.toNat]'hr2 - l[i]'hi1)))) :: ((b3, blk 26 (m.cells p)) :: F)) (i := 0) rfl hg1 hcl5) hr3
       cases hbz2
       refine w_region ?_
       refine w_pure want_none (y_move (v := .slice _ _ _) rfl rfl) rfl ?_
       refine w_pure want_none (y_fieldAddr (o := 0) (i := 0) Try.underlying63 rfl Try.sizeOf3 rfl rfl rfl) rfl ?_
       refine w_pure want_none (y_load1 Try.isAgg3 hs71 rfl rfl (ats_own (i := 0) (vs := [_]) rfl rfl)) rfl ?_
       refine w_pure want_none (y_indexS Try.underlying30 Try.sizeOf3 rfl rfl rfl rfl (i := (m.trains[i]'hi2).room.toNat) (by omega) (by omega)) rfl ?_
       refine w_pure want_none (y_load1 Try.isAgg3 hs71.tail rfl rfl hz) rfl ?_
       refine w_pure want_none (y_lss rfl rfl rfl rfl) rfl ?_
       refine w_nil ?_
       refine q_then (hK72 _ _ ?_)
       refine w_cond rfl rfl (fun h74 => ?_) (fun h74 => ?_)
       ·
        exfalso
        try simp only [Bool.not_eq_true', Bool.not_eq_false', decide_eq_true_eq, decide_eq_false_iff_not, Int.not_lt, Int.not_le] at h74
        omega
       ·
        try simp only [Bool.not_eq_true', Bool.not_eq_false', decide_eq_true_eq, decide_eq_false_iff_not, Int.not_lt, Int.not_le] at h74
        refine w_skip ?_
        refine q_blk_normal ?_
        refine q_then (hK33 _ _ ?_)
        refine w_region ?_
        refine w_pure want_none (y_move (v := .int _ _) rfl rfl) rfl ?_
        refine w_pure want_none (y_add rfl rfl rfl rfl (by omega) (by omega)) rfl ?_
        refine w_pure want_none (y_assign (v := .int _ _) rfl rfl) rfl ?_
        refine w_nil ?_
        refine q_then (hN25 _ _ (Nx.intro (l.length - (i + 1)) (by omega) (by repeat (first | exact agree_mix | refine agree_upd rfl ?_ | refine agree_updL rfl ?_ _ | refine agree_mixin rfl ?_)) ?_))
        exact ⟨i + 1, [(bl, _)], rfl, by omega, rfl, by rw [leftTo_succ hi2, gD_get hi1]; exact own_set hf1 hcl1 hcl2 hcl3 hcl5, hs71.tail⟩
    ·
     try simp only [Bool.not_eq_true', Bool.not_eq_false', decide_eq_true_eq, decide_eq_false_iff_not, Int.not_lt, Int.not_le] at h32
     refine w_exit ?_
     refine q_then_exit ?_
     refine q_then_exit ?_
     refine q_blk_this ?_
     refine q_then (hK21 _ _ ?_)
     refine w_seq (fun K76 hK75 => ?_)
     refine w_region ?_
     refine w_pure want_none (y_assign (v := _) rfl rfl) rfl ?_
     refine w_nil ?_
     refine q_then (hK75 _ _ ?_)
     refine w_ret ?_
     refine q_ret (l := [.tmp 6]) (vs := [_]) rfl ⟨⟨rfl, show _ = (.bool _ : Value) from rfl⟩, trivial⟩ ?_
     exact ⟨rfl, hs.drop.tail⟩

theorem c8 {w0 w : World} {F : List (Nat × Obj)} (m : Market) (p : At3) (hm : MIn w0 F m p) (ax : Option Addr) (cx : Nat) (x : List Int) (hxl : x.length ≤ 9223372036854775807) (hxs : Sl w0 F ax 1 (x.map fun n => [Value.int .u8 n])) (hxr : ∀ z ∈ x, 0 ≤ z ∧ z ≤ 255) (hs : St w0 w F) :
  Con Try.prog 8 [.agg (m.cells p).toArray, .slice ax x.length cx] w fun v w' => v = .bool true ∧ St w0 w' F := by
  refine con_of_wc (n := 121) Try.func8 rfl rfl (Nat.le_of_ble_eq_true rfl) ?_
  have hgsh := give_short m
  have hwsh := without_short m
  have hlt0 := hm.lt
  have hls0 := hm.ls
  refine w_seq (fun K2 hK1 => ?_)
  refine w_region ?_
  refine w_box (v := .agg #[.slice _ _ _, .slice _ _ _, .slice _ _ _]) (cs := [_, _, _]) want_none rfl rfl rfl hs (fun b3 w4 hs5 => ?_)
  refine w_pure want_none (y_assign (v := _) rfl rfl) rfl ?_
  refine w_nil ?_
  refine q_then (hK1 _ _ ?_)
  refine w_seq (fun K7 hK6 => ?_)
  have hbx : Ats w0 ((b3, blk 26 (m.cells p)) :: F) b3 0 (m.cells p) := ats_own (i := 0) (vs := m.cells p) rfl rfl
  refine w_region ?_
  refine w_pure want_none (y_loadN (vs := [_, _, _]) Try.isAgg26 Try.sizeOf26 hs5 rfl rfl hbx) rfl ?_
  refine w_call want_none Try.call28 rfl rfl rfl rfl (c28 m _ hm.cons hs5) ?_
  rintro _ w9 ⟨B1, a_B1, c_B1, rfl, hs_B1, hs10⟩
  replace hs10 := (show St _ _ (B1 ++ (_ :: F)) from hs10)
  refine w_pure want_none (y_move (v := .tuple _) rfl rfl) rfl ?_
  refine w_pure want_none (y_extract (v := .slice _ _ _) rfl rfl rfl) rfl ?_
  refine w_pure want_none (y_extract (v := .int _ _) rfl rfl rfl) rfl ?_
  refine w_pure want_none (y_assign (v := .slice _ _ _) rfl rfl) rfl ?_
  refine w_pure want_none (y_assign (v := .int _ _) rfl rfl) rfl ?_
  refine w_nil ?_
  refine q_then (hK6 _ _ ?_)
  refine w_seq (fun K12 hK11 => ?_)
  refine w_region ?_
  refine w_pure want_none (y_loadN (vs := [_, _, _]) Try.isAgg26 Try.sizeOf26 hs10.drop rfl rfl hbx) rfl ?_
  refine w_call want_none Try.call26 rfl rfl rfl rfl (c26 m _ hm.cons.app hs10) ?_
  rintro _ w14 ⟨B2, a_B2, c_B2, rfl, hs_B2, hs15⟩
  replace hs15 := (show St _ _ (B2 ++ (B1 ++ (_ :: F))) from hs15)
  refine w_pure want_none (y_move (v := .tuple _) rfl rfl) rfl ?_
  refine w_pure want_none (y_extract (v := .slice _ _ _) rfl rfl rfl) rfl ?_
  refine w_pure want_none (y_extract (v := .int _ _) rfl rfl rfl) rfl ?_
  refine w_pure want_none (y_assign (v := .slice _ _ _) rfl rfl) rfl ?_
  refine w_pure want_none (y_assign (v := .int _ _) rfl rfl) rfl ?_
  refine w_nil ?_
  refine q_then (hK11 _ _ ?_)
  refine w_seq (fun K17 hK16 => ?_)
  refine w_seq (fun K19 hK18 => ?_)
  refine w_region ?_
  refine w_pure want_none (y_loadN (vs := [_, _, _]) Try.isAgg26 Try.sizeOf26 hs15.drop.drop rfl rfl hbx) rfl ?_
  refine w_call want_none Try.call35 rfl rfl rfl rfl (c35 m _ hm.cons.app.app hs15) ?_
  rintro _ w21 ⟨rfl, hs22⟩
  refine w_pure want_none (y_not rfl rfl) rfl ?_
  refine w_nil ?_
  refine q_then (hK18 _ _ ?_)
  refine w_cond rfl rfl (fun h23 => ?_) (fun h23 => ?_)
  ·
   try simp only [Bool.not_eq_true', Bool.not_eq_false', decide_eq_true_eq, decide_eq_false_iff_not, Int.not_lt, Int.not_le] at h23
   refine w_seq (fun K25 hK24 => ?_)
   have hck : (check m).2.2 ≠ 0 := by first | assumption | (intro h0; simp_all)
   have hgb := giveP_bad hck
   have hwb := withoutP_bad hck
   have hl8 : ((giveP m).1.length : Int) + ((withoutP m).1.length : Int) = 0 := by rw [hgb, hwb]; rfl
   refine w_region ?_
   refine w_pure want_none (y_move (v := .int _ _) rfl rfl) rfl ?_
   refine w_pure want_none (y_neq rfl rfl rfl rfl) rfl ?_
   refine w_pure want_none (y_move (v := .bool _) rfl rfl) rfl ?_
   refine w_split (fun h26 => ?_) (fun h26 => ?_)
   ·
    try simp only [Bool.not_eq_true', Bool.not_eq_false', decide_eq_true_eq, decide_eq_false_iff_not, Int.not_lt, Int.not_le] at h26
    refine w_pure (want_yes rfl rfl rfl) (y_move (v := .int _ _) rfl rfl) rfl ?_
    refine w_pure (want_yes rfl rfl rfl) (y_move (v := .int _ _) rfl rfl) rfl ?_
    refine w_pure (want_yes rfl rfl rfl) (y_eql rfl rfl rfl rfl) rfl ?_
    refine w_pure want_none (y_pickT (v := .bool _) rfl rfl rfl rfl) rfl ?_
    refine w_pure want_none (y_move (v := .bool _) rfl rfl) rfl ?_
    refine w_split (fun h27 => ?_) (fun h27 => ?_)
    ·
     try simp only [Bool.not_eq_true', Bool.not_eq_false', decide_eq_true_eq, decide_eq_false_iff_not, Int.not_lt, Int.not_le] at h27
     refine w_pure (want_yes rfl rfl rfl) (y_move (v := .slice _ _ _) rfl rfl) rfl ?_
     refine w_pure (want_yes rfl rfl rfl) (y_lenS Try.underlying30 rfl rfl) rfl ?_
     refine w_pure (want_yes rfl rfl rfl) (y_move (v := .slice _ _ _) rfl rfl) rfl ?_
     refine w_pure (want_yes rfl rfl rfl) (y_lenS Try.underlying30 rfl rfl) rfl ?_
     refine w_pure (want_yes rfl rfl rfl) (y_add rfl rfl rfl rfl (by omega) (by omega)) rfl ?_
     refine w_pure (want_yes rfl rfl rfl) (y_eql rfl rfl rfl rfl) rfl ?_
     refine w_pure want_none (y_pickT (v := .bool _) rfl rfl rfl rfl) rfl ?_
     refine w_pure want_none (y_move (v := .bool _) rfl rfl) rfl ?_
     refine w_split (fun h28 => ?_) (fun h28 => ?_)
     ·
      try simp only [Bool.not_eq_true', Bool.not_eq_false', decide_eq_true_eq, decide_eq_false_iff_not, Int.not_lt, Int.not_le] at h28
      refine w_call (want_yes rfl rfl rfl) Try.call21 rfl rfl rfl rfl (c21 hs22) ?_
      rintro _ w30 ⟨rfl, hs31⟩
      refine w_pure want_none (y_pickT (v := .bool _) rfl rfl rfl rfl) rfl ?_
      refine w_pure want_none (y_assign (v := .bool _) rfl rfl) rfl ?_
      refine w_nil ?_
      refine q_then (hK24 _ _ ?_)
      refine w_ret ?_
      refine q_then_ret ?_
      refine q_ret (l := [.tmp 4]) (vs := [_]) rfl ⟨⟨rfl, show _ = (.bool _ : Value) from rfl⟩, trivial⟩ ?_
      exact ⟨rfl, hs31.drop.drop.tail⟩
     ·
      exfalso
      try simp only [Bool.not_eq_true', Bool.not_eq_false', decide_eq_true_eq, decide_eq_false_iff_not, Int.not_lt, Int.not_le] at h28
      omega
    ·
     exfalso
     try simp only [Bool.not_eq_true', Bool.not_eq_false', decide_eq_true_eq, decide_eq_false_iff_not, Int.not_lt, Int.not_le] at h27
     rw [hgb, hwb] at h27; exact h27 rfl
   ·
    exfalso
    try simp only [Bool.not_eq_true', Bool.not_eq_false', decide_eq_true_eq, decide_eq_false_iff_not, Int.not_lt, Int.not_le] at h26
    rw [hgb] at h26; exact hck h26
  ·
   try simp only [Bool.not_eq_true', Bool.not_eq_false', decide_eq_true_eq, decide_eq_false_iff_not, Int.not_lt, Int.not_le] at h23
   refine w_skip ?_
   refine q_then (hK16 _ _ ?_)
   refine w_seq (fun K33 hK32 => ?_)
   refine w_seq (fun K35 hK34 => ?_)
   have hck : (check m).2.2 = 0 := by first | assumption | (refine Decidable.byContradiction fun h0 => ?_; simp_all)
   have hok := check_ok hck
   have hlr := hok.lr
   have hls := hok.ls
   have hlt := hok.lt
   have hF := served_facts hck x
   have hgl : (giveP m).1 = giveL m := by rw [hF.gp]
   have hwl : (withoutP m).1 = withoutL m := by rw [hF.wp]
   have hge : (giveP m).2 = 0 := by rw [hF.gp]
   have hwe : (withoutP m).2 = 0 := by rw [hF.wp]
   have hri : rising m.shops.length (-1) (withoutP m).1 = true := by rw [hwl]; exact hF.ri
   have hload : Load m (gD (leastL m)) (giveP m).1 := by rw [hgl]; exact hF.load
   have hgot : ∀ s < m.shops.length, gD (gotTo m (giveP m).1 m.trains.length) s = wantW m s := by rw [hgl]; exact hF.got
   have hfirst : ∀ other, Load m (gD (leastL m)) other → (∀ s < m.shops.length, gD (gotTo m other m.trains.length) s = wantW m s) → less other (giveP m).1 = false := by rw [hgl]; exact hF.first
   have hany : Load m (gD (leastL m)) (anyTo m (leastL m) x m.trains.length).1 := any_is_load hok (leastL_fine hok).1 (leastL_fine hok).2
   have hal := hany.len
   have hll := hload.len
   have hgl1 := gotTo_len m (giveP m).1 m.trains.length
   have hgl2 := gotTo_len m (anyTo m (leastL m) x m.trains.length).1 m.trains.length
   refine w_draw [] [(0, 0), (1, 0), (2, 0), (3, 0), (4, 0), (5, 0), (6, 0), (7, 1), (8, 0), (9, 1), (10, 2), (11, 2), (12, 0), (13, 0), (14, 0), (15, 0), (16, 0), (17, 1), (18, 0), (19, 2), (20, 0), (21, 0)] Try_mo (by kernel_rfl) hs22 (fun w36 hs37 => ?_)
   refine d_any rfl want_none rfl (fun _ => (y_move (v := .int _ _) rfl rfl)) ?_
   refine d_any rfl want_none rfl (fun _ => (y_neq rfl rfl rfl rfl)) ?_
   refine d_any rfl want_none rfl (fun _ => (y_move (v := .bool _) rfl rfl)) ?_
   refine d_split (fun h38 => ?_) (fun h38 => ?_)
   ·
    exfalso
    try simp only [Bool.not_eq_true', Bool.not_eq_false', decide_eq_true_eq, decide_eq_false_iff_not, Int.not_lt, Int.not_le] at h38
    exact h38 hge
   ·
    try simp only [Bool.not_eq_true', Bool.not_eq_false', decide_eq_true_eq, decide_eq_false_iff_not, Int.not_lt, Int.not_le] at h38
    refine d_any rfl (want_yes rfl rfl rfl) rfl (fun _ => (y_move (v := .int _ _) rfl rfl)) ?_
    refine d_any rfl (want_yes rfl rfl rfl) rfl (fun _ => (y_neq rfl rfl rfl rfl)) ?_
    refine d_any rfl want_none rfl (fun _ => (y_pickF (v := .bool _) rfl rfl rfl rfl)) ?_
    refine d_any rfl want_none rfl (fun _ => (y_move (v := .bool _) rfl rfl)) ?_
    refine d_split (fun h39 => ?_) (fun h39 => ?_)
    ·
     exfalso
     try simp only [Bool.not_eq_true', Bool.not_eq_false', decide_eq_true_eq, decide_eq_false_iff_not, Int.not_lt, Int.not_le] at h39
     exact h39 hwe
    ·
     try simp only [Bool.not_eq_true', Bool.not_eq_false', decide_eq_true_eq, decide_eq_false_iff_not, Int.not_lt, Int.not_le] at h39
     refine d_take rfl (want_yes rfl rfl rfl) rfl hs37 (fun _ hq => (y_loadN (vs := [_, _, _]) Try.isAgg26 Try.sizeOf26 hq.drop.drop rfl rfl hbx)) ?_
     refine d_any rfl (want_yes rfl rfl rfl) rfl (fun _ => (y_move (v := .slice _ _ _) rfl rfl)) ?_
     refine d_take rfl (want_yes rfl rfl rfl) rfl hs37 (fun _ hq => (y_loadN (vs := [_, _, _]) Try.isAgg26 Try.sizeOf26 hq.drop.drop rfl rfl hbx)) ?_
     refine d_eff rfl ?_
     refine w_call (want_yes rfl rfl rfl) Try.call37 rfl rfl rfl rfl (c37n m _ hm.cons.app.app hok hs37) ?_
     rintro _ w41 ⟨BL, a_BL, c_BL, rfl, hs_BL, hn_BL, hs42⟩
     replace hs42 := (show St _ _ (BL ++ (B2 ++ (B1 ++ (_ :: F)))) from hs42)
     refine w_nil ?_
     refine qn ⟨hs42.drop, ?_⟩
     refine d_eff rfl ?_
     refine w_call (want_yes rfl rfl rfl) Try.call36 rfl rfl rfl rfl (c36 m _ hm.cons.app.app.app hok _ _ (giveP m).1 (by omega) hs_B1.top.app.app _ _ (leastL m) (leastL_fine hok).1 hs_BL.top (leastL_fine hok).2 hn_BL hload hs42) ?_
     rintro _ w44 ⟨rfl, hs45⟩
     refine w_nil ?_
     refine qn ⟨hs45.drop, ?_⟩
     refine d_any rfl (want_yes rfl rfl rfl) rfl (fun _ => (y_not rfl rfl)) ?_
     refine d_any rfl want_none rfl (fun _ => (y_pickF (v := .bool _) rfl rfl rfl rfl)) ?_
     refine d_any rfl want_none rfl (fun _ => (y_move (v := .bool _) rfl rfl)) ?_
     refine d_any rfl (want_yes rfl rfl rfl) rfl (fun _ => (y_move (v := .slice _ _ _) rfl rfl)) ?_
     refine d_any rfl (want_yes rfl rfl rfl) rfl (fun _ => (y_fieldAddr (o := 1) (i := 1) Try.underlying26 rfl Try.sizeOf23 rfl rfl rfl)) ?_
     refine d_take rfl (want_yes rfl rfl rfl) rfl hs45.drop (fun _ hq => (y_load1 Try.isAgg23 hq.drop.drop rfl rfl (show Ats _ _ _ _ [_] from Ats.part hbx 1 1))) ?_
     refine d_any rfl (want_yes rfl rfl rfl) rfl (fun _ => (y_lenS Try.underlying23 rfl rfl)) ?_
     refine d_eff rfl ?_
     refine w_call (want_yes rfl rfl rfl) Try.call38 rfl rfl rfl rfl (c38 _ _ (withoutP m).1 (by omega) hs_B2.top.app _ hs45) ?_
     rintro _ w47 ⟨rfl, hs48⟩
     refine w_nil ?_
     refine qn ⟨hs48.drop, ?_⟩
     refine d_any rfl (want_yes rfl rfl rfl) rfl (fun _ => (y_not rfl rfl)) ?_
     refine d_any rfl want_none rfl (fun _ => (y_pickF (v := .bool _) rfl rfl rfl rfl)) ?_
     refine d_nil ?_
     refine q_then (hK34 _ _ ?_)
     refine w_cond rfl rfl (fun h49 => ?_) (fun h49 => ?_)
     ·
      exfalso
      try simp only [Bool.not_eq_true', Bool.not_eq_false', decide_eq_true_eq, decide_eq_false_iff_not, Int.not_lt, Int.not_le] at h49
      exact Bool.noConfusion (hri.symm.trans h49)
     ·
      try simp only [Bool.not_eq_true', Bool.not_eq_false', decide_eq_true_eq, decide_eq_false_iff_not, Int.not_lt, Int.not_le] at h49
      refine w_skip ?_
      refine q_then (hK32 _ _ ?_)
      refine w_seq (fun K51 hK50 => ?_)
      refine w_draw [] [(0, 1), (1, 1), (3, 0), (2, 2), (4, 2), (5, 0)] Try_mo (by kernel_rfl) hs48 (fun w52 hs53 => ?_)
      refine d_take rfl want_none rfl hs53 (fun _ hq => (y_loadN (vs := [_, _, _]) Try.isAgg26 Try.sizeOf26 hq.drop.drop.drop rfl rfl hbx)) ?_
      refine d_take rfl want_none rfl hs53 (fun _ hq => (y_loadN (vs := [_, _, _]) Try.isAgg26 Try.sizeOf26 hq.drop.drop.drop rfl rfl hbx)) ?_
      refine d_any rfl want_none rfl (fun _ => (y_move (v := .slice _ _ _) rfl rfl)) ?_
      refine d_eff rfl ?_
      refine w_call want_none Try.call37 rfl rfl rfl rfl (c37n m _ hm.cons.app.app.app hok hs53) ?_
      rintro _ w55 ⟨BL2, a_BL2, c_BL2, rfl, hs_BL2, hn_BL2, hs56⟩
      replace hs56 := (show St _ _ (BL2 ++ (BL ++ (B2 ++ (B1 ++ (_ :: F))))) from hs56)
      refine w_nil ?_
      refine qn ⟨hs56.drop, ?_⟩
      refine d_eff rfl ?_
      refine w_call want_none Try.call39 rfl rfl rfl rfl (c39 m _ hm.cons.app.app.app.app hok _ _ (leastL m) (leastL_fine hok).1 hs_BL2.top (leastL_fine hok).2 hn_BL2 _ _ x hxl hxs.cons.app.app.app.app hxr hs56) ?_
      rintro _ w58 ⟨BA, a_BA, c_BA, rfl, hs_BA, hs59⟩
      replace hs59 := (show St _ _ (BA ++ (BL2 ++ (BL ++ (B2 ++ (B1 ++ (_ :: F)))))) from hs59)
      refine w_nil ?_
      refine qn ⟨hs59.drop.drop, ?_⟩
      refine d_any rfl want_none rfl (fun _ => (y_assign (v := .slice _ _ _) rfl rfl)) ?_
      refine d_nil ?_
      refine q_then (hK50 _ _ ?_)
      refine w_seq (fun K61 hK60 => ?_)
      refine w_draw [] [(0, 1), (1, 0), (3, 1), (4, 0), (2, 2), (5, 2), (6, 0), (7, 0)] Try_mo (by kernel_rfl) hs59 (fun w62 hs63 => ?_)
      refine d_take rfl want_none rfl hs63 (fun _ hq => (y_loadN (vs := [_, _, _]) Try.isAgg26 Try.sizeOf26 hq.drop.drop.drop.drop.drop rfl rfl hbx)) ?_
      refine d_any rfl want_none rfl (fun _ => (y_move (v := .slice _ _ _) rfl rfl)) ?_
      refine d_take rfl want_none rfl hs63 (fun _ hq => (y_loadN (vs := [_, _, _]) Try.isAgg26 Try.sizeOf26 hq.drop.drop.drop.drop.drop rfl rfl hbx)) ?_
      refine d_any rfl want_none rfl (fun _ => (y_move (v := .slice _ _ _) rfl rfl)) ?_
      refine d_eff rfl ?_
      refine w_call want_none Try.call40 rfl rfl rfl rfl (got_con m _ hm.cons.app.app.app.app.app hok _ _ (giveP m).1 m.trains.length (by omega) (hload.len) (by omega) hs_B1.top.app.app.app.app (load_small hok hload) hs63) ?_
      rintro _ w65 ⟨BG, a_BG, c_BG, rfl, hs_BG, hs66⟩
      replace hs66 := (show St _ _ (BG ++ (BA ++ (BL2 ++ (BL ++ (B2 ++ (B1 ++ (_ :: F))))))) from hs66)
      refine w_nil ?_
      refine qn ⟨hs66.drop, ?_⟩
      refine d_eff rfl ?_
      refine w_call want_none Try.call40 rfl rfl rfl rfl (got_con m _ hm.cons.app.app.app.app.app.app hok _ _ (anyTo m (leastL m) x m.trains.length).1 m.trains.length (by omega) (hany.len) (by omega) hs_BA.top.app (load_small hok hany) hs66) ?_
      rintro _ w68 ⟨BG2, a_BG2, c_BG2, rfl, hs_BG2, hs69⟩
      replace hs69 := (show St _ _ (BG2 ++ (BG ++ (BA ++ (BL2 ++ (BL ++ (B2 ++ (B1 ++ (_ :: F)))))))) from hs69)
      refine w_nil ?_
      refine qn ⟨hs69.drop.drop, ?_⟩
      refine d_any rfl want_none rfl (fun _ => (y_assign (v := .slice _ _ _) rfl rfl)) ?_
      refine d_any rfl want_none rfl (fun _ => (y_assign (v := .slice _ _ _) rfl rfl)) ?_
      refine d_nil ?_
      refine q_then (hK60 _ _ ?_)
      refine w_seq (fun K71 hK70 => ?_)
      refine w_region ?_
      refine w_pure want_none (y_assign (v := _) rfl rfl) rfl ?_
      refine w_nil ?_
      refine q_then (hK70 _ _ ?_)
      refine w_seq (fun K73 hK72 => ?_)
      refine w_seq (fun K75 hK74 => ?_)
      refine w_region ?_
      refine w_pure want_none (y_assign (v := _) rfl rfl) rfl ?_
      refine w_nil ?_
      refine q_then (hK74 _ _ ?_)
      refine w_block ?_
      refine w_loop [4, 12, 13, 14, 79, 80, 81, 82, 83, 84, 85, 86, 87, 88, 89, 90, 91, 92, 93, 94, 95, 96, 97, 98, 99, 100, 101, 102, 103, 104, 105, 106, 107, 108, 109] [12, 13] (fun kk vs0 w => ∃ (i : Nat) (so : Bool), vs0 = [.bool so, .int .i64 i] ∧ i ≤ m.shops.length ∧ kk = m.shops.length - i ∧ (so = true → ∀ s < i, gD (gotTo m (anyTo m (leastL m) x m.trains.length).1 m.trains.length) s = wantW m s) ∧ St w0 w (BG2 ++ (BG ++ (BA ++ (BL2 ++ (BL ++ (B2 ++ (B1 ++ ((b3, blk 26 (m.cells p)) :: F))))))))) (m.shops.length) ?_ ?_
      ·
       exact ⟨0, true, rfl, by omega, by omega, (fun _ s hs => by omega), hs69⟩
      ·
       intro k vs μ w78 hI K77 hN76
       obtain ⟨i, so, rfl, hia, rfl, hso, hs⟩ := hI
       refine w_seq (fun K80 hK79 => ?_)
       refine w_seq (fun K82 hK81 => ?_)
       refine w_region ?_
       refine w_pure want_none (y_move (v := .int _ _) rfl rfl) rfl ?_
       refine w_pure want_none (y_fieldAddr (o := 1) (i := 1) Try.underlying26 rfl Try.sizeOf23 rfl rfl rfl) rfl ?_
       refine w_pure want_none (y_load1 Try.isAgg23 hs.drop.drop.drop.drop.drop.drop.drop rfl rfl (show Ats _ _ _ _ [_] from Ats.part hbx 1 1)) rfl ?_
       refine w_pure want_none (y_lenS Try.underlying23 rfl rfl) rfl ?_
       refine w_pure want_none (y_lss rfl rfl rfl rfl) rfl ?_
       refine w_nil ?_
       refine q_then (hK81 _ _ ?_)
       refine w_cond rfl rfl (fun h83 => ?_) (fun h83 => ?_)
       ·
        try simp only [Bool.not_eq_true', Bool.not_eq_false', decide_eq_true_eq, decide_eq_false_iff_not, Int.not_lt, Int.not_le] at h83
        refine w_skip ?_
        refine q_then (hK79 _ _ ?_)
        refine w_seq (fun K85 hK84 => ?_)
        refine w_block ?_
        refine w_seq (fun K87 hK86 => ?_)
        have hi2 : i < m.shops.length := by omega
        obtain ⟨bs, os, hbs, hxs2⟩ := sl_srows hm.s hi2
        have hjg : i < (gotTo m (giveP m).1 m.trains.length).length := by omega
        have hjg2 : i < (gotTo m (anyTo m (leastL m) x m.trains.length).1 m.trains.length).length := by omega
        obtain ⟨bx, ox, hbx2, hx⟩ := sl_ints hs_BG hjg
        have hx1 := hx.top (F := BA ++ (BL2 ++ (BL ++ (B2 ++ (B1 ++ ((b3, blk 26 (m.cells p)) :: F))))))
        cases hbx2
        obtain ⟨by_, oy, hby2, hy⟩ := sl_ints hs_BG2 hjg2
        have hy1 := hy.top (F := BG ++ (BA ++ (BL2 ++ (BL ++ (B2 ++ (B1 ++ ((b3, blk 26 (m.cells p)) :: F)))))))
        cases hby2
        refine w_region ?_
        refine w_pure want_none (y_fieldAddr (o := 1) (i := 1) Try.underlying26 rfl Try.sizeOf23 rfl rfl rfl) rfl ?_
        refine w_pure want_none (yd_slice hbs (y_load1 Try.isAgg23 hs.drop.drop.drop.drop.drop.drop.drop rfl rfl (show Ats _ _ _ _ [_] from Ats.part hbx 1 1))) rfl ?_
        refine w_pure want_none (y_move (v := .int _ _) rfl rfl) rfl ?_
        refine w_pure want_none (y_indexS Try.underlying23 Try.sizeOf52 rfl rfl rfl rfl (i := _) rfl (by omega)) rfl ?_
        refine w_pure want_none (y_fieldAddr (o := 2) (i := 2) Try.underlying52 rfl Try.sizeOf3 rfl rfl rfl) rfl ?_
        refine w_pure want_none (y_load1 Try.isAgg3 hs.drop.drop.drop.drop.drop.drop.drop.tail rfl rfl (show Ats _ _ _ _ [_] from Ats.part hxs2 2 1)) rfl ?_
        refine w_pure want_none (y_assign (v := .int _ _) rfl rfl) rfl ?_
        refine w_nil ?_
        refine q_then (hK86 _ _ ?_)
        refine w_seq (fun K89 hK88 => ?_)
        refine w_seq (fun K91 hK90 => ?_)
        refine w_region ?_
        refine w_pure want_none (y_move (v := .slice _ _ _) rfl rfl) rfl ?_
        refine w_pure want_none (y_move (v := .int _ _) rfl rfl) rfl ?_
        refine w_call want_none Try.call41 rfl rfl rfl rfl (c41 _ _ (withoutP m).1 (by omega) hs_B2.top.app.app.app.app.app _ hs) ?_
        rintro _ w93 ⟨rfl, hs94⟩
        refine w_nil ?_
        refine q_then (hK90 _ _ ?_)
        refine w_cond rfl rfl (fun h95 => ?_) (fun h95 => ?_)
        ·
         try simp only [Bool.not_eq_true', Bool.not_eq_false', decide_eq_true_eq, decide_eq_false_iff_not, Int.not_lt, Int.not_le] at h95
         refine w_region ?_
         refine w_pure want_none (y_assign (v := _) rfl rfl) rfl ?_
         refine w_nil ?_
         refine q_then (hK88 _ _ ?_)
         refine w_seq (fun K97 hK96 => ?_)
         refine w_seq (fun K99 hK98 => ?_)
         refine w_region ?_
         refine w_pure want_none (y_move (v := .slice _ _ _) rfl rfl) rfl ?_
         refine w_pure want_none (y_move (v := .int _ _) rfl rfl) rfl ?_
         refine w_pure want_none (y_indexS Try.underlying30 Try.sizeOf3 rfl rfl rfl rfl (i := _) rfl (by omega)) rfl ?_
         refine w_pure want_none (y_load1 Try.isAgg3 hs94.drop rfl rfl hx1) rfl ?_
         refine w_pure want_none (y_move (v := .int _ _) rfl rfl) rfl ?_
         refine w_pure want_none (y_neq rfl rfl rfl rfl) rfl ?_
         refine w_nil ?_
         refine q_then (hK98 _ _ ?_)
         refine w_cond rfl rfl (fun h100 => ?_) (fun h100 => ?_)
         ·
          exfalso
          try simp only [Bool.not_eq_true', Bool.not_eq_false', decide_eq_true_eq, decide_eq_false_iff_not, Int.not_lt, Int.not_le] at h100
          (have hq := hgot i hi2; rw [gD_get hjg] at hq; unfold wantW at hq; rw [gD_get (by rw [wantsL_len]; exact hi2)] at hq; first | (rw [if_pos (by rw [← hwl]; assumption)] at hq; omega) | (rw [if_neg (by rw [← hwl]; simp_all)] at hq; simp only [wantsL, List.getElem_map] at hq; omega))
         ·
          try simp only [Bool.not_eq_true', Bool.not_eq_false', decide_eq_true_eq, decide_eq_false_iff_not, Int.not_lt, Int.not_le] at h100
          refine w_skip ?_
          refine q_then (hK96 _ _ ?_)
          refine w_region ?_
          refine w_pure want_none (y_move (v := .bool _) rfl rfl) rfl ?_
          refine w_pure want_none (y_move (v := .bool _) rfl rfl) rfl ?_
          refine w_split (fun h101 => ?_) (fun h101 => ?_)
          ·
           subst h101
           refine w_pure (want_yes rfl rfl rfl) (y_move (v := .slice _ _ _) rfl rfl) rfl ?_
           refine w_pure (want_yes rfl rfl rfl) (y_move (v := .int _ _) rfl rfl) rfl ?_
           refine w_pure (want_yes rfl rfl rfl) (y_indexS Try.underlying30 Try.sizeOf3 rfl rfl rfl rfl (i := _) rfl (by omega)) rfl ?_
           refine w_pure (want_yes rfl rfl rfl) (y_load1 Try.isAgg3 hs94 rfl rfl hy1) rfl ?_
           refine w_pure (want_yes rfl rfl rfl) (y_move (v := .int _ _) rfl rfl) rfl ?_
           refine w_pure (want_yes rfl rfl rfl) (y_eql rfl rfl rfl rfl) rfl ?_
           refine w_pure want_none (y_pickT (v := .bool _) rfl rfl rfl rfl) rfl ?_
           refine w_pure want_none (y_assign (v := .bool _) rfl rfl) rfl ?_
           refine w_nil ?_
           refine q_blk_normal ?_
           refine q_then (hK84 _ _ ?_)
           refine w_region ?_
           refine w_pure want_none (y_move (v := .int _ _) rfl rfl) rfl ?_
           refine w_pure want_none (y_add rfl rfl rfl rfl (by omega) (by omega)) rfl ?_
           refine w_pure want_none (y_assign (v := .int _ _) rfl rfl) rfl ?_
           refine w_nil ?_
           refine q_then (hN76 _ _ (Nx.intro (m.shops.length - (i + 1)) (by omega) (by repeat (first | exact agree_mix | refine agree_upd rfl ?_ | refine agree_updL rfl ?_ _ | refine agree_mixin rfl ?_)) ?_))
           first
             | exact ⟨i + 1, false, rfl, by omega, rfl, (fun h => by cases h), hs94⟩
             | exact ⟨i + 1, _, rfl, by omega, rfl, (fun h s hs8 => by
                 rcases Nat.lt_or_ge s i with h2 | h2
                 · exact hso rfl s h2
                 · have e : s = i := by omega
                   subst e
                   have h3 := of_decide_eq_true h
                   rw [gD_get hjg2]
                   unfold wantW
                   rw [gD_get (by rw [wantsL_len]; exact hi2)]
                   first
                     | (rw [if_pos (by rw [← hwl]; assumption)]; exact h3)
                     | (rw [if_neg (by rw [← hwl]; simp_all)]; simp only [wantsL, List.getElem_map]; exact h3)), hs94⟩
          ·
           subst h101
           refine w_skipop rfl rfl rfl ?_
           refine w_skipop rfl rfl rfl ?_
           refine w_skipop rfl rfl rfl ?_
           refine w_skipop rfl rfl rfl ?_
           refine w_skipop rfl rfl rfl ?_
           refine w_skipop rfl rfl rfl ?_
           refine w_pure want_none (y_pickF (v := _) rfl rfl rfl rfl) rfl ?_
           refine w_pure want_none (y_assign (v := .bool _) rfl rfl) rfl ?_
           refine w_nil ?_
           refine q_blk_normal ?_
           refine q_then (hK84 _ _ ?_)
           refine w_region ?_
           refine w_pure want_none (y_move (v := .int _ _) rfl rfl) rfl ?_
           refine w_pure want_none (y_add rfl rfl rfl rfl (by omega) (by omega)) rfl ?_
           refine w_pure want_none (y_assign (v := .int _ _) rfl rfl) rfl ?_
           refine w_nil ?_
           refine q_then (hN76 _ _ (Nx.intro (m.shops.length - (i + 1)) (by omega) (by repeat (first | exact agree_mix | refine agree_upd rfl ?_ | refine agree_updL rfl ?_ _ | refine agree_mixin rfl ?_)) ?_))
           first
             | exact ⟨i + 1, false, rfl, by omega, rfl, (fun h => by cases h), hs94⟩
             | exact ⟨i + 1, _, rfl, by omega, rfl, (fun h s hs8 => by
                 rcases Nat.lt_or_ge s i with h2 | h2
                 · exact hso rfl s h2
                 · have e : s = i := by omega
                   subst e
                   have h3 := of_decide_eq_true h
                   rw [gD_get hjg2]
                   unfold wantW
                   rw [gD_get (by rw [wantsL_len]; exact hi2)]
                   first
                     | (rw [if_pos (by rw [← hwl]; assumption)]; exact h3)
                     | (rw [if_neg (by rw [← hwl]; simp_all)]; simp only [wantsL, List.getElem_map]; exact h3)), hs94⟩
        ·
         try simp only [Bool.not_eq_true', Bool.not_eq_false', decide_eq_true_eq, decide_eq_false_iff_not, Int.not_lt, Int.not_le] at h95
         refine w_skip ?_
         refine q_then (hK88 _ _ ?_)
         refine w_seq (fun K103 hK102 => ?_)
         refine w_seq (fun K105 hK104 => ?_)
         refine w_region ?_
         refine w_pure want_none (y_move (v := .slice _ _ _) rfl rfl) rfl ?_
         refine w_pure want_none (y_move (v := .int _ _) rfl rfl) rfl ?_
         refine w_pure want_none (y_indexS Try.underlying30 Try.sizeOf3 rfl rfl rfl rfl (i := _) rfl (by omega)) rfl ?_
         refine w_pure want_none (y_load1 Try.isAgg3 hs94.drop rfl rfl hx1) rfl ?_
         refine w_pure want_none (y_move (v := .int _ _) rfl rfl) rfl ?_
         refine w_pure want_none (y_neq rfl rfl rfl rfl) rfl ?_
         refine w_nil ?_
         refine q_then (hK104 _ _ ?_)
         refine w_cond rfl rfl (fun h106 => ?_) (fun h106 => ?_)
         ·
          exfalso
          try simp only [Bool.not_eq_true', Bool.not_eq_false', decide_eq_true_eq, decide_eq_false_iff_not, Int.not_lt, Int.not_le] at h106
          (have hq := hgot i hi2; rw [gD_get hjg] at hq; unfold wantW at hq; rw [gD_get (by rw [wantsL_len]; exact hi2)] at hq; first | (rw [if_pos (by rw [← hwl]; assumption)] at hq; omega) | (rw [if_neg (by rw [← hwl]; simp_all)] at hq; simp only [wantsL, List.getElem_map] at hq; omega))
         ·
          try simp only [Bool.not_eq_true', Bool.not_eq_false', decide_eq_true_eq, decide_eq_false_iff_not, Int.not_lt, Int.not_le] at h106
          refine w_skip ?_
          refine q_then (hK102 _ _ ?_)
          refine w_region ?_
          refine w_pure want_none (y_move (v := .bool _) rfl rfl) rfl ?_
          refine w_pure want_none (y_move (v := .bool _) rfl rfl) rfl ?_
          refine w_split (fun h107 => ?_) (fun h107 => ?_)
          ·
           subst h107
           refine w_pure (want_yes rfl rfl rfl) (y_move (v := .slice _ _ _) rfl rfl) rfl ?_
           refine w_pure (want_yes rfl rfl rfl) (y_move (v := .int _ _) rfl rfl) rfl ?_
           refine w_pure (want_yes rfl rfl rfl) (y_indexS Try.underlying30 Try.sizeOf3 rfl rfl rfl rfl (i := _) rfl (by omega)) rfl ?_
           refine w_pure (want_yes rfl rfl rfl) (y_load1 Try.isAgg3 hs94 rfl rfl hy1) rfl ?_
           refine w_pure (want_yes rfl rfl rfl) (y_move (v := .int _ _) rfl rfl) rfl ?_
           refine w_pure (want_yes rfl rfl rfl) (y_eql rfl rfl rfl rfl) rfl ?_
           refine w_pure want_none (y_pickT (v := .bool _) rfl rfl rfl rfl) rfl ?_
           refine w_pure want_none (y_assign (v := .bool _) rfl rfl) rfl ?_
           refine w_nil ?_
           refine q_blk_normal ?_
           refine q_then (hK84 _ _ ?_)
           refine w_region ?_
           refine w_pure want_none (y_move (v := .int _ _) rfl rfl) rfl ?_
           refine w_pure want_none (y_add rfl rfl rfl rfl (by omega) (by omega)) rfl ?_
           refine w_pure want_none (y_assign (v := .int _ _) rfl rfl) rfl ?_
           refine w_nil ?_
           refine q_then (hN76 _ _ (Nx.intro (m.shops.length - (i + 1)) (by omega) (by repeat (first | exact agree_mix | refine agree_upd rfl ?_ | refine agree_updL rfl ?_ _ | refine agree_mixin rfl ?_)) ?_))
           first
             | exact ⟨i + 1, false, rfl, by omega, rfl, (fun h => by cases h), hs94⟩
             | exact ⟨i + 1, _, rfl, by omega, rfl, (fun h s hs8 => by
                 rcases Nat.lt_or_ge s i with h2 | h2
                 · exact hso rfl s h2
                 · have e : s = i := by omega
                   subst e
                   have h3 := of_decide_eq_true h
                   rw [gD_get hjg2]
                   unfold wantW
                   rw [gD_get (by rw [wantsL_len]; exact hi2)]
                   first
                     | (rw [if_pos (by rw [← hwl]; assumption)]; exact h3)
                     | (rw [if_neg (by rw [← hwl]; simp_all)]; simp only [wantsL, List.getElem_map]; exact h3)), hs94⟩
          ·
           subst h107
           refine w_skipop rfl rfl rfl ?_
           refine w_skipop rfl rfl rfl ?_
           refine w_skipop rfl rfl rfl ?_
           refine w_skipop rfl rfl rfl ?_
           refine w_skipop rfl rfl rfl ?_
           refine w_skipop rfl rfl rfl ?_
           refine w_pure want_none (y_pickF (v := _) rfl rfl rfl rfl) rfl ?_
           refine w_pure want_none (y_assign (v := .bool _) rfl rfl) rfl ?_
           refine w_nil ?_
           refine q_blk_normal ?_
           refine q_then (hK84 _ _ ?_)
           refine w_region ?_
           refine w_pure want_none (y_move (v := .int _ _) rfl rfl) rfl ?_
           refine w_pure want_none (y_add rfl rfl rfl rfl (by omega) (by omega)) rfl ?_
           refine w_pure want_none (y_assign (v := .int _ _) rfl rfl) rfl ?_
           refine w_nil ?_
           refine q_then (hN76 _ _ (Nx.intro (m.shops.length - (i + 1)) (by omega) (by repeat (first | exact agree_mix | refine agree_upd rfl ?_ | refine agree_updL rfl ?_ _ | refine agree_mixin rfl ?_)) ?_))
           first
             | exact ⟨i + 1, false, rfl, by omega, rfl, (fun h => by cases h), hs94⟩
             | exact ⟨i + 1, _, rfl, by omega, rfl, (fun h s hs8 => by
                 rcases Nat.lt_or_ge s i with h2 | h2
                 · exact hso rfl s h2
                 · have e : s = i := by omega
                   subst e
                   have h3 := of_decide_eq_true h
                   rw [gD_get hjg2]
                   unfold wantW
                   rw [gD_get (by rw [wantsL_len]; exact hi2)]
                   first
                     | (rw [if_pos (by rw [← hwl]; assumption)]; exact h3)
                     | (rw [if_neg (by rw [← hwl]; simp_all)]; simp only [wantsL, List.getElem_map]; exact h3)), hs94⟩
       ·
        try simp only [Bool.not_eq_true', Bool.not_eq_false', decide_eq_true_eq, decide_eq_false_iff_not, Int.not_lt, Int.not_le] at h83
        refine w_exit ?_
        refine q_then_exit ?_
        refine q_then_exit ?_
        refine q_blk_this ?_
        refine q_then (hK72 _ _ ?_)
        refine w_seq (fun K109 hK108 => ?_)
        have hil : i = m.shops.length := by omega
        subst hil
        refine w_region ?_
        refine w_pure want_none (y_move (v := .bool _) rfl rfl) rfl ?_
        refine w_pure want_none (y_not rfl rfl) rfl ?_
        refine w_pure want_none (y_move (v := .bool _) rfl rfl) rfl ?_
        refine w_split (fun h110 => ?_) (fun h110 => ?_)
        ·
         try simp only [Bool.not_eq_true', Bool.not_eq_false', decide_eq_true_eq, decide_eq_false_iff_not, Int.not_lt, Int.not_le] at h110
         refine w_skipop rfl rfl rfl ?_
         refine w_skipop rfl rfl rfl ?_
         refine w_skipop rfl rfl rfl ?_
         refine w_skipop rfl rfl rfl ?_
         refine w_pure want_none (y_pickT (v := _) rfl rfl rfl rfl) rfl ?_
         refine w_pure want_none (y_move (v := .bool _) rfl rfl) rfl ?_
         refine w_call (want_yes rfl rfl rfl) Try.call21 rfl rfl rfl rfl (c21 hs) ?_
         rintro _ w112 ⟨rfl, hs113⟩
         refine w_pure want_none (y_pickT (v := .bool _) rfl rfl rfl rfl) rfl ?_
         refine w_pure want_none (y_assign (v := .bool _) rfl rfl) rfl ?_
         refine w_nil ?_
         refine q_then (hK108 _ _ ?_)
         refine w_ret ?_
         refine q_ret (l := [.tmp 4]) (vs := [_]) rfl ⟨⟨rfl, show _ = (.bool _ : Value) from rfl⟩, trivial⟩ ?_
         exact ⟨rfl, hs113.drop.drop.drop.drop.drop.drop.drop.tail⟩
        ·
         try simp only [Bool.not_eq_true', Bool.not_eq_false', decide_eq_true_eq, decide_eq_false_iff_not, Int.not_lt, Int.not_le] at h110
         refine w_pure (want_yes rfl rfl rfl) (y_move (v := .slice _ _ _) rfl rfl) rfl ?_
         refine w_pure (want_yes rfl rfl rfl) (y_move (v := .slice _ _ _) rfl rfl) rfl ?_
         refine w_call (want_yes rfl rfl rfl) Try.call42 rfl rfl rfl rfl (c42 _ _ (anyTo m (leastL m) x m.trains.length).1 (giveP m).1 _ _ (by omega) hs_BA.top.app.app hs_B1.top.app.app.app.app.app.app hs) ?_
         rintro _ w115 ⟨rfl, hs116⟩
         refine w_pure (want_yes rfl rfl rfl) (y_not rfl rfl) rfl ?_
         refine w_pure want_none (y_pickF (v := .bool _) rfl rfl rfl rfl) rfl ?_
         refine w_pure want_none (y_move (v := .bool _) rfl rfl) rfl ?_
         refine w_split (fun h117 => ?_) (fun h117 => ?_)
         ·
          try simp only [Bool.not_eq_true', Bool.not_eq_false', decide_eq_true_eq, decide_eq_false_iff_not, Int.not_lt, Int.not_le] at h117
          refine w_call (want_yes rfl rfl rfl) Try.call21 rfl rfl rfl rfl (c21 hs116) ?_
          rintro _ w119 ⟨rfl, hs120⟩
          refine w_pure want_none (y_pickT (v := .bool _) rfl rfl rfl rfl) rfl ?_
          refine w_pure want_none (y_assign (v := .bool _) rfl rfl) rfl ?_
          refine w_nil ?_
          refine q_then (hK108 _ _ ?_)
          refine w_ret ?_
          refine q_ret (l := [.tmp 4]) (vs := [_]) rfl ⟨⟨rfl, show _ = (.bool _ : Value) from rfl⟩, trivial⟩ ?_
          exact ⟨rfl, hs120.drop.drop.drop.drop.drop.drop.drop.tail⟩
         ·
          exfalso
          try simp only [Bool.not_eq_true', Bool.not_eq_false', decide_eq_true_eq, decide_eq_false_iff_not, Int.not_lt, Int.not_le] at h117
          exact Bool.noConfusion ((hfirst _ hany (hso (by assumption))).symm.trans h117)

end Go.Proofs
