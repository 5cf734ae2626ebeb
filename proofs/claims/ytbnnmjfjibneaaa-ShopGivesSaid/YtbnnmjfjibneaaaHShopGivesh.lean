/- Own texts of this claim, joined. No conditions. -/
import Derived.Test.YtbnnmjfjibneaaaHShopGivesa
import Derived.Test.YtbnnmjfjibneaaaHShopGivesb
import Derived.Test.YtbnnmjfjibneaaaHShopGivesc
import Derived.Test.YtbnnmjfjibneaaaHShopGivesd
import Derived.Test.YtbnnmjfjibneaaaHShopGivese
import Derived.Test.YtbnnmjfjibneaaaHShopGivesf
import Derived.Test.YtbnnmjfjibneaaaHShopGivesg
/- Walks of this seat, printed by gen.py over the engine: what each function returns, in whatever world. No conditions but those of each contract. -/
set_option linter.unusedVariables false
set_option linter.unusedSimpArgs false
set_option maxRecDepth 20000
namespace Go.Proofs
open Go.Rt Go.Rt.Sh
attribute [local irreducible] WL WC Con Yd At Ats Sl Agree DW
theorem Try_Zc_fb6  (w : World) : (Instr.buildSlice 30 0 [].toArray).run Try.prog w = .ok (.slice (some ⟨w.heap.size, 0, none⟩) 0 0) (w.alloc (Go.Rt.blk 3 [])) := by kernel_rfl
theorem Try_Zc_fb7 (x0 : Int) (w : World) : (Instr.buildSlice 30 1 [(0, .int .i64 x0)].toArray).run Try.prog w = .ok (.slice (some ⟨w.heap.size, 0, none⟩) 1 1) (w.alloc (Go.Rt.blk 3 [.int .i64 x0])) := by kernel_rfl
theorem worst_con {w0 w : World} {F : List (Nat × Obj)} (m : Market) (p : At3) (hm : MIn w0 F m p) (hok : m.Ok) (ah : Option Addr) (ch : Nat) (hands : List Int) (hhl : hands.length = m.rooms.length) (hhs : Sl w0 F ah 1 (hands.map fun x => [Value.int .i64 x])) (hhb : ∀ z ∈ hands, -10000 ≤ z ∧ z ≤ 10000) (aw : Option Addr) (cw : Nat) (wants : List Int) (hwl : wants.length = m.shops.length) (hws : Sl w0 F aw 1 (wants.map fun x => [Value.int .i64 x])) (hwb : ∀ z ∈ wants, -10000 ≤ z ∧ z ≤ 10000)
    (al : Option Addr) (cl : Nat) (l : List Int) (hll : l.length ≤ 4) (hl : Sl w0 F al 1 (l.map fun x => [Value.int .i64 x])) (hlb : ∀ z ∈ l, 0 ≤ z ∧ z < m.shops.length) (fro nh nw : Nat) (hfr : fro ≤ m.trains.length) (hnh : hands.length = nh) (hnw : wants.length = nw) (z : Int) (hz : z = fro) (hs : St w0 w F) :
    Con Try.prog 71 [.agg (m.cells p).toArray, .slice ah nh ch, .slice aw nw cw, .slice al l.length cl, .int .i64 z] w fun v w' => ∃ B a c, v = .tuple #[.slice a (worstR m hands wants l fro).1.length c, .int .i64 (worstR m hands wants l fro).2] ∧ Sl w0 B a 1 ((worstR m hands wants l fro).1.map fun x => [Value.int .i64 x]) ∧ St w0 w' (B ++ F) := by
  subst hnh hnw hz; exact c71 m p hm hok ah ch hands hhl hhs hhb aw cw wants hwl hws hwb al cl l hll hl hlb fro hfr hs
theorem give_start {w0 w : World} {x : Nat × Obj} {O Y R : List (Nat × Obj)} (h : St w0 w (x :: (O ++ (Y ++ R)))) : St w0 w (O ++ (Y ++ (x :: R))) := by
  have h1 := perm_mid [x] (O ++ Y) R
  have h2 := h.perm (show (x :: (O ++ (Y ++ R))).Perm _ from by simpa only [List.append_assoc, List.cons_append, List.nil_append] using h1)
  simpa only [List.append_assoc] using h2
theorem give_done {w0 w : World} {x y : Nat × Obj} {B O Y R : List (Nat × Obj)} (h : St w0 w (B ++ (x :: y :: (O ++ (Y ++ R))))) : St w0 w (O ++ ((x :: y :: Y) ++ R)) := h.drop.perm (perm_mid [x, y] O (Y ++ R))
theorem c29 {w0 w : World} {F : List (Nat × Obj)} (m : Market) (p : At3) (hm : MIn w0 F m p)  (hs : St w0 w F) :
  Con Try.prog 29 [.agg (m.cells p).toArray] w fun v w' => ∃ B a c, v = .tuple #[.slice a (giveR m).1.length c, .int .i64 (giveR m).2] ∧ Sl w0 B a 1 ((giveR m).1.map fun x => [Value.int .i64 x]) ∧ St w0 w' (B ++ F) := by
  refine con_of_wc (n := 105) Try.func29 rfl rfl (Nat.le_of_ble_eq_true rfl) ?_
  refine w_seq (fun K2 hK1 => ?_)
  refine w_region ?_
  refine w_box (v := .agg #[.slice _ _ _, .slice _ _ _, .slice _ _ _]) (cs := [_, _, _]) want_none rfl rfl rfl hs (fun b3 w4 hs5 => ?_)
  refine w_pure want_none (y_assign (v := _) rfl rfl) rfl ?_
  refine w_pure want_none (y_assign (v := _) rfl rfl) rfl ?_
  refine w_nil ?_
  refine q_then (hK1 _ _ ?_)
  refine w_seq (fun K7 hK6 => ?_)
  have hbx : Ats w0 ((b3, blk 26 (m.cells p)) :: F) b3 0 (m.cells p) := ats_own (i := 0) (vs := m.cells p) rfl rfl
  refine w_region ?_
  refine w_pure want_none (y_loadN (vs := [_, _, _]) Try.isAgg26 Try.sizeOf26 hs5 rfl rfl hbx) rfl ?_
  refine w_call want_none Try.call27 rfl rfl rfl rfl (c27 m _ hm.cons hs5) ?_
  rintro _ w9 ⟨B0, a0, c0, rfl, hs_B0, hs10⟩
  replace hs10 := (show St _ _ (B0 ++ (_ :: F)) from hs10)
  refine w_pure want_none (y_move (v := .tuple _) rfl rfl) rfl ?_
  refine w_pure want_none (y_extract (v := .slice _ _ _) rfl rfl rfl) rfl ?_
  refine w_pure want_none (y_extract (v := .int _ _) rfl rfl rfl) rfl ?_
  refine w_pure want_none (y_assign (v := .slice _ _ _) rfl rfl) rfl ?_
  refine w_pure want_none (y_assign (v := .int _ _) rfl rfl) rfl ?_
  refine w_nil ?_
  refine q_then (hK6 _ _ ?_)
  refine w_seq (fun K12 hK11 => ?_)
  refine w_seq (fun K14 hK13 => ?_)
  refine w_region ?_
  refine w_pure want_none (y_move (v := .int _ _) rfl rfl) rfl ?_
  refine w_pure want_none (y_neq rfl rfl rfl rfl) rfl ?_
  refine w_nil ?_
  refine q_then (hK13 _ _ ?_)
  refine w_cond rfl rfl (fun h15 => ?_) (fun h15 => ?_)
  ·
   try simp only [Bool.not_eq_true', Bool.not_eq_false', decide_eq_true_eq, decide_eq_false_iff_not, Int.not_lt, Int.not_le] at h15
   refine w_seq (fun K17 hK16 => ?_)
   refine w_region ?_
   refine w_pure want_none (y_move (v := .int _ _) rfl rfl) rfl ?_
   refine w_pure want_none (y_assign (v := _) rfl rfl) rfl ?_
   refine w_pure want_none (y_assign (v := .int _ _) rfl rfl) rfl ?_
   refine w_nil ?_
   refine q_then (hK16 _ _ ?_)
   refine w_ret ?_
   refine q_then_ret ?_
   refine q_ret (l := [.tmp 2, .tmp 3]) (vs := [_, _]) rfl ⟨⟨rfl, show _ = (.slice _ _ _ : Value) from rfl⟩, ⟨rfl, show _ = (.int _ _ : Value) from rfl⟩, trivial⟩ ?_
   first
     | (have hq : giveR m = ([], (withoutR m).2) := by unfold giveR; rw [if_pos (by assumption)]
        exact ⟨[], none, 0, by rw [hq]; rfl, by rw [hq]; exact Sl.nil _ _, hs10.drop.tail⟩)
     | (have hil : i = m.trains.length := by omega
        subst hil
        have hq : giveR m = ((giveTo m (othersTo (withoutR m).1 m.shops.length) m.trains.length).1, 0) := by unfold giveR; rw [if_neg (by simp [hw0])]
        obtain ⟨ag, cg, rfl, hsg, _, _⟩ := own_ints (w0 := w0) hown
        exact ⟨OB ++ (Y ++ (BO ++ (B0 ++ [_]))), ag, cg, by rw [hq]; rfl, by rw [hq]; exact hsg.top, by simp only [List.append_assoc]; exact hs10⟩)
  ·
   try simp only [Bool.not_eq_true', Bool.not_eq_false', decide_eq_true_eq, decide_eq_false_iff_not, Int.not_lt, Int.not_le] at h15
   refine w_skip ?_
   refine q_then (hK11 _ _ ?_)
   refine w_seq (fun K19 hK18 => ?_)
   have hw0 : (withoutR m).2 = 0 := by assumption
   obtain ⟨hck, hwe⟩ := withoutR_ok hw0
   have hok := check_ok hck
   have hls := hok.ls
   have hlr := hok.lr
   have hlt := hok.lt
   have hwl := withoutL_len m
   have hwl2 : (withoutR m).1.length ≤ m.shops.length := by rw [hwe]; exact hwl
   have hsh := shops_here hok hwe
   have hot := othersTo_len (withoutR m).1 m.shops.length
   have hoi := othersTo_in (withoutR m).1 m.shops.length
   refine w_draw [] [(0, 1), (1, 0), (3, 1), (5, 1), (2, 2), (4, 2), (6, 2), (7, 0), (8, 0), (9, 0)] Try_mo (by kernel_rfl) hs10 (fun w20 hs21 => ?_)
   refine d_take rfl want_none rfl hs21 (fun _ hq => (y_loadN (vs := [_, _, _]) Try.isAgg26 Try.sizeOf26 hq.drop rfl rfl hbx)) ?_
   refine d_any rfl want_none rfl (fun _ => (y_move (v := .slice _ _ _) rfl rfl)) ?_
   refine d_take rfl want_none rfl hs21 (fun _ hq => (y_loadN (vs := [_, _, _]) Try.isAgg26 Try.sizeOf26 hq.drop rfl rfl hbx)) ?_
   refine d_take rfl want_none rfl hs21 (fun _ hq => (y_loadN (vs := [_, _, _]) Try.isAgg26 Try.sizeOf26 hq.drop rfl rfl hbx)) ?_
   refine d_eff rfl ?_
   refine w_call want_none Try.call44 rfl rfl rfl rfl (c44 m _ hm.cons.app hok _ _ (withoutR m).1 (by omega) hs_B0.top hs21) ?_
   rintro _ w23 ⟨BO, a_BO, c_BO, rfl, hs_BO, hs24⟩
   replace hs24 := (show St _ _ (BO ++ (B0 ++ (_ :: F))) from hs24)
   refine w_nil ?_
   refine qn ⟨hs24.drop, ?_⟩
   refine d_eff rfl ?_
   refine w_call want_none Try.call37 rfl rfl rfl rfl (c37 m _ hm.cons.app.app hok  hs24) ?_
   rintro _ w26 ⟨BL, a_BL, c_BL, rfl, hs_BL, hs27⟩
   replace hs27 := (show St _ _ (BL ++ (BO ++ (B0 ++ (_ :: F)))) from hs27)
   refine w_nil ?_
   refine qn ⟨hs27.drop.drop, ?_⟩
   refine d_eff rfl ?_
   refine w_call want_none Try.call72 rfl rfl rfl rfl (c72 m _ hm.cons.app.app.app hok  hs27) ?_
   rintro _ w29 ⟨BW, a_BW, c_BW, rfl, hs_BW, hs30⟩
   replace hs30 := (show St _ _ (BW ++ (BL ++ (BO ++ (B0 ++ (_ :: F))))) from hs30)
   refine w_nil ?_
   refine qn ⟨hs30.drop.drop.drop, ?_⟩
   refine d_any rfl want_none rfl (fun _ => (y_assign (v := .slice _ _ _) rfl rfl)) ?_
   refine d_any rfl want_none rfl (fun _ => (y_assign (v := .slice _ _ _) rfl rfl)) ?_
   refine d_any rfl want_none rfl (fun _ => (y_assign (v := .slice _ _ _) rfl rfl)) ?_
   refine d_nil ?_
   refine q_then (hK18 _ _ ?_)
   refine w_seq (fun K32 hK31 => ?_)
   refine w_region ?_
   refine w_pure want_none (y_assign (v := _) rfl rfl) rfl ?_
   refine w_nil ?_
   refine q_then (hK31 _ _ ?_)
   refine w_seq (fun K34 hK33 => ?_)
   refine w_seq (fun K36 hK35 => ?_)
   refine w_region ?_
   refine w_pure want_none (y_assign (v := _) rfl rfl) rfl ?_
   refine w_nil ?_
   refine q_then (hK35 _ _ ?_)
   refine w_block ?_
   refine w_loop [7, 8, 9, 10, 11, 12, 13, 14, 15, 16, 17, 33, 34, 35, 36, 37, 38, 39, 40, 41, 42, 43, 44, 45, 46, 47, 48, 49, 50, 51, 52, 53, 54, 55, 56, 57, 58, 59, 60, 61, 62, 63, 64, 65, 66, 67, 68, 69, 70, 71, 72, 73, 74, 75, 76, 77, 78, 79, 80, 81, 82, 83, 84, 85, 86, 87, 88, 89, 90, 91, 92, 93, 94, 95, 96, 97, 98, 99, 100, 101, 102, 103] [7, 8, 9, 10] (fun kk vs0 w => ∃ (i : Nat) (ah : Option Addr) (ch : Nat) (aw : Option Addr) (cw : Nat) (v : Value) (OB Y : List (Nat × Obj)), vs0 = [.slice ah (giveTo m (othersTo (withoutR m).1 m.shops.length) i).2.1.length ch, .slice aw (giveTo m (othersTo (withoutR m).1 m.shops.length) i).2.2.length cw, v, .int .i64 i] ∧ i ≤ m.trains.length ∧ kk = m.trains.length - i ∧ Rt.Own v 3 1 (giveTo m (othersTo (withoutR m).1 m.shops.length) i).1.length (iv (giveTo m (othersTo (withoutR m).1 m.shops.length) i).1) OB ∧ Sl w0 Y ah 1 ((giveTo m (othersTo (withoutR m).1 m.shops.length) i).2.1.map fun x => [Value.int .i64 x]) ∧ Sl w0 Y aw 1 ((giveTo m (othersTo (withoutR m).1 m.shops.length) i).2.2.map fun x => [Value.int .i64 x]) ∧ St w0 w (OB ++ (Y ++ (BO ++ (B0 ++ ((b3, blk 26 (m.cells p)) :: F)))))) (m.trains.length) ?_ ?_
   ·
    exact ⟨0, _, _, _, _, _, [], BW ++ BL, by rw [show (giveTo m (othersTo (withoutR m).1 m.shops.length) 0) = ([], leastL m, wantsL m) from rfl]; rfl, by omega, by omega, own_nil 3 1, hs_BL.app, hs_BW.top, by rw [List.append_assoc]; exact hs30⟩
   ·
    intro k vs μ w39 hI K38 hN37
    obtain ⟨i, ah, ch, aw, cw, v, OB, Y, rfl, hia, rfl, hown, hslh, hslw, hs⟩ := hI
    refine w_seq (fun K41 hK40 => ?_)
    refine w_seq (fun K43 hK42 => ?_)
    refine w_region ?_
    refine w_pure want_none (y_move (v := .int _ _) rfl rfl) rfl ?_
    refine w_pure want_none (y_fieldAddr (o := 2) (i := 2) Try.underlying26 rfl Try.sizeOf24 rfl rfl rfl) rfl ?_
    refine w_pure want_none (y_load1 Try.isAgg24 hs.drop.drop.drop.drop rfl rfl (show Ats _ _ _ _ [_] from Ats.part hbx 2 1)) rfl ?_
    refine w_pure want_none (y_lenS Try.underlying24 rfl rfl) rfl ?_
    refine w_pure want_none (y_lss rfl rfl rfl rfl) rfl ?_
    refine w_nil ?_
    refine q_then (hK42 _ _ ?_)
    refine w_cond rfl rfl (fun h44 => ?_) (fun h44 => ?_)
    ·
     try simp only [Bool.not_eq_true', Bool.not_eq_false', decide_eq_true_eq, decide_eq_false_iff_not, Int.not_lt, Int.not_le] at h44
     refine w_skip ?_
     refine q_then (hK40 _ _ ?_)
     refine w_seq (fun K46 hK45 => ?_)
     refine w_block ?_
     refine w_seq (fun K48 hK47 => ?_)
     have hi2 : i < m.trains.length := by omega
     obtain ⟨bt, ot, hbt, hxt⟩ := sl_trows hm.t hi2
     have htt := hok.train _ (List.getElem_mem hi2)
     obtain ⟨sub, hf⟩ := give_here hsh hok hia
     have hHl := hf.hl
     have hWl := hf.wl
     have hgl := giveTo_len (m := m) (shops := (othersTo (withoutR m).1 m.shops.length)) i hia
     refine w_region ?_
     refine w_pure want_none (y_fieldAddr (o := 2) (i := 2) Try.underlying26 rfl Try.sizeOf24 rfl rfl rfl) rfl ?_
     refine w_pure want_none (yd_slice hbt (y_load1 Try.isAgg24 hs.drop.drop.drop.drop rfl rfl (show Ats _ _ _ _ [_] from Ats.part hbx 2 1))) rfl ?_
     refine w_pure want_none (y_move (v := .int _ _) rfl rfl) rfl ?_
     refine w_pure want_none (y_indexS Try.underlying24 Try.sizeOf63 rfl rfl rfl rfl (i := _) rfl (by omega)) rfl ?_
     refine w_pure want_none (y_loadN (vs := [_, _, _, _]) Try.isAgg63 Try.sizeOf63 hs.drop.drop.drop.drop.tail rfl rfl hxt) rfl ?_
     refine w_alloc (cs := [_, _, _, _]) want_none Try.zeroValue63 rfl hs (fun b49 w50 hs51 => ?_)
     refine w_store (i := 0) (v := .agg #[.int _ _, .int _ _, .int _ _, .int _ _]) (vs := [_, _, _, _]) want_none Try.sizeOf63 rfl rfl rfl rfl rfl (by simp [Value.oneCell']) hs51 rfl (Nat.le_of_ble_eq_true rfl) (fun w52 hs53 => ?_)
     refine w_nil ?_
     refine q_then (hK47 _ _ ?_)
     refine w_seq (fun K55 hK54 => ?_)
     refine w_region ?_
     refine w_pure want_none (y_assign (v := _) rfl rfl) rfl ?_
     refine w_nil ?_
     refine q_then (hK54 _ _ ?_)
     refine w_seq (fun K57 hK56 => ?_)
     refine w_seq (fun K59 hK58 => ?_)
     refine w_region ?_
     refine w_pure want_none (y_loadN (vs := [_, _, _]) Try.isAgg26 Try.sizeOf26 hs53.tail.drop.drop.drop.drop rfl rfl hbx) rfl ?_
     refine w_pure want_none (y_loadN (vs := [_, _, _, _]) Try.isAgg63 Try.sizeOf63 hs53 rfl rfl (ats_own (i := 0) (vs := [_, _, _, _]) rfl rfl)) rfl ?_
     refine w_call want_none Try.call53 rfl rfl rfl rfl (c53 m _ hm.cons.app.app.app.app.cons hok _ (List.getElem_mem hi2) hs53) ?_
     rintro _ w61 ⟨rfl, hs62⟩
     refine w_pure want_none (y_move (v := .bool _) rfl rfl) rfl ?_
     refine w_split (fun h63 => ?_) (fun h63 => ?_)
     ·
      try simp only [Bool.not_eq_true', Bool.not_eq_false', decide_eq_true_eq, decide_eq_false_iff_not, Int.not_lt, Int.not_le] at h63
      refine w_pure (want_yes rfl rfl rfl) (y_move (v := .slice _ _ _) rfl rfl) rfl ?_
      refine w_pure (want_yes rfl rfl rfl) (y_fieldAddr (o := 1) (i := 1) Try.underlying63 rfl Try.sizeOf3 rfl rfl rfl) rfl ?_
      refine w_pure (want_yes rfl rfl rfl) (y_load1 Try.isAgg3 hs62 rfl rfl (ats_own (i := 0) (vs := [_]) rfl rfl)) rfl ?_
      refine w_call (want_yes rfl rfl rfl) Try.call41 rfl rfl rfl rfl (c41 _ _ (othersTo (withoutR m).1 m.shops.length) (by omega) hs_BO.top.app.app.cons _ hs62) ?_
      rintro _ w65 ⟨rfl, hs66⟩
      refine w_pure want_none (y_pickT (v := .bool _) rfl rfl rfl rfl) rfl ?_
      refine w_nil ?_
      refine q_then (hK58 _ _ ?_)
      refine w_cond rfl rfl (fun h67 => ?_) (fun h67 => ?_)
      ·
       try simp only [Bool.not_eq_true', Bool.not_eq_false', decide_eq_true_eq, decide_eq_false_iff_not, Int.not_lt, Int.not_le] at h67
       refine w_seq (fun K69 hK68 => ?_)
       have ht11 : Ats w0 ((b49, blk 63 (Train.cells (m.trains[i]'hi2))) :: (BO ++ (B0 ++ ((b3, blk 26 (m.cells p)) :: F)))) b49 0 (Train.cells (m.trains[i]'hi2)) := ats_own (i := 0) (vs := Train.cells (m.trains[i]'hi2)) rfl rfl
       have hgo : goesS m (othersTo (withoutR m).1 m.shops.length) (m.trains[i]'hi2) = true := (by unfold goesS; rw [Bool.and_eq_true]; exact ⟨by assumption, by assumption⟩)
       obtain ⟨hN1, hN2, hN3⟩ := nAt_here hsh hok hi2 hgo
       refine w_region ?_
       refine w_pure want_none (y_assign (v := _) rfl rfl) rfl ?_
       refine w_nil ?_
       refine q_then (hK68 _ _ ?_)
       refine w_block ?_
       refine w_loop [7, 8, 12, 13, 14, 15, 16, 17, 54, 55, 56, 57, 58, 59, 60, 61, 62, 63, 64, 65, 66, 67, 68, 69, 70, 71, 72, 73, 74, 75, 76, 77, 78, 79, 80, 81, 82, 83, 84, 85, 86, 87, 88, 89, 90, 91, 92, 93, 94, 95, 96, 97, 98, 99] [7, 8, 12, 13] (fun kk vs0 w => ∃ (b : Bool) (n : Nat) (ah : Option Addr) (ch : Nat) (aw : Option Addr) (cw : Nat) (h' w' : List Int) (Y : List (Nat × Obj)), vs0 = [.slice ah h'.length ch, .slice aw w'.length cw, .int .i64 n, .bool b] ∧ (∀ q < n, okAt m (othersTo (withoutR m).1 m.shops.length) (giveTo m (othersTo (withoutR m).1 m.shops.length) i).2.1 (giveTo m (othersTo (withoutR m).1 m.shops.length) i).2.2 i (m.trains[i]'hi2) q = false) ∧ kk = (if b = true then 62 - n else 0) ∧ n ≤ 60 ∧ (b = true → h' = (giveTo m (othersTo (withoutR m).1 m.shops.length) i).2.1 ∧ w' = (giveTo m (othersTo (withoutR m).1 m.shops.length) i).2.2) ∧ (b = false → okAt m (othersTo (withoutR m).1 m.shops.length) (giveTo m (othersTo (withoutR m).1 m.shops.length) i).2.1 (giveTo m (othersTo (withoutR m).1 m.shops.length) i).2.2 i (m.trains[i]'hi2) n = true ∧ h' = subAt (giveTo m (othersTo (withoutR m).1 m.shops.length) i).2.1 ((m.trains[i]'hi2).room.toNat) n ∧ w' = subAt (giveTo m (othersTo (withoutR m).1 m.shops.length) i).2.2 ((m.trains[i]'hi2).shop.toNat) n) ∧ Sl w0 Y ah 1 (h'.map fun x => [Value.int .i64 x]) ∧ Sl w0 Y aw 1 (w'.map fun x => [Value.int .i64 x]) ∧ St w0 w (OB ++ (Y ++ ((b49, blk 63 (Train.cells (m.trains[i]'hi2))) :: (BO ++ (B0 ++ ((b3, blk 26 (m.cells p)) :: F))))))) (62) ?_ ?_
       ·
        exact ⟨true, 0, ah, ch, aw, cw, (giveTo m (othersTo (withoutR m).1 m.shops.length) i).2.1, (giveTo m (othersTo (withoutR m).1 m.shops.length) i).2.2, Y, rfl, (fun q hq => by omega), rfl, by omega, fun _ => ⟨rfl, rfl⟩, (fun hb => by cases hb), hslh, hslw, give_start hs66⟩
       ·
        intro k vs μ w72 hI K71 hN70
        clear hslh hslw hs
        obtain ⟨b, n, ah, ch, aw, cw, h', w', Y, rfl, hq0, rfl, hn60, hT, hF, hslh, hslw, hs⟩ := hI
        refine w_seq (fun K74 hK73 => ?_)
        refine w_seq (fun K76 hK75 => ?_)
        refine w_region ?_
        refine w_pure want_none (y_move (v := .bool _) rfl rfl) rfl ?_
        refine w_nil ?_
        refine q_then (hK75 _ _ ?_)
        refine w_cond rfl rfl (fun h77 => ?_) (fun h77 => ?_)
        ·
         subst h77
         refine w_skip ?_
         refine q_then (hK73 _ _ ?_)
         refine w_block ?_
         refine w_seq (fun K79 hK78 => ?_)
         obtain ⟨rfl, rfl⟩ := hT rfl
         have hr2 : (m.trains[i]'hi2).room.toNat < (giveTo m (othersTo (withoutR m).1 m.shops.length) i).2.1.length := by omega
         have hs2 : (m.trains[i]'hi2).shop.toNat < (giveTo m (othersTo (withoutR m).1 m.shops.length) i).2.2.length := by omega
         have hrb := hf.hn _ (List.getElem_mem hr2)
         have hsb := hf.wn _ (List.getElem_mem hs2)
         obtain ⟨bx, ox, hbx2, hx⟩ := sl_ints hslh hr2
         obtain ⟨by_, oy, hby2, hy⟩ := sl_ints hslw hs2
         refine w_region ?_
         refine w_bslice (ps := []) (pv := []) (cs := []) want_none rfl rfl (fun w => Try_Zc_fb6  w) hs (fun b80 w81 hs82 => ?_)
         refine w_pure want_none (y_move (v := .slice _ _ _) rfl rfl) rfl ?_
         refine w_append (X := ([])) (B := [_]) (rows := ((giveTo m (othersTo (withoutR m).1 m.shops.length) i).2.1.map fun x => [Value.int .i64 x])) (sz := 1) (bytes := 8) want_none Try.underlying30 Try_info3 rfl rfl rfl rfl rfl rfl rfl rfl rfl hs82 own_made hslh.top.app.cons (List.length_map _) (sl_some hslh (by rw [List.length_map]; omega)) (ints_one _) (by simp only [maxLen]; omega) (by omega) (fun v83 w84 B85 ho86 hs87 => ?_)
         replace hs87 := (show St _ _ (B85 ++ (OB ++ (Y ++ (_ :: BO ++ (B0 ++ (_ :: F)))))) from hs87)
         rw [Nat.zero_add, List.nil_append, flat_ints] at ho86
         obtain ⟨bh, caph, csh, rfl, hcsh1, hcsh2, hcsh3, hcsh4, hcsh5⟩ := own_some ho86 (by omega)
         subst hcsh1
         replace hs87 := (show St _ _ (_ :: OB ++ (Y ++ (_ :: (BO ++ (B0 ++ ((b3, blk 26 (m.cells p)) :: F)))))) from hs87)
         refine w_bslice (ps := []) (pv := []) (cs := []) want_none rfl rfl (fun w => Try_Zc_fb6  w) hs87 (fun b88 w89 hs90 => ?_)
         refine w_pure want_none (y_move (v := .slice _ _ _) rfl rfl) rfl ?_
         refine w_append (X := ([])) (B := [_]) (rows := ((giveTo m (othersTo (withoutR m).1 m.shops.length) i).2.2.map fun x => [Value.int .i64 x])) (sz := 1) (bytes := 8) want_none Try.underlying30 Try_info3 rfl rfl rfl rfl rfl rfl rfl rfl rfl hs90 own_made hslw.top.app.cons.cons (List.length_map _) (sl_some hslw (by rw [List.length_map]; omega)) (ints_one _) (by simp only [maxLen]; omega) (by omega) (fun v91 w92 B93 ho94 hs95 => ?_)
         replace hs95 := (show St _ _ (B93 ++ (_ :: OB ++ (Y ++ (_ :: BO ++ (B0 ++ (_ :: F)))))) from hs95)
         rw [Nat.zero_add, List.nil_append, flat_ints] at ho94
         obtain ⟨bw, capw, csw, rfl, hcsw1, hcsw2, hcsw3, hcsw4, hcsw5⟩ := own_some ho94 (by omega)
         subst hcsw1
         replace hs95 := (show St _ _ (_ :: _ :: (OB ++ (Y ++ (_ :: (BO ++ (B0 ++ ((b3, blk 26 (m.cells p)) :: F))))))) from hs95)
         refine w_pure want_none (y_assign (v := .slice _ _ _) rfl rfl) rfl ?_
         refine w_pure want_none (y_assign (v := .slice _ _ _) rfl rfl) rfl ?_
         refine w_nil ?_
         refine q_then (hK78 _ _ ?_)
         refine w_seq (fun K97 hK96 => ?_)
         subst hbx2
         subst hby2
         have hx0 := hx.top (F := (b49, blk 63 (Train.cells (m.trains[i]'hi2))) :: (BO ++ (B0 ++ ((b3, blk 26 (m.cells p)) :: F))))
         have hy0 := hy.top (F := (b49, blk 63 (Train.cells (m.trains[i]'hi2))) :: (BO ++ (B0 ++ ((b3, blk 26 (m.cells p)) :: F))))
         refine w_draw [11] [(0, 0), (1, 0), (2, 1), (3, 0), (4, 0), (5, 1), (6, 0), (7, 1), (8, 0), (9, 0), (10, 0), (11, 3)] Try_mo (by kernel_rfl) hs95 (fun w98 hs99 => ?_)
         refine d_any rfl want_none rfl (fun _ => (y_move (v := .slice _ _ _) rfl rfl)) ?_
         refine d_any rfl want_none rfl (fun _ => (y_fieldAddr (o := 0) (i := 0) Try.underlying63 rfl Try.sizeOf3 rfl rfl rfl)) ?_
         refine d_take rfl want_none rfl hs99 (fun _ hq => (y_load1 Try.isAgg3 hq.tail.tail.drop.drop rfl rfl (show Ats _ _ _ _ [_] from Ats.part ht11 0 1))) ?_
         refine d_any rfl want_none rfl (fun _ => (y_move (v := .slice _ _ _) rfl rfl)) ?_
         refine d_any rfl want_none rfl (fun _ => (y_fieldAddr (o := 0) (i := 0) Try.underlying63 rfl Try.sizeOf3 rfl rfl rfl)) ?_
         refine d_take rfl want_none rfl hs99 (fun _ hq => (y_load1 Try.isAgg3 hq.tail.tail.drop.drop rfl rfl (show Ats _ _ _ _ [_] from Ats.part ht11 0 1))) ?_
         refine d_any rfl want_none rfl (fun _ => (y_indexS Try.underlying30 Try.sizeOf3 rfl rfl rfl rfl (i := (m.trains[i]'hi2).room.toNat) (by omega) (by omega))) ?_
         refine d_take rfl want_none rfl hs99 (fun _ hq => (y_load1 Try.isAgg3 hq.tail.tail.drop rfl rfl hx0)) ?_
         refine d_any rfl want_none rfl (fun _ => (y_move (v := .int _ _) rfl rfl)) ?_
         refine d_any rfl want_none rfl (fun _ => (y_sub rfl rfl rfl rfl (by omega) (by omega))) ?_
         refine d_any rfl want_none rfl (fun _ => (y_indexS Try.underlying30 Try.sizeOf3 rfl rfl rfl rfl (i := (m.trains[i]'hi2).room.toNat) (by omega) (by omega))) ?_
         refine d_late rfl ?_
         refine w_store (i := 1) (v := .int _ _) (vs := [_]) want_none Try.sizeOf3 rfl rfl rfl rfl rfl (by simp [Value.oneCell']) hs99 rfl (show 0 + (m.trains[i]'hi2).room.toNat * 1 + 1 ≤ csh.length by omega) (fun w100 hs101 => ?_)
         have cshn : (csh.set ((m.trains[i]'hi2).room.toNat) (.int .i64 ((giveTo m (othersTo (withoutR m).1 m.shops.length) i).2.1[(m.trains[i]'hi2).room.toNat]'(by omega) - (n : Int)))).take ((giveTo m (othersTo (withoutR m).1 m.shops.length) i).2.1.length * 1) = iv (subAt (giveTo m (othersTo (withoutR m).1 m.shops.length) i).2.1 ((m.trains[i]'hi2).room.toNat) (n : Int)) := subAt_cells rfl (by omega) hcsh5
         replace hs101 := (show St _ _ (_ :: (bh, blk 3 (csh.set ((m.trains[i]'hi2).room.toNat) (.int .i64 ((giveTo m (othersTo (withoutR m).1 m.shops.length) i).2.1[(m.trains[i]'hi2).room.toNat]'(by omega) - (n : Int))))) :: (OB ++ (Y ++ (_ :: (BO ++ (B0 ++ ((b3, blk 26 (m.cells p)) :: F))))))) from (by have h6 := hs101; simp only [setMany, Nat.zero_add, Nat.mul_one] at h6; exact h6))
         refine w_nil ?_
         refine qn ?_
         refine d_nil ?_
         refine q_then (hK96 _ _ ?_)
         refine w_seq (fun K103 hK102 => ?_)
         refine w_draw [11] [(0, 0), (1, 0), (2, 1), (3, 0), (4, 0), (5, 1), (6, 0), (7, 1), (8, 0), (9, 0), (10, 0), (11, 3)] Try_mo (by kernel_rfl) hs101 (fun w104 hs105 => ?_)
         refine d_any rfl want_none rfl (fun _ => (y_move (v := .slice _ _ _) rfl rfl)) ?_
         refine d_any rfl want_none rfl (fun _ => (y_fieldAddr (o := 1) (i := 1) Try.underlying63 rfl Try.sizeOf3 rfl rfl rfl)) ?_
         refine d_take rfl want_none rfl hs105 (fun _ hq => (y_load1 Try.isAgg3 hq.tail.tail.drop.drop rfl rfl (show Ats _ _ _ _ [_] from Ats.part ht11 1 1))) ?_
         refine d_any rfl want_none rfl (fun _ => (y_move (v := .slice _ _ _) rfl rfl)) ?_
         refine d_any rfl want_none rfl (fun _ => (y_fieldAddr (o := 1) (i := 1) Try.underlying63 rfl Try.sizeOf3 rfl rfl rfl)) ?_
         refine d_take rfl want_none rfl hs105 (fun _ hq => (y_load1 Try.isAgg3 hq.tail.tail.drop.drop rfl rfl (show Ats _ _ _ _ [_] from Ats.part ht11 1 1))) ?_
         refine d_any rfl want_none rfl (fun _ => (y_indexS Try.underlying30 Try.sizeOf3 rfl rfl rfl rfl (i := (m.trains[i]'hi2).shop.toNat) (by omega) (by omega))) ?_
         refine d_take rfl want_none rfl hs105 (fun _ hq => (y_load1 Try.isAgg3 hq.tail.tail.drop rfl rfl hy0)) ?_
         refine d_any rfl want_none rfl (fun _ => (y_move (v := .int _ _) rfl rfl)) ?_
         refine d_any rfl want_none rfl (fun _ => (y_sub rfl rfl rfl rfl (by omega) (by omega))) ?_
         refine d_any rfl want_none rfl (fun _ => (y_indexS Try.underlying30 Try.sizeOf3 rfl rfl rfl rfl (i := (m.trains[i]'hi2).shop.toNat) (by omega) (by omega))) ?_
         refine d_late rfl ?_
         refine w_store (i := 0) (v := .int _ _) (vs := [_]) want_none Try.sizeOf3 rfl rfl rfl rfl rfl (by simp [Value.oneCell']) hs105 rfl (show 0 + (m.trains[i]'hi2).shop.toNat * 1 + 1 ≤ csw.length by omega) (fun w106 hs107 => ?_)
         have cswn : (csw.set ((m.trains[i]'hi2).shop.toNat) (.int .i64 ((giveTo m (othersTo (withoutR m).1 m.shops.length) i).2.2[(m.trains[i]'hi2).shop.toNat]'(by omega) - (n : Int)))).take ((giveTo m (othersTo (withoutR m).1 m.shops.length) i).2.2.length * 1) = iv (subAt (giveTo m (othersTo (withoutR m).1 m.shops.length) i).2.2 ((m.trains[i]'hi2).shop.toNat) (n : Int)) := subAt_cells rfl (by omega) hcsw5
         replace hs107 := (show St _ _ ((bw, blk 3 (csw.set ((m.trains[i]'hi2).shop.toNat) (.int .i64 ((giveTo m (othersTo (withoutR m).1 m.shops.length) i).2.2[(m.trains[i]'hi2).shop.toNat]'(by omega) - (n : Int))))) :: _ :: (OB ++ (Y ++ (_ :: (BO ++ (B0 ++ ((b3, blk 26 (m.cells p)) :: F))))))) from (by have h6 := hs107; simp only [setMany, Nat.zero_add, Nat.mul_one] at h6; exact h6))
         refine w_nil ?_
         refine qn ?_
         refine d_nil ?_
         refine q_then (hK102 _ _ ?_)
         refine w_seq (fun K109 hK108 => ?_)
         refine w_region ?_
         refine w_pure want_none (y_loadN (vs := [_, _, _]) Try.isAgg26 Try.sizeOf26 hs107.tail.tail.drop.drop.tail.drop.drop rfl rfl hbx) rfl ?_
         refine w_pure want_none (y_move (v := .slice _ _ _) rfl rfl) rfl ?_
         refine w_pure want_none (y_move (v := .slice _ _ _) rfl rfl) rfl ?_
         refine w_pure want_none (y_move (v := .slice _ _ _) rfl rfl) rfl ?_
         refine w_pure want_none (y_move (v := .int _ _) rfl rfl) rfl ?_
         refine w_pure want_none (y_add rfl rfl rfl rfl (by omega) (by omega)) rfl ?_
         refine w_call want_none Try.call71 rfl rfl rfl rfl (worst_con m _ hm.cons.app.app.cons.app.app.cons.cons hok _ _ (subAt (giveTo m (othersTo (withoutR m).1 m.shops.length) i).2.1 ((m.trains[i]'hi2).room.toNat) (n : Int)) (by rw [subAt_len]; exact hHl) (sl_own_ints (i := 1) rfl (subAt_len _ _ _) cshn) (subAt_bound hf.hn (by omega)) _ _ (subAt (giveTo m (othersTo (withoutR m).1 m.shops.length) i).2.2 ((m.trains[i]'hi2).shop.toNat) (n : Int)) (by rw [subAt_len]; exact hWl) (sl_own_ints (i := 0) rfl (subAt_len _ _ _) cswn) (subAt_bound (fun z hz => by have := hf.wn z hz; omega) (by omega)) _ _ (othersTo (withoutR m).1 m.shops.length) (by omega) hs_BO.top.cons.app.app.cons.cons hoi (i + 1) _ _ (by omega) (subAt_len _ _ _) (subAt_len _ _ _) _ rfl hs107) ?_
         rintro _ w111 ⟨BX, aX, cX, rfl, _, hs112⟩
         replace hs112 := (show St _ _ (BX ++ (_ :: _ :: OB ++ (Y ++ (_ :: BO ++ (B0 ++ (_ :: F)))))) from hs112)
         refine w_pure want_none (y_move (v := .tuple _) rfl rfl) rfl ?_
         refine w_pure want_none (y_extract (v := .slice _ _ _) rfl rfl rfl) rfl ?_
         refine w_pure want_none (y_extract (v := .int _ _) rfl rfl rfl) rfl ?_
         refine w_pure want_none (y_assign (v := .slice _ _ _) rfl rfl) rfl ?_
         refine w_pure want_none (y_assign (v := .int _ _) rfl rfl) rfl ?_
         refine w_nil ?_
         refine q_then (hK108 _ _ ?_)
         refine w_seq (fun K114 hK113 => ?_)
         refine w_region ?_
         refine w_pure want_none (y_move (v := .int _ _) rfl rfl) rfl ?_
         refine w_pure want_none (y_gtr rfl rfl rfl rfl) rfl ?_
         refine w_pure want_none (y_assign (v := .bool _) rfl rfl) rfl ?_
         refine w_nil ?_
         refine q_then (hK113 _ _ ?_)
         refine w_seq (fun K116 hK115 => ?_)
         refine w_region ?_
         refine w_pure want_none (y_move (v := .bool _) rfl rfl) rfl ?_
         refine w_nil ?_
         refine q_then (hK115 _ _ ?_)
         refine w_cond rfl rfl (fun h117 => ?_) (fun h117 => ?_)
         ·
          try simp only [Bool.not_eq_true', Bool.not_eq_false', decide_eq_true_eq, decide_eq_false_iff_not, Int.not_lt, Int.not_le] at h117
          have hwnn := worstR_nn m (subAt (giveTo m (othersTo (withoutR m).1 m.shops.length) i).2.1 ((m.trains[i]'hi2).room.toNat) (n : Int)) (subAt (giveTo m (othersTo (withoutR m).1 m.shops.length) i).2.2 ((m.trains[i]'hi2).shop.toNat) (n : Int)) (othersTo (withoutR m).1 m.shops.length) (i + 1)
          have hokn : okAt m (othersTo (withoutR m).1 m.shops.length) (giveTo m (othersTo (withoutR m).1 m.shops.length) i).2.1 (giveTo m (othersTo (withoutR m).1 m.shops.length) i).2.2 i (m.trains[i]'hi2) n = false := (by unfold okAt; exact decide_eq_false (by omega))
          refine w_region ?_
          refine w_pure want_none (y_move (v := .int _ _) rfl rfl) rfl ?_
          refine w_pure want_none (y_add rfl rfl rfl rfl (by omega) (by omega)) rfl ?_
          refine w_pure want_none (y_assign (v := .int _ _) rfl rfl) rfl ?_
          refine w_nil ?_
          refine q_blk_normal ?_
          refine q_then (hN70 _ _ (Nx.intro (62 - (n + 1)) (by simp only [if_true]; omega) (by repeat (first | exact agree_mix | refine agree_upd rfl ?_ | refine agree_updL rfl ?_ _ | refine agree_mixin rfl ?_)) ?_))
          exact ⟨_, n + 1, _, _, _, _, (giveTo m (othersTo (withoutR m).1 m.shops.length) i).2.1, (giveTo m (othersTo (withoutR m).1 m.shops.length) i).2.2, Y, rfl, (fun q hq => by rcases Nat.lt_or_ge q n with h | h; exact hq0 q h; have e : q = n := (by omega); rw [e]; exact hokn), by rw [if_pos (decide_eq_true (by assumption))], (by have hn1 : n < nAt m (othersTo (withoutR m).1 m.shops.length) (giveTo m (othersTo (withoutR m).1 m.shops.length) i).2.1 (giveTo m (othersTo (withoutR m).1 m.shops.length) i).2.2 i (m.trains[i]'hi2) := (by rcases Nat.lt_or_ge n (nAt m (othersTo (withoutR m).1 m.shops.length) (giveTo m (othersTo (withoutR m).1 m.shops.length) i).2.1 (giveTo m (othersTo (withoutR m).1 m.shops.length) i).2.2 i (m.trains[i]'hi2)) with h | h; exact h; exfalso; rcases Nat.lt_or_ge (nAt m (othersTo (withoutR m).1 m.shops.length) (giveTo m (othersTo (withoutR m).1 m.shops.length) i).2.1 (giveTo m (othersTo (withoutR m).1 m.shops.length) i).2.2 i (m.trains[i]'hi2)) n with h2 | h2; (have := hq0 _ h2; rw [hN1] at this; cases this); (have e : n = nAt m (othersTo (withoutR m).1 m.shops.length) (giveTo m (othersTo (withoutR m).1 m.shops.length) i).2.1 (giveTo m (othersTo (withoutR m).1 m.shops.length) i).2.2 i (m.trains[i]'hi2) := (by omega); rw [e, hN1] at hokn; cases hokn)); omega), fun _ => ⟨rfl, rfl⟩, (fun hb => by have h8 := of_decide_eq_false hb; omega), hslh, hslw, hs112.drop.tail.tail⟩
         ·
          try simp only [Bool.not_eq_true', Bool.not_eq_false', decide_eq_true_eq, decide_eq_false_iff_not, Int.not_lt, Int.not_le] at h117
          refine w_seq (fun K119 hK118 => ?_)
          have hwnn := worstR_nn m (subAt (giveTo m (othersTo (withoutR m).1 m.shops.length) i).2.1 ((m.trains[i]'hi2).room.toNat) (n : Int)) (subAt (giveTo m (othersTo (withoutR m).1 m.shops.length) i).2.2 ((m.trains[i]'hi2).shop.toNat) (n : Int)) (othersTo (withoutR m).1 m.shops.length) (i + 1)
          have hokn : okAt m (othersTo (withoutR m).1 m.shops.length) (giveTo m (othersTo (withoutR m).1 m.shops.length) i).2.1 (giveTo m (othersTo (withoutR m).1 m.shops.length) i).2.2 i (m.trains[i]'hi2) n = true := (by unfold okAt; exact decide_eq_true (by omega))
          refine w_region ?_
          refine w_pure want_none (y_move (v := .slice _ _ _) rfl rfl) rfl ?_
          refine w_pure want_none (y_assign (v := .slice _ _ _) rfl rfl) rfl ?_
          refine w_nil ?_
          refine q_then (hK118 _ _ ?_)
          refine w_region ?_
          refine w_pure want_none (y_move (v := .slice _ _ _) rfl rfl) rfl ?_
          refine w_pure want_none (y_assign (v := .slice _ _ _) rfl rfl) rfl ?_
          refine w_nil ?_
          refine q_blk_normal ?_
          refine q_then (hN70 _ _ (Nx.intro (0) (by simp only [if_true]; omega) (by repeat (first | exact agree_mix | refine agree_upd rfl ?_ | refine agree_updL rfl ?_ _ | refine agree_mixin rfl ?_)) ?_))
          exact ⟨_, n, _, _, _, _, subAt (giveTo m (othersTo (withoutR m).1 m.shops.length) i).2.1 ((m.trains[i]'hi2).room.toNat) n, subAt (giveTo m (othersTo (withoutR m).1 m.shops.length) i).2.2 ((m.trains[i]'hi2).shop.toNat) n, _, by rw [subAt_len, subAt_len]; rfl, hq0, by rw [if_neg (fun hb => by have h8 := of_decide_eq_true hb; omega)], hn60, (fun hb => by have h8 := of_decide_eq_true hb; omega), fun _ => ⟨hokn, rfl, rfl⟩, sl_own_ints (i := 1) rfl (subAt_len _ _ _) cshn, sl_own_ints (i := 0) rfl (subAt_len _ _ _) cswn, give_done hs112⟩
        ·
         subst h77
         refine w_exit ?_
         refine q_then_exit ?_
         refine q_then_exit ?_
         refine q_blk_this ?_
         refine q_then (hK56 _ _ ?_)
         obtain ⟨hokn, rfl, rfl⟩ := hF rfl
         have hnn : nAt m (othersTo (withoutR m).1 m.shops.length) (giveTo m (othersTo (withoutR m).1 m.shops.length) i).2.1 (giveTo m (othersTo (withoutR m).1 m.shops.length) i).2.2 i (m.trains[i]'hi2) = n := by
           rcases Nat.lt_trichotomy n (nAt m (othersTo (withoutR m).1 m.shops.length) (giveTo m (othersTo (withoutR m).1 m.shops.length) i).2.1 (giveTo m (othersTo (withoutR m).1 m.shops.length) i).2.2 i (m.trains[i]'hi2)) with h | h | h
           · have := hN3 n h; rw [hokn] at this; cases this
           · exact h.symm
           · have := hq0 _ h; rw [hN1] at this; cases this
         have hnH : nextH m (othersTo (withoutR m).1 m.shops.length) (giveTo m (othersTo (withoutR m).1 m.shops.length) i).2.1 (giveTo m (othersTo (withoutR m).1 m.shops.length) i).2.2 i (m.trains[i]'hi2) = subAt (giveTo m (othersTo (withoutR m).1 m.shops.length) i).2.1 ((m.trains[i]'hi2).room.toNat) n := by unfold nextH; rw [if_pos hgo, hnn]
         have hnW : nextW m (othersTo (withoutR m).1 m.shops.length) (giveTo m (othersTo (withoutR m).1 m.shops.length) i).2.1 (giveTo m (othersTo (withoutR m).1 m.shops.length) i).2.2 i (m.trains[i]'hi2) = subAt (giveTo m (othersTo (withoutR m).1 m.shops.length) i).2.2 ((m.trains[i]'hi2).shop.toNat) n := by unfold nextW; rw [if_pos hgo, hnn]
         refine w_region ?_
         refine w_pure want_none (y_move (v := v) rfl rfl) rfl ?_
         refine w_pure want_none (y_move (v := .int _ _) rfl rfl) rfl ?_
         refine w_bslice (ps := [(0, _)]) (pv := [(0, .int _ _)]) (cs := [_]) want_none rfl rfl (fun w => Try_Zc_fb7 _ w) hs (fun b120 w121 hs122 => ?_)
         refine w_append (X := (_ :: [])) (B := OB) (rows := [[_]]) (sz := 1) (bytes := 8) want_none Try.underlying30 Try_info3 rfl rfl rfl rfl rfl rfl rfl rfl rfl hs122 hown (sl_own (i := 0) rfl (by simp) rfl) rfl (by simp) (by simp [Value.oneCell']) (by simp only [maxLen]; omega) (by omega) (fun v123 w124 B125 ho126 hs127 => ?_)
         replace hs127 := (show St _ _ (_ :: B125 ++ (Y ++ (_ :: BO ++ (B0 ++ (_ :: F))))) from hs127)
         refine w_pure want_none (y_assign (v := v123) rfl rfl) rfl ?_
         refine w_nil ?_
         refine q_blk_normal ?_
         refine q_then (hK45 _ _ ?_)
         refine w_region ?_
         refine w_pure want_none (y_move (v := .int _ _) rfl rfl) rfl ?_
         refine w_pure want_none (y_add rfl rfl rfl rfl (by omega) (by omega)) rfl ?_
         refine w_pure want_none (y_assign (v := .int _ _) rfl rfl) rfl ?_
         refine w_nil ?_
         refine q_then (hN37 _ _ (Nx.intro (m.trains.length - (i + 1)) (by omega) (by repeat (first | exact agree_mix | refine agree_upd rfl ?_ | refine agree_updL rfl ?_ _ | refine agree_mixin rfl ?_)) ?_))
         have hgs := giveTo_succ (m := m) (shops := (othersTo (withoutR m).1 m.shops.length)) hi2
         exact ⟨i + 1, ah, ch, aw, cw, _, _, Y, by rw [hgs]; dsimp only; rw [hnH, hnW]; rfl, by omega, rfl, by rw [hgs]; exact own_snoc (by rw [hnn]; exact ho126), by rw [hgs]; dsimp only; rw [hnH]; exact hslh, by rw [hgs]; dsimp only; rw [hnW]; exact hslw, rot_out (C := [_]) hs127.tail⟩
      ·
       try simp only [Bool.not_eq_true', Bool.not_eq_false', decide_eq_true_eq, decide_eq_false_iff_not, Int.not_lt, Int.not_le] at h67
       refine w_skip ?_
       refine q_then (hK56 _ _ ?_)
       have hgo : ¬ goesS m (othersTo (withoutR m).1 m.shops.length) (m.trains[i]'hi2) = true := (by unfold goesS; rw [Bool.and_eq_true]; rintro ⟨h1, h2⟩; simp_all)
       have hnn : nAt m (othersTo (withoutR m).1 m.shops.length) (giveTo m (othersTo (withoutR m).1 m.shops.length) i).2.1 (giveTo m (othersTo (withoutR m).1 m.shops.length) i).2.2 i (m.trains[i]'hi2) = 0 := by unfold nAt; rw [if_neg hgo]
       have hnH : nextH m (othersTo (withoutR m).1 m.shops.length) (giveTo m (othersTo (withoutR m).1 m.shops.length) i).2.1 (giveTo m (othersTo (withoutR m).1 m.shops.length) i).2.2 i (m.trains[i]'hi2) = (giveTo m (othersTo (withoutR m).1 m.shops.length) i).2.1 := by unfold nextH; rw [if_neg hgo]
       have hnW : nextW m (othersTo (withoutR m).1 m.shops.length) (giveTo m (othersTo (withoutR m).1 m.shops.length) i).2.1 (giveTo m (othersTo (withoutR m).1 m.shops.length) i).2.2 i (m.trains[i]'hi2) = (giveTo m (othersTo (withoutR m).1 m.shops.length) i).2.2 := by unfold nextW; rw [if_neg hgo]
       refine w_region ?_
       refine w_pure want_none (y_move (v := v) rfl rfl) rfl ?_
       refine w_pure want_none (y_move (v := .int _ _) rfl rfl) rfl ?_
       refine w_bslice (ps := [(0, _)]) (pv := [(0, .int _ _)]) (cs := [_]) want_none rfl rfl (fun w => Try_Zc_fb7 _ w) hs66 (fun b128 w129 hs130 => ?_)
       refine w_append (X := (_ :: _ :: [])) (B := OB) (rows := [[_]]) (sz := 1) (bytes := 8) want_none Try.underlying30 Try_info3 rfl rfl rfl rfl rfl rfl rfl rfl rfl hs130 hown (sl_own (i := 0) rfl (by simp) rfl) rfl (by simp) (by simp [Value.oneCell']) (by simp only [maxLen]; omega) (by omega) (fun v131 w132 B133 ho134 hs135 => ?_)
       replace hs135 := (show St _ _ (_ :: _ :: B133 ++ (Y ++ (BO ++ (B0 ++ (_ :: F))))) from hs135)
       refine w_pure want_none (y_assign (v := v131) rfl rfl) rfl ?_
       refine w_nil ?_
       refine q_blk_normal ?_
       refine q_then (hK45 _ _ ?_)
       refine w_region ?_
       refine w_pure want_none (y_move (v := .int _ _) rfl rfl) rfl ?_
       refine w_pure want_none (y_add rfl rfl rfl rfl (by omega) (by omega)) rfl ?_
       refine w_pure want_none (y_assign (v := .int _ _) rfl rfl) rfl ?_
       refine w_nil ?_
       refine q_then (hN37 _ _ (Nx.intro (m.trains.length - (i + 1)) (by omega) (by repeat (first | exact agree_mix | refine agree_upd rfl ?_ | refine agree_updL rfl ?_ _ | refine agree_mixin rfl ?_)) ?_))
       have hgs := giveTo_succ (m := m) (shops := (othersTo (withoutR m).1 m.shops.length)) hi2
       exact ⟨i + 1, ah, ch, aw, cw, _, _, Y, by rw [hgs]; dsimp only; rw [hnH, hnW]; rfl, by omega, rfl, by rw [hgs]; exact own_snoc (by rw [hnn]; exact ho134), by rw [hgs]; dsimp only; rw [hnH]; exact hslh, by rw [hgs]; dsimp only; rw [hnW]; exact hslw, hs135.tail.tail⟩
     ·
      try simp only [Bool.not_eq_true', Bool.not_eq_false', decide_eq_true_eq, decide_eq_false_iff_not, Int.not_lt, Int.not_le] at h63
      refine w_skipop rfl rfl rfl ?_
      refine w_skipop rfl rfl rfl ?_
      refine w_skipop rfl rfl rfl ?_
      refine w_skipop rfl rfl rfl ?_
      refine w_pure want_none (y_pickF (v := _) rfl rfl rfl rfl) rfl ?_
      refine w_nil ?_
      refine q_then (hK58 _ _ ?_)
      refine w_condF rfl rfl ?_
      refine w_skip ?_
      refine q_then (hK56 _ _ ?_)
      have hgo : ¬ goesS m (othersTo (withoutR m).1 m.shops.length) (m.trains[i]'hi2) = true := (by unfold goesS; rw [Bool.and_eq_true]; rintro ⟨h1, h2⟩; simp_all)
      have hnn : nAt m (othersTo (withoutR m).1 m.shops.length) (giveTo m (othersTo (withoutR m).1 m.shops.length) i).2.1 (giveTo m (othersTo (withoutR m).1 m.shops.length) i).2.2 i (m.trains[i]'hi2) = 0 := by unfold nAt; rw [if_neg hgo]
      have hnH : nextH m (othersTo (withoutR m).1 m.shops.length) (giveTo m (othersTo (withoutR m).1 m.shops.length) i).2.1 (giveTo m (othersTo (withoutR m).1 m.shops.length) i).2.2 i (m.trains[i]'hi2) = (giveTo m (othersTo (withoutR m).1 m.shops.length) i).2.1 := by unfold nextH; rw [if_neg hgo]
      have hnW : nextW m (othersTo (withoutR m).1 m.shops.length) (giveTo m (othersTo (withoutR m).1 m.shops.length) i).2.1 (giveTo m (othersTo (withoutR m).1 m.shops.length) i).2.2 i (m.trains[i]'hi2) = (giveTo m (othersTo (withoutR m).1 m.shops.length) i).2.2 := by unfold nextW; rw [if_neg hgo]
      refine w_region ?_
      refine w_pure want_none (y_move (v := v) rfl rfl) rfl ?_
      refine w_pure want_none (y_move (v := .int _ _) rfl rfl) rfl ?_
      refine w_bslice (ps := [(0, _)]) (pv := [(0, .int _ _)]) (cs := [_]) want_none rfl rfl (fun w => Try_Zc_fb7 _ w) hs62 (fun b136 w137 hs138 => ?_)
      refine w_append (X := (_ :: _ :: [])) (B := OB) (rows := [[_]]) (sz := 1) (bytes := 8) want_none Try.underlying30 Try_info3 rfl rfl rfl rfl rfl rfl rfl rfl rfl hs138 hown (sl_own (i := 0) rfl (by simp) rfl) rfl (by simp) (by simp [Value.oneCell']) (by simp only [maxLen]; omega) (by omega) (fun v139 w140 B141 ho142 hs143 => ?_)
      replace hs143 := (show St _ _ (_ :: _ :: B141 ++ (Y ++ (BO ++ (B0 ++ (_ :: F))))) from hs143)
      refine w_pure want_none (y_assign (v := v139) rfl rfl) rfl ?_
      refine w_nil ?_
      refine q_blk_normal ?_
      refine q_then (hK45 _ _ ?_)
      refine w_region ?_
      refine w_pure want_none (y_move (v := .int _ _) rfl rfl) rfl ?_
      refine w_pure want_none (y_add rfl rfl rfl rfl (by omega) (by omega)) rfl ?_
      refine w_pure want_none (y_assign (v := .int _ _) rfl rfl) rfl ?_
      refine w_nil ?_
      refine q_then (hN37 _ _ (Nx.intro (m.trains.length - (i + 1)) (by omega) (by repeat (first | exact agree_mix | refine agree_upd rfl ?_ | refine agree_updL rfl ?_ _ | refine agree_mixin rfl ?_)) ?_))
      have hgs := giveTo_succ (m := m) (shops := (othersTo (withoutR m).1 m.shops.length)) hi2
      exact ⟨i + 1, ah, ch, aw, cw, _, _, Y, by rw [hgs]; dsimp only; rw [hnH, hnW]; rfl, by omega, rfl, by rw [hgs]; exact own_snoc (by rw [hnn]; exact ho142), by rw [hgs]; dsimp only; rw [hnH]; exact hslh, by rw [hgs]; dsimp only; rw [hnW]; exact hslw, hs143.tail.tail⟩
    ·
     try simp only [Bool.not_eq_true', Bool.not_eq_false', decide_eq_true_eq, decide_eq_false_iff_not, Int.not_lt, Int.not_le] at h44
     refine w_exit ?_
     refine q_then_exit ?_
     refine q_then_exit ?_
     refine q_blk_this ?_
     refine q_then (hK33 _ _ ?_)
     refine w_seq (fun K145 hK144 => ?_)
     refine w_region ?_
     refine w_pure want_none (y_move (v := v) rfl rfl) rfl ?_
     refine w_pure want_none (y_assign (v := v) rfl rfl) rfl ?_
     refine w_pure want_none (y_assign (v := _) rfl rfl) rfl ?_
     refine w_nil ?_
     refine q_then (hK144 _ _ ?_)
     refine w_ret ?_
     refine q_ret (l := [.tmp 2, .tmp 3]) (vs := [_, _]) rfl ⟨⟨rfl, show _ = (v : Value) from rfl⟩, ⟨rfl, show _ = (.int _ _ : Value) from rfl⟩, trivial⟩ ?_
     first
       | (have hq : giveR m = ([], (withoutR m).2) := by unfold giveR; rw [if_pos (by assumption)]
          exact ⟨[], none, 0, by rw [hq]; rfl, by rw [hq]; exact Sl.nil _ _, hs.drop.drop.drop.drop.tail⟩)
       | (have hil : i = m.trains.length := by omega
          subst hil
          have hq : giveR m = ((giveTo m (othersTo (withoutR m).1 m.shops.length) m.trains.length).1, 0) := by unfold giveR; rw [if_neg (by simp [hw0])]
          obtain ⟨ag, cg, rfl, hsg, _, _⟩ := own_ints (w0 := w0) hown
          exact ⟨OB ++ (Y ++ (BO ++ (B0 ++ [_]))), ag, cg, by rw [hq]; rfl, by rw [hq]; exact hsg.top, by simp only [List.append_assoc]; exact hs⟩)

end Go.Proofs
/- Walks of this seat, printed by gen.py over the engine: what each function returns, in whatever world. No conditions but those of each contract. -/
set_option linter.unusedVariables false
set_option linter.unusedSimpArgs false
set_option maxRecDepth 20000
namespace Go.Proofs
open Go.Rt Go.Rt.Sh
attribute [local irreducible] WL WC Con Yd At Ats Sl Agree DW

theorem without_short (m : Market) : (withoutP m).1.length ≤ m.shops.length := by
  unfold withoutP
  split
  · simp
  · exact withoutL_len m
theorem give_short (m : Market) : (giveP m).1.length ≤ m.trains.length := by
  unfold giveP
  by_cases h : (check m).2.2 = 0
  · rw [if_neg (by simp [h])]; show (giveL m).length ≤ _; rw [giveL_len (check_ok h)]; omega
  · rw [if_pos h]; simp
theorem c5 {w0 w : World} {F : List (Nat × Obj)} (m : Market) (p : At3) (hm : MIn w0 F m p)  (hs : St w0 w F) :
  Con Try.prog 5 [.agg (m.cells p).toArray] w fun v w' => v = .bool true ∧ St w0 w' F := by
  refine con_of_wc (n := 47) Try.func5 rfl rfl (Nat.le_of_ble_eq_true rfl) ?_
  have hls := hm.ls
  have hlt := hm.lt
  refine w_seq (fun K2 hK1 => ?_)
  refine w_region ?_
  refine w_box (v := .agg #[.slice _ _ _, .slice _ _ _, .slice _ _ _]) (cs := [_, _, _]) want_none rfl rfl rfl hs (fun b3 w4 hs5 => ?_)
  refine w_pure want_none (y_assign (v := _) rfl rfl) rfl ?_
  refine w_nil ?_
  refine q_then (hK1 _ _ ?_)
  refine w_seq (fun K7 hK6 => ?_)
  have hbx : Ats w0 ((b3, blk 26 (m.cells p)) :: F) b3 0 (m.cells p) := ats_own (i := 0) (vs := m.cells p) rfl rfl
  refine w_region ?_
  refine w_pure want_none (y_loadN (vs := [_, _, _]) Try.isAgg26 Try.sizeOf26 hs5 rfl rfl hbx) rfl ?_
  refine w_call want_none Try.call26 rfl rfl rfl rfl (c26 m _ hm.cons hs5) ?_
  rintro _ w9 ⟨B1, a1, ca1, rfl, hq1, hs10⟩
  replace hs10 := (show St _ _ (B1 ++ (_ :: F)) from hs10)
  refine w_pure want_none (y_move (v := .tuple _) rfl rfl) rfl ?_
  refine w_pure want_none (y_extract (v := .slice _ _ _) rfl rfl rfl) rfl ?_
  refine w_pure want_none (y_extract (v := .int _ _) rfl rfl rfl) rfl ?_
  refine w_pure want_none (y_assign (v := .slice _ _ _) rfl rfl) rfl ?_
  refine w_pure want_none (y_assign (v := .int _ _) rfl rfl) rfl ?_
  refine w_nil ?_
  refine q_then (hK6 _ _ ?_)
  refine w_seq (fun K12 hK11 => ?_)
  refine w_region ?_
  refine w_pure want_none (y_loadN (vs := [_, _, _]) Try.isAgg26 Try.sizeOf26 hs10.drop rfl rfl hbx) rfl ?_
  refine w_call want_none Try.call27 rfl rfl rfl rfl ((c27 m _ hm.cons.app hs10).mono (fun v w' h => by rw [without_same] at h; exact h)) ?_
  rintro _ w14 ⟨B2, a2, ca2, rfl, hq2, hs15⟩
  replace hs15 := (show St _ _ (B2 ++ (B1 ++ (_ :: F))) from hs15)
  refine w_pure want_none (y_move (v := .tuple _) rfl rfl) rfl ?_
  refine w_pure want_none (y_extract (v := .slice _ _ _) rfl rfl rfl) rfl ?_
  refine w_pure want_none (y_extract (v := .int _ _) rfl rfl rfl) rfl ?_
  refine w_pure want_none (y_assign (v := .slice _ _ _) rfl rfl) rfl ?_
  refine w_pure want_none (y_assign (v := .int _ _) rfl rfl) rfl ?_
  refine w_nil ?_
  refine q_then (hK11 _ _ ?_)
  refine w_seq (fun K17 hK16 => ?_)
  refine w_seq (fun K19 hK18 => ?_)
  refine w_region ?_
  refine w_pure want_none (y_move (v := .slice _ _ _) rfl rfl) rfl ?_
  refine w_pure want_none (y_move (v := .slice _ _ _) rfl rfl) rfl ?_
  refine w_call want_none Try.call20 rfl rfl rfl rfl (c20 _ _ (withoutP m).1 (withoutP m).1 _ _ (by have := without_short m; omega) hq1.top.app hq2.top hs15) ?_
  rintro _ w21 ⟨rfl, hs22⟩
  refine w_pure want_none (y_not rfl rfl) rfl ?_
  refine w_pure want_none (y_move (v := .bool _) rfl rfl) rfl ?_
  refine w_split (fun h23 => ?_) (fun h23 => ?_)
  ·
   exfalso; simp at h23
  ·
   try simp only [Bool.not_eq_true', Bool.not_eq_false', decide_eq_true_eq, decide_eq_false_iff_not, Int.not_lt, Int.not_le] at h23
   refine w_pure (want_yes rfl rfl rfl) (y_move (v := .int _ _) rfl rfl) rfl ?_
   refine w_pure (want_yes rfl rfl rfl) (y_move (v := .int _ _) rfl rfl) rfl ?_
   refine w_pure (want_yes rfl rfl rfl) (y_neq rfl rfl rfl rfl) rfl ?_
   refine w_pure want_none (y_pickF (v := .bool _) rfl rfl rfl rfl) rfl ?_
   refine w_nil ?_
   refine q_then (hK18 _ _ ?_)
   refine w_cond rfl rfl (fun h24 => ?_) (fun h24 => ?_)
   ·
    exfalso; simp at h24
   ·
    try simp only [Bool.not_eq_true', Bool.not_eq_false', decide_eq_true_eq, decide_eq_false_iff_not, Int.not_lt, Int.not_le] at h24
    refine w_skip ?_
    refine q_then (hK16 _ _ ?_)
    refine w_seq (fun K26 hK25 => ?_)
    refine w_region ?_
    refine w_pure want_none (y_loadN (vs := [_, _, _]) Try.isAgg26 Try.sizeOf26 hs22.drop.drop rfl rfl hbx) rfl ?_
    refine w_call want_none Try.call28 rfl rfl rfl rfl (c28 m _ hm.cons.app.app hs22) ?_
    rintro _ w28 ⟨B3, a3, ca3, rfl, hq3, hs29⟩
    replace hs29 := (show St _ _ (B3 ++ (B2 ++ (B1 ++ (_ :: F)))) from hs29)
    refine w_pure want_none (y_move (v := .tuple _) rfl rfl) rfl ?_
    refine w_pure want_none (y_extract (v := .slice _ _ _) rfl rfl rfl) rfl ?_
    refine w_pure want_none (y_extract (v := .int _ _) rfl rfl rfl) rfl ?_
    refine w_pure want_none (y_assign (v := .slice _ _ _) rfl rfl) rfl ?_
    refine w_pure want_none (y_assign (v := .int _ _) rfl rfl) rfl ?_
    refine w_nil ?_
    refine q_then (hK25 _ _ ?_)
    refine w_seq (fun K31 hK30 => ?_)
    refine w_region ?_
    refine w_pure want_none (y_loadN (vs := [_, _, _]) Try.isAgg26 Try.sizeOf26 hs29.drop.drop.drop rfl rfl hbx) rfl ?_
    refine w_call want_none Try.call29 rfl rfl rfl rfl ((c29 m _ hm.cons.app.app.app hs29).mono (fun v w' h => by rw [give_same] at h; exact h)) ?_
    rintro _ w33 ⟨B4, a4, ca4, rfl, hq4, hs34⟩
    replace hs34 := (show St _ _ (B4 ++ (B3 ++ (B2 ++ (B1 ++ (_ :: F))))) from hs34)
    refine w_pure want_none (y_move (v := .tuple _) rfl rfl) rfl ?_
    refine w_pure want_none (y_extract (v := .slice _ _ _) rfl rfl rfl) rfl ?_
    refine w_pure want_none (y_extract (v := .int _ _) rfl rfl rfl) rfl ?_
    refine w_pure want_none (y_assign (v := .slice _ _ _) rfl rfl) rfl ?_
    refine w_pure want_none (y_assign (v := .int _ _) rfl rfl) rfl ?_
    refine w_nil ?_
    refine q_then (hK30 _ _ ?_)
    refine w_seq (fun K36 hK35 => ?_)
    refine w_region ?_
    refine w_pure want_none (y_move (v := .slice _ _ _) rfl rfl) rfl ?_
    refine w_pure want_none (y_move (v := .slice _ _ _) rfl rfl) rfl ?_
    refine w_call want_none Try.call20 rfl rfl rfl rfl (c20 _ _ (giveP m).1 (giveP m).1 _ _ (by have := give_short m; omega) hq3.top.app hq4.top hs34) ?_
    rintro _ w38 ⟨rfl, hs39⟩
    refine w_pure want_none (y_move (v := .bool _) rfl rfl) rfl ?_
    refine w_split (fun h40 => ?_) (fun h40 => ?_)
    ·
     try simp only [Bool.not_eq_true', Bool.not_eq_false', decide_eq_true_eq, decide_eq_false_iff_not, Int.not_lt, Int.not_le] at h40
     refine w_pure (want_yes rfl rfl rfl) (y_move (v := .int _ _) rfl rfl) rfl ?_
     refine w_pure (want_yes rfl rfl rfl) (y_move (v := .int _ _) rfl rfl) rfl ?_
     refine w_pure (want_yes rfl rfl rfl) (y_eql rfl rfl rfl rfl) rfl ?_
     refine w_pure want_none (y_pickT (v := .bool _) rfl rfl rfl rfl) rfl ?_
     refine w_pure want_none (y_move (v := .bool _) rfl rfl) rfl ?_
     refine w_split (fun h41 => ?_) (fun h41 => ?_)
     ·
      try simp only [Bool.not_eq_true', Bool.not_eq_false', decide_eq_true_eq, decide_eq_false_iff_not, Int.not_lt, Int.not_le] at h41
      refine w_call (want_yes rfl rfl rfl) Try.call21 rfl rfl rfl rfl (c21 hs39) ?_
      rintro _ w43 ⟨rfl, hs44⟩
      refine w_pure want_none (y_pickT (v := .bool _) rfl rfl rfl rfl) rfl ?_
      refine w_pure want_none (y_assign (v := .bool _) rfl rfl) rfl ?_
      refine w_nil ?_
      refine q_then (hK35 _ _ ?_)
      refine w_ret ?_
      refine q_ret (l := [.tmp 2]) (vs := [_]) rfl ⟨⟨rfl, show _ = (.bool _ : Value) from rfl⟩, trivial⟩ ?_
      exact ⟨rfl, hs44.drop.drop.drop.drop.tail⟩
     ·
      exfalso; simp at h41
    ·
     exfalso; simp at h40

end Go.Proofs
