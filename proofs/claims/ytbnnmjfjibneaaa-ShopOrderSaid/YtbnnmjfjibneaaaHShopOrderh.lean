/- Own texts of this claim, joined. No conditions. -/
import Derived.Test.YtbnnmjfjibneaaaHShopOrdera
import Derived.Test.YtbnnmjfjibneaaaHShopOrderb
import Derived.Test.YtbnnmjfjibneaaaHShopOrderc
import Derived.Test.YtbnnmjfjibneaaaHShopOrderd
import Derived.Test.YtbnnmjfjibneaaaHShopOrdere
import Derived.Test.YtbnnmjfjibneaaaHShopOrderf
import Derived.Test.YtbnnmjfjibneaaaHShopOrderg
/- Walks of this seat, printed by gen.py over the engine: what each function returns, in whatever world. No conditions but those of each contract. -/
set_option linter.unusedVariables false
set_option linter.unusedSimpArgs false
set_option maxRecDepth 20000
namespace Go.Proofs
open Go.Rt Go.Rt.Sh
attribute [local irreducible] WL WC Con Yd At Ats Sl Agree DW
theorem Try_Zm_fb7  (w : World) : (Instr.buildSlice 23 0 [].toArray).run Try.prog w = .ok (.slice (some ⟨w.heap.size, 0, none⟩) 0 0) (w.alloc (Go.Rt.blk 52 [])) := by kernel_rfl
theorem Try_Zm_fb8 (x0 : ByteArray) (x1 : Int) (x2 : Int) (w : World) : (Instr.buildSlice 23 1 [(0, .agg #[.string x0, .int .i64 x1, .int .i64 x2])].toArray).run Try.prog w = .ok (.slice (some ⟨w.heap.size, 0, none⟩) 1 1) (w.alloc (Go.Rt.blk 52 [.string x0, .int .i64 x1, .int .i64 x2])) := by kernel_rfl
theorem Try_Zm_fb9  (w : World) : (Instr.buildSlice 24 0 [].toArray).run Try.prog w = .ok (.slice (some ⟨w.heap.size, 0, none⟩) 0 0) (w.alloc (Go.Rt.blk 63 [])) := by kernel_rfl
theorem Try_Zm_fb10 (x0 : Int) (x1 : Int) (x2 : Int) (x3 : Int) (w : World) : (Instr.buildSlice 24 1 [(0, .agg #[.int .i64 x0, .int .i64 x1, .int .i64 x2, .int .i64 x3])].toArray).run Try.prog w = .ok (.slice (some ⟨w.heap.size, 0, none⟩) 1 1) (w.alloc (Go.Rt.blk 63 [.int .i64 x0, .int .i64 x1, .int .i64 x2, .int .i64 x3])) := by kernel_rfl
theorem Try_info52 : Try.prog.info? 52 = some Try.t52 := by kernel_rfl
theorem own_rows {w0 : World} {a : Option Addr} {t : TypeId} {sz n c : Nat} {rows : List (List Value)} {B : List (Nat × Obj)} (h : Rt.Own (.slice a n c) t sz n rows.flatten B) (hr : ∀ row ∈ rows, row.length = sz) (hn : rows.length = n) : Sl w0 B a sz rows ∧ n ≤ c := by
  rcases h.2 with ⟨h2, h0, rfl⟩ | ⟨b, cap, cs, h2, rfl, h4, _, _, h5⟩
  · injection h2 with e1 e2 e3
    have : rows = [] := List.length_eq_zero_iff.1 (by omega)
    subst this
    exact ⟨Sl.nil _ _, by omega⟩
  · injection h2 with e1 e2 e3
    subst e1
    exact ⟨sl_own (i := 0) rfl hr (by rw [hn]; exact h5), by omega⟩
theorem own_room {a : Option Addr} {t : TypeId} {sz n c : Nat} {xs : List Value} {B : List (Nat × Obj)} (h : Rt.Own (.slice a n c) t sz n xs B) : a = none → c = 0 := by
  intro e
  rcases h.2 with ⟨h2, _, _⟩ | ⟨b, cap, cs, h2, _⟩
  · injection h2
  · injection h2 with e1 _ _; rw [e] at e1; cases e1
theorem srows_row (l : List Shop) : ∀ row ∈ srows l, row.length = 3 := by intro row h; obtain ⟨q, _, rfl⟩ := List.mem_map.1 h; rfl
theorem srows_one (l : List Shop) : ∀ row ∈ srows l, ∀ u ∈ row, u.oneCell' = true := by
  intro row hr u hu
  obtain ⟨f, _, rfl⟩ := List.mem_map.1 hr
  simp only [Shop.cells, List.mem_cons, List.not_mem_nil, or_false] at hu
  rcases hu with rfl | rfl | rfl <;> rfl
theorem keepA {w0 w : World} {x y : Nat × Obj} {B C R : List (Nat × Obj)} (h : St w0 w (x :: (B ++ (y :: (C ++ R))))) : St w0 w (y :: (B ++ R)) := ((h.tail.perm (perm_mid B (y :: C) R)).perm (perm_mid [y] C (B ++ R))).drop
theorem keepB {w0 w : World} {x y : Nat × Obj} {B C R : List (Nat × Obj)} (h : St w0 w (B ++ (x :: y :: (C ++ R)))) : St w0 w (y :: (B ++ R)) := ((show St w0 w (x :: y :: (C ++ (B ++ R))) from h.perm (perm_mid B (x :: y :: C) R)).tail.perm (perm_mid [y] C (B ++ R))).drop
theorem keepC {w0 w : World} {x y z : Nat × Obj} {B C R : List (Nat × Obj)} (h : St w0 w (x :: (B ++ (y :: z :: (C ++ R))))) : St w0 w (z :: (B ++ R)) := ((show St w0 w (y :: z :: (C ++ (B ++ R))) from h.tail.perm (perm_mid B (y :: z :: C) R)).tail.perm (perm_mid [z] C (B ++ R))).drop
theorem keepD {w0 w : World} {x y z : Nat × Obj} {B C R : List (Nat × Obj)} (h : St w0 w (B ++ (x :: y :: z :: (C ++ R)))) : St w0 w (z :: (B ++ R)) := ((show St w0 w (x :: y :: z :: (C ++ (B ++ R))) from h.perm (perm_mid B (x :: y :: z :: C) R)).tail.tail.perm (perm_mid [z] C (B ++ R))).drop
theorem goes_short (m : Market) : (goesP m).1.length ≤ m.trains.length := by
  unfold goesP
  split
  · simp
  · exact goesTo_len m _
theorem more_shops {l : List Shop} {q : Nat} (h : q < l.length) : (srows (l.drop q).reverse).flatten = [] ++ (srows (l.drop (q + 1)).reverse).flatten ++ [(l[q]).cells].flatten := by
  rw [List.drop_eq_getElem_cons h]
  simp only [srows, List.reverse_cons, List.map_append, List.map_cons, List.map_nil, List.flatten_append, List.nil_append]
theorem more_trains {l : List Train} {n i : Nat} (h : i < l.length) : (trows ((l.take (i + 1)).map (backT n))).flatten = [] ++ (trows ((l.take i).map (backT n))).flatten ++ [(backT n l[i]).cells].flatten := by
  rw [List.take_succ_eq_append_getElem h]
  simp only [trows, List.map_append, List.map_cons, List.map_nil, List.flatten_append, List.nil_append]
theorem c15 {w0 w : World} {F : List (Nat × Obj)} (m : Market) (p : At3) (hm : MIn w0 F m p) (hnR : p.ar = none → p.cr = 0) (hnS : p.az = none → p.cs = 0) (hnT : p.at_ = none → p.ct = 0) (x y : Int) (hs : St w0 w F) :
  Con Try.prog 15 [.agg (m.cells p).toArray, .agg #[.int .i64 x, .int .i64 y]] w fun v w' => v = .bool true ∧ St w0 w' F := by
  refine con_of_wc (n := 171) Try.func15 rfl rfl (Nat.le_of_ble_eq_true rfl) ?_
  have hlr0 := hm.lr
  have hls0 := hm.ls
  have hlt0 := hm.lt
  have hgs := goes_short m
  have hgs2 := goes_short (backM m)
  refine w_seq (fun K2 hK1 => ?_)
  refine w_region ?_
  refine w_box (v := .agg #[.slice _ _ _, .slice _ _ _, .slice _ _ _]) (cs := [_, _, _]) want_none rfl rfl rfl hs (fun b3 w4 hs5 => ?_)
  refine w_box (v := .agg #[.int _ _, .int _ _]) (cs := [_, _]) want_none rfl rfl rfl hs5 (fun b6 w7 hs8 => ?_)
  refine w_pure want_none (y_assign (v := _) rfl rfl) rfl ?_
  refine w_nil ?_
  refine q_then (hK1 _ _ ?_)
  refine w_seq (fun K10 hK9 => ?_)
  refine w_seq (fun K12 hK11 => ?_)
  have hbx : Ats w0 ((b3, blk 26 (m.cells p)) :: F) b3 0 (m.cells p) := ats_own (i := 0) (vs := m.cells p) rfl rfl
  have hby : Ats w0 ((b6, blk 41 [.int .i64 x, .int .i64 y]) :: (b3, blk 26 (m.cells p)) :: F) b6 0 [.int .i64 x, .int .i64 y] := ats_own (i := 0) (vs := [_, _]) rfl rfl
  refine w_region ?_
  refine w_pure want_none (y_loadN (vs := [_, _, _]) Try.isAgg26 Try.sizeOf26 hs8.tail rfl rfl hbx) rfl ?_
  refine w_call want_none Try.call35 rfl rfl rfl rfl (c35 m _ hm.cons.cons hs8) ?_
  rintro _ w14 ⟨rfl, hs15⟩
  refine w_pure want_none (y_not rfl rfl) rfl ?_
  refine w_nil ?_
  refine q_then (hK11 _ _ ?_)
  refine w_cond rfl rfl (fun h16 => ?_) (fun h16 => ?_)
  ·
   try simp only [Bool.not_eq_true', Bool.not_eq_false', decide_eq_true_eq, decide_eq_false_iff_not, Int.not_lt, Int.not_le] at h16
   refine w_seq (fun K18 hK17 => ?_)
   refine w_region ?_
   refine w_call want_none Try.call21 rfl rfl rfl rfl (c21 hs15) ?_
   rintro _ w20 ⟨rfl, hs21⟩
   refine w_pure want_none (y_assign (v := .bool _) rfl rfl) rfl ?_
   refine w_nil ?_
   refine q_then (hK17 _ _ ?_)
   refine w_ret ?_
   refine q_then_ret ?_
   refine q_ret (l := [.tmp 4]) (vs := [_]) rfl ⟨⟨rfl, show _ = (.bool _ : Value) from rfl⟩, trivial⟩ ?_
   exact ⟨rfl, hs21.tail.tail⟩
  ·
   try simp only [Bool.not_eq_true', Bool.not_eq_false', decide_eq_true_eq, decide_eq_false_iff_not, Int.not_lt, Int.not_le] at h16
   refine w_skip ?_
   refine q_then (hK9 _ _ ?_)
   refine w_seq (fun K23 hK22 => ?_)
   have hck : (check m).2.2 = 0 := by first | assumption | (refine Decidable.byContradiction fun h0 => ?_; simp_all)
   have hok := check_ok hck
   have hlr := hok.lr
   have hls := hok.ls
   have hlt := hok.lt
   refine w_region ?_
   refine w_pure want_none (y_fieldAddr (o := 1) (i := 1) Try.underlying26 rfl Try.sizeOf23 rfl rfl rfl) rfl ?_
   refine w_pure want_none (y_load1 Try.isAgg23 hs15.tail rfl rfl (show Ats _ _ _ _ [_] from Ats.part hbx 1 1)) rfl ?_
   refine w_pure want_none (y_lenS Try.underlying23 rfl rfl) rfl ?_
   refine w_pure want_none (y_assign (v := .int _ _) rfl rfl) rfl ?_
   refine w_nil ?_
   refine q_then (hK22 _ _ ?_)
   refine w_seq (fun K25 hK24 => ?_)
   refine w_region ?_
   refine w_pure want_none (y_loadN (vs := [_, _, _]) Try.isAgg26 Try.sizeOf26 hs15.tail rfl rfl hbx) rfl ?_
   refine w_alloc (cs := [_, _, _]) want_none Try.zeroValue26 rfl hs15 (fun b26 w27 hs28 => ?_)
   refine w_store (i := 0) (v := .agg #[.slice _ _ _, .slice _ _ _, .slice _ _ _]) (vs := [_, _, _]) want_none Try.sizeOf26 rfl rfl rfl rfl rfl (by simp [Value.oneCell']) hs28 rfl (Nat.le_of_ble_eq_true rfl) (fun w29 hs30 => ?_)
   refine w_nil ?_
   refine q_then (hK24 _ _ ?_)
   refine w_seq (fun K32 hK31 => ?_)
   refine w_region ?_
   refine w_pure want_none (y_fieldAddr (o := 1) (i := 1) Try.underlying26 rfl Try.sizeOf23 rfl rfl rfl) rfl ?_
   refine w_store (i := 0) (v := .slice _ _ _) (vs := [_]) want_none Try.sizeOf23 rfl rfl rfl rfl rfl (by simp [Value.oneCell']) hs30 rfl (Nat.le_of_ble_eq_true rfl) (fun w33 hs34 => ?_)
   refine w_pure want_none (y_fieldAddr (o := 2) (i := 2) Try.underlying26 rfl Try.sizeOf24 rfl rfl rfl) rfl ?_
   refine w_store (i := 0) (v := .slice _ _ _) (vs := [_]) want_none Try.sizeOf24 rfl rfl rfl rfl rfl (by simp [Value.oneCell']) hs34 rfl (Nat.le_of_ble_eq_true rfl) (fun w35 hs36 => ?_)
   refine w_nil ?_
   refine q_then (hK31 _ _ ?_)
   refine w_seq (fun K38 hK37 => ?_)
   refine w_seq (fun K40 hK39 => ?_)
   refine w_region ?_
   refine w_pure want_none (y_move (v := .int _ _) rfl rfl) rfl ?_
   refine w_pure want_none (y_sub rfl rfl rfl rfl (by omega) (by omega)) rfl ?_
   refine w_pure want_none (y_assign (v := .int _ _) rfl rfl) rfl ?_
   refine w_nil ?_
   refine q_then (hK39 _ _ ?_)
   refine w_block ?_
   refine w_loop [7, 38, 39, 40, 41, 42, 43, 44, 45, 46, 47, 48, 49, 50, 51, 52, 53] [7] (fun kk vs0 w => ∃ (q c : Nat) (aS : Option Addr) (cS : Nat) (BS : List (Nat × Obj)), vs0 = [.int .i64 ((q : Int) - 1)] ∧ c + q = m.shops.length ∧ q = kk ∧ Rt.Own (.slice aS c cS) 52 3 c (srows (m.shops.drop q).reverse).flatten BS ∧ St w0 w ((b26, blk 26 [.slice p.ar m.rooms.length p.cr, .slice aS c cS, .slice none 0 0]) :: (BS ++ ((b6, blk 41 [.int .i64 x, .int .i64 y]) :: (b3, blk 26 (m.cells p)) :: F)))) (m.shops.length) ?_ ?_
   ·
    exact ⟨m.shops.length, 0, none, 0, [], rfl, by omega, rfl, by rw [List.drop_length]; exact own_nil 52 3, hs36⟩
   ·
    intro k vs μ w43 hI K42 hN41
    obtain ⟨q, c, aS, cS, BS, rfl, hqc, rfl, hown, hs⟩ := hI
    refine w_seq (fun K45 hK44 => ?_)
    refine w_seq (fun K47 hK46 => ?_)
    refine w_region ?_
    refine w_pure want_none (y_move (v := .int _ _) rfl rfl) rfl ?_
    refine w_pure want_none (y_geq rfl rfl rfl rfl) rfl ?_
    refine w_nil ?_
    refine q_then (hK46 _ _ ?_)
    refine w_cond rfl rfl (fun h48 => ?_) (fun h48 => ?_)
    ·
     try simp only [Bool.not_eq_true', Bool.not_eq_false', decide_eq_true_eq, decide_eq_false_iff_not, Int.not_lt, Int.not_le] at h48
     refine w_skip ?_
     refine q_then (hK44 _ _ ?_)
     refine w_seq (fun K50 hK49 => ?_)
     refine w_block ?_
     obtain ⟨r, rfl⟩ : ∃ r, q = r + 1 := ⟨q - 1, by omega⟩
     have hr2 : r < m.shops.length := by omega
     obtain ⟨bs, os, hbs, hxs⟩ := sl_srows hm.s hr2
     have rS := (own_rows (w0 := w0) hown (srows_row _) (by simp [srows]; omega))
     refine w_drawT (C := fun w => St w0 w _) [12] (.two [(1, 0), (2, 1), (4, 0), (5, 1), (6, 0), (7, 0), (8, 1)] 0 9 (.two [] 3 9 (.done [(9, 2), (10, 2), (11, 0), (12, 3)]) (.done [(3, 2), (10, 2), (11, 0), (12, 3)])) (.done [(0, 2), (3, 2), (10, 2), (11, 0), (12, 3)])) Try_mo (by kernel_rfl) hs (fun _ h => h.drew) (fun w51 hs52 => ?_)
     refine dt_two ?_
     refine d_any rfl want_none rfl (fun _ => (y_fieldAddr (o := 1) (i := 1) Try.underlying26 rfl Try.sizeOf23 rfl rfl rfl)) ?_
     refine d_take rfl want_none rfl hs52 (fun _ hq => (y_load1 Try.isAgg23 hq rfl rfl (ats_own (i := 0) (vs := [_]) rfl rfl))) ?_
     refine d_any rfl want_none rfl (fun _ => (y_fieldAddr (o := 1) (i := 1) Try.underlying26 rfl Try.sizeOf23 rfl rfl rfl)) ?_
     refine d_take rfl want_none rfl hs52 (fun _ hq => (yd_slice hbs (y_load1 Try.isAgg23 hq.tail.drop.tail rfl rfl (show Ats _ _ _ _ [_] from Ats.part hbx 1 1)))) ?_
     refine d_any rfl want_none rfl (fun _ => (y_move (v := .int _ _) rfl rfl)) ?_
     refine d_any rfl want_none rfl (fun _ => (y_indexS Try.underlying23 Try.sizeOf52 rfl rfl rfl rfl (i := r) (by omega) (by omega))) ?_
     refine d_take rfl want_none rfl hs52 (fun _ hq => (y_loadN (vs := [_, _, _]) Try.isAgg52 Try.sizeOf52 hq.tail.drop.tail.tail rfl rfl hxs)) ?_
     refine d_two rfl rfl ?_ ?_
     ·
      refine w_bslice (ps := []) (pv := []) (cs := []) want_none rfl rfl (fun w => Try_Zm_fb7  w) hs52 (fun b53 w54 hs55 => ?_)
      refine w_nil ?_
      refine qn ⟨hs55.tail, ?_⟩
      refine dt_two ?_
      refine d_two rfl rfl ?_ ?_
      ·
       refine w_append (X := ([])) (B := [_]) (rows := (srows (m.shops.drop (r + 1)).reverse)) (sz := 3) (bytes := 32) want_none Try.underlying23 Try_info52 rfl rfl rfl rfl rfl rfl rfl rfl rfl hs55 own_made rS.1.top.cons.cons (by simp [srows]; omega) (own_room hown) (srows_one _) (by simp only [maxLen]; omega) (by omega) (fun v56 w57 B58 ho59 hs60 => ?_)
       replace hs60 := (show St _ _ (B58 ++ (_ :: BS ++ (_ :: _ :: F))) from hs60)
       refine w_nil ?_
       refine qn ⟨hs60.drop, ?_⟩
       refine dt_done ?_
       refine d_eff rfl ?_
       refine w_bslice (ps := [(0, _)]) (pv := [(0, .agg #[.string _, .int _ _, .int _ _])]) (cs := [_, _, _]) want_none rfl rfl (fun w => Try_Zm_fb8 _ _ _ w) hs60 (fun b61 w62 hs63 => ?_)
       refine w_nil ?_
       refine qn ⟨hs63.tail.drop, ?_⟩
       refine d_eff rfl ?_
       refine w_append (X := (_ :: [])) (B := B58) (rows := [[_, _, _]]) (sz := 3) (bytes := 32) want_none Try.underlying23 Try_info52 rfl rfl rfl rfl rfl rfl rfl rfl rfl hs63 ho59 (sl_own (i := 0) rfl (by simp) rfl) rfl (by simp) (by simp [Value.oneCell']) (by simp only [maxLen]; omega) (by omega) (fun v64 w65 B66 ho67 hs68 => ?_)
       replace hs68 := (show St _ _ (_ :: B66 ++ (_ :: BS ++ (_ :: _ :: F))) from hs68)
       refine w_nil ?_
       refine qn ⟨hs68.tail.drop, ?_⟩
       have hA : Rt.Own v64 52 3 (c + 1) (srows (m.shops.drop r).reverse).flatten B66 := by
         have h9 := ho67
         rw [Nat.zero_add] at h9
         rw [more_shops hr2]; exact h9
       obtain ⟨aN, cN, rfl⟩ := hA.slice
       replace hs68 := keepA hs68
       refine d_any rfl want_none rfl (fun _ => (y_fieldAddr (o := 1) (i := 1) Try.underlying26 rfl Try.sizeOf23 rfl rfl rfl)) ?_
       refine d_late rfl ?_
       refine w_store (i := 0) (v := .slice _ _ _) (vs := [_]) want_none Try.sizeOf23 rfl rfl rfl rfl rfl (by simp [Value.oneCell']) hs68 rfl (Nat.le_of_ble_eq_true rfl) (fun w69 hs70 => ?_)
       refine w_nil ?_
       refine qn ?_
       refine d_nil ?_
       refine q_blk_normal ?_
       refine q_then (hK49 _ _ ?_)
       refine w_region ?_
       refine w_pure want_none (y_move (v := .int _ _) rfl rfl) rfl ?_
       refine w_pure want_none (y_sub rfl rfl rfl rfl (by omega) (by omega)) rfl ?_
       refine w_pure want_none (y_assign (v := .int _ _) rfl rfl) rfl ?_
       refine w_nil ?_
       refine q_then (hN41 _ _ (Nx.intro (r) (by omega) (by repeat (first | exact agree_mix | refine agree_upd rfl ?_ | refine agree_updL rfl ?_ _ | refine agree_mixin rfl ?_)) ?_))
       exact ⟨r, c + 1, aN, cN, _, by show [Value.int .i64 _] = [Value.int .i64 _]; exact congrArg (fun z : Int => [Value.int .i64 z]) (by omega), by omega, rfl, hA, hs70⟩
      ·
       refine w_bslice (ps := [(0, _)]) (pv := [(0, .agg #[.string _, .int _ _, .int _ _])]) (cs := [_, _, _]) want_none rfl rfl (fun w => Try_Zm_fb8 _ _ _ w) hs55 (fun b71 w72 hs73 => ?_)
       refine w_nil ?_
       refine qn ⟨hs73.tail.tail, ?_⟩
       refine dt_done ?_
       refine d_eff rfl ?_
       refine w_append (X := (_ :: [])) (B := [_]) (rows := (srows (m.shops.drop (r + 1)).reverse)) (sz := 3) (bytes := 32) want_none Try.underlying23 Try_info52 rfl rfl rfl rfl rfl rfl rfl rfl rfl hs73 own_made rS.1.top.cons.cons.cons (by simp [srows]; omega) (own_room hown) (srows_one _) (by simp only [maxLen]; omega) (by omega) (fun v74 w75 B76 ho77 hs78 => ?_)
       replace hs78 := (show St _ _ (_ :: B76 ++ (_ :: BS ++ (_ :: _ :: F))) from hs78)
       refine w_nil ?_
       refine qn ⟨hs78.tail.drop, ?_⟩
       refine d_eff rfl ?_
       refine w_append (X := (_ :: [])) (B := B76) (rows := [[_, _, _]]) (sz := 3) (bytes := 32) want_none Try.underlying23 Try_info52 rfl rfl rfl rfl rfl rfl rfl rfl rfl hs78 ho77 (sl_own (i := 0) rfl (by simp) rfl) rfl (by simp) (by simp [Value.oneCell']) (by simp only [maxLen]; omega) (by omega) (fun v79 w80 B81 ho82 hs83 => ?_)
       replace hs83 := (show St _ _ (_ :: B81 ++ (_ :: BS ++ (_ :: _ :: F))) from hs83)
       refine w_nil ?_
       refine qn ⟨hs83.tail.drop, ?_⟩
       have hA : Rt.Own v79 52 3 (c + 1) (srows (m.shops.drop r).reverse).flatten B81 := by
         have h9 := ho82
         rw [Nat.zero_add] at h9
         rw [more_shops hr2]; exact h9
       obtain ⟨aN, cN, rfl⟩ := hA.slice
       replace hs83 := keepA hs83
       refine d_any rfl want_none rfl (fun _ => (y_fieldAddr (o := 1) (i := 1) Try.underlying26 rfl Try.sizeOf23 rfl rfl rfl)) ?_
       refine d_late rfl ?_
       refine w_store (i := 0) (v := .slice _ _ _) (vs := [_]) want_none Try.sizeOf23 rfl rfl rfl rfl rfl (by simp [Value.oneCell']) hs83 rfl (Nat.le_of_ble_eq_true rfl) (fun w84 hs85 => ?_)
       refine w_nil ?_
       refine qn ?_
       refine d_nil ?_
       refine q_blk_normal ?_
       refine q_then (hK49 _ _ ?_)
       refine w_region ?_
       refine w_pure want_none (y_move (v := .int _ _) rfl rfl) rfl ?_
       refine w_pure want_none (y_sub rfl rfl rfl rfl (by omega) (by omega)) rfl ?_
       refine w_pure want_none (y_assign (v := .int _ _) rfl rfl) rfl ?_
       refine w_nil ?_
       refine q_then (hN41 _ _ (Nx.intro (r) (by omega) (by repeat (first | exact agree_mix | refine agree_upd rfl ?_ | refine agree_updL rfl ?_ _ | refine agree_mixin rfl ?_)) ?_))
       exact ⟨r, c + 1, aN, cN, _, by show [Value.int .i64 _] = [Value.int .i64 _]; exact congrArg (fun z : Int => [Value.int .i64 z]) (by omega), by omega, rfl, hA, hs85⟩
     ·
      refine w_bslice (ps := [(0, _)]) (pv := [(0, .agg #[.string _, .int _ _, .int _ _])]) (cs := [_, _, _]) want_none rfl rfl (fun w => Try_Zm_fb8 _ _ _ w) hs52 (fun b86 w87 hs88 => ?_)
      refine w_nil ?_
      refine qn ⟨hs88.tail, ?_⟩
      refine dt_done ?_
      refine d_eff rfl ?_
      refine w_bslice (ps := []) (pv := []) (cs := []) want_none rfl rfl (fun w => Try_Zm_fb7  w) hs88 (fun b89 w90 hs91 => ?_)
      refine w_nil ?_
      refine qn ⟨hs91.tail.tail, ?_⟩
      refine d_eff rfl ?_
      refine w_append (X := ([])) (B := [_]) (rows := (srows (m.shops.drop (r + 1)).reverse)) (sz := 3) (bytes := 32) want_none Try.underlying23 Try_info52 rfl rfl rfl rfl rfl rfl rfl rfl rfl hs91 own_made rS.1.top.cons.cons.cons (by simp [srows]; omega) (own_room hown) (srows_one _) (by simp only [maxLen]; omega) (by omega) (fun v92 w93 B94 ho95 hs96 => ?_)
      replace hs96 := (show St _ _ (B94 ++ (_ :: _ :: BS ++ (_ :: _ :: F))) from hs96)
      refine w_nil ?_
      refine qn ⟨hs96.drop.tail, ?_⟩
      refine d_eff rfl ?_
      refine w_append (X := ([])) (B := B94) (rows := [[_, _, _]]) (sz := 3) (bytes := 32) want_none Try.underlying23 Try_info52 rfl rfl rfl rfl rfl rfl rfl rfl rfl hs96 ho95 (show Sl _ (B94 ++ _) _ _ _ from Sl.app (sl_own (i := 0) rfl (by simp) rfl)) rfl (by simp) (by simp [Value.oneCell']) (by simp only [maxLen]; omega) (by omega) (fun v97 w98 B99 ho100 hs101 => ?_)
      replace hs101 := (show St _ _ (B99 ++ (_ :: _ :: BS ++ (_ :: _ :: F))) from hs101)
      refine w_nil ?_
      refine qn ⟨hs101.drop.tail, ?_⟩
      have hA : Rt.Own v97 52 3 (c + 1) (srows (m.shops.drop r).reverse).flatten B99 := by
        have h9 := ho100
        rw [Nat.zero_add] at h9
        rw [more_shops hr2]; exact h9
      obtain ⟨aN, cN, rfl⟩ := hA.slice
      replace hs101 := keepB hs101
      refine d_any rfl want_none rfl (fun _ => (y_fieldAddr (o := 1) (i := 1) Try.underlying26 rfl Try.sizeOf23 rfl rfl rfl)) ?_
      refine d_late rfl ?_
      refine w_store (i := 0) (v := .slice _ _ _) (vs := [_]) want_none Try.sizeOf23 rfl rfl rfl rfl rfl (by simp [Value.oneCell']) hs101 rfl (Nat.le_of_ble_eq_true rfl) (fun w102 hs103 => ?_)
      refine w_nil ?_
      refine qn ?_
      refine d_nil ?_
      refine q_blk_normal ?_
      refine q_then (hK49 _ _ ?_)
      refine w_region ?_
      refine w_pure want_none (y_move (v := .int _ _) rfl rfl) rfl ?_
      refine w_pure want_none (y_sub rfl rfl rfl rfl (by omega) (by omega)) rfl ?_
      refine w_pure want_none (y_assign (v := .int _ _) rfl rfl) rfl ?_
      refine w_nil ?_
      refine q_then (hN41 _ _ (Nx.intro (r) (by omega) (by repeat (first | exact agree_mix | refine agree_upd rfl ?_ | refine agree_updL rfl ?_ _ | refine agree_mixin rfl ?_)) ?_))
      exact ⟨r, c + 1, aN, cN, _, by show [Value.int .i64 _] = [Value.int .i64 _]; exact congrArg (fun z : Int => [Value.int .i64 z]) (by omega), by omega, rfl, hA, hs103⟩
    ·
     try simp only [Bool.not_eq_true', Bool.not_eq_false', decide_eq_true_eq, decide_eq_false_iff_not, Int.not_lt, Int.not_le] at h48
     refine w_exit ?_
     refine q_then_exit ?_
     refine q_then_exit ?_
     refine q_blk_this ?_
     refine q_then (hK37 _ _ ?_)
     refine w_seq (fun K105 hK104 => ?_)
     refine w_seq (fun K107 hK106 => ?_)
     have hq0 : q = 0 := by omega
     subst hq0
     obtain rfl : c = m.shops.length := by omega
     rw [List.drop_zero] at hown
     refine w_region ?_
     refine w_pure want_none (y_assign (v := _) rfl rfl) rfl ?_
     refine w_nil ?_
     refine q_then (hK106 _ _ ?_)
     refine w_block ?_
     refine w_loop [8, 9, 54, 55, 56, 57, 58, 59, 60, 61, 62, 63, 64, 65, 66, 67, 68, 69, 70, 71, 72, 73, 74, 75, 76, 77, 78, 79] [8] (fun kk vs0 w => ∃ (i : Nat) (aT : Option Addr) (cT : Nat) (BT : List (Nat × Obj)), vs0 = [.int .i64 i] ∧ i ≤ m.trains.length ∧ kk = m.trains.length - i ∧ Rt.Own (.slice aT i cT) 63 4 i (trows ((m.trains.take i).map (backT m.shops.length))).flatten BT ∧ St w0 w ((b26, blk 26 [.slice p.ar m.rooms.length p.cr, .slice aS m.shops.length cS, .slice aT i cT]) :: (BT ++ (BS ++ ((b6, blk 41 [.int .i64 x, .int .i64 y]) :: (b3, blk 26 (m.cells p)) :: F))))) (m.trains.length) ?_ ?_
     ·
      exact ⟨0, none, 0, [], rfl, by omega, by omega, own_nil 63 4, hs⟩
     ·
      intro k vs μ w110 hI K109 hN108
      obtain ⟨i, aT, cT, BT, rfl, hia, rfl, hown2, hs⟩ := hI
      refine w_seq (fun K112 hK111 => ?_)
      refine w_seq (fun K114 hK113 => ?_)
      refine w_region ?_
      refine w_pure want_none (y_move (v := .int _ _) rfl rfl) rfl ?_
      refine w_pure want_none (y_fieldAddr (o := 2) (i := 2) Try.underlying26 rfl Try.sizeOf24 rfl rfl rfl) rfl ?_
      refine w_pure want_none (y_load1 Try.isAgg24 hs.tail.drop.drop.tail rfl rfl (show Ats _ _ _ _ [_] from Ats.part hbx 2 1)) rfl ?_
      refine w_pure want_none (y_lenS Try.underlying24 rfl rfl) rfl ?_
      refine w_pure want_none (y_lss rfl rfl rfl rfl) rfl ?_
      refine w_nil ?_
      refine q_then (hK113 _ _ ?_)
      refine w_cond rfl rfl (fun h115 => ?_) (fun h115 => ?_)
      ·
       try simp only [Bool.not_eq_true', Bool.not_eq_false', decide_eq_true_eq, decide_eq_false_iff_not, Int.not_lt, Int.not_le] at h115
       refine w_skip ?_
       refine q_then (hK111 _ _ ?_)
       refine w_seq (fun K117 hK116 => ?_)
       refine w_block ?_
       refine w_seq (fun K119 hK118 => ?_)
       have hi2 : i < m.trains.length := by omega
       have htr := hok.train _ (List.getElem_mem hi2)
       obtain ⟨bt, ot, hbt, hxt⟩ := sl_trows hm.t hi2
       have rT := (own_rows (w0 := w0) hown2 (trows_row _) (by simp [trows]; omega))
       refine w_region ?_
       refine w_pure want_none (y_fieldAddr (o := 2) (i := 2) Try.underlying26 rfl Try.sizeOf24 rfl rfl rfl) rfl ?_
       refine w_pure want_none (yd_slice hbt (y_load1 Try.isAgg24 hs.tail.drop.drop.tail rfl rfl (show Ats _ _ _ _ [_] from Ats.part hbx 2 1))) rfl ?_
       refine w_pure want_none (y_move (v := .int _ _) rfl rfl) rfl ?_
       refine w_pure want_none (y_indexS Try.underlying24 Try.sizeOf63 rfl rfl rfl rfl (i := i) (by omega) (by omega)) rfl ?_
       refine w_pure want_none (y_loadN (vs := [_, _, _, _]) Try.isAgg63 Try.sizeOf63 hs.tail.drop.drop.tail.tail rfl rfl hxt) rfl ?_
       refine w_alloc (cs := [_, _, _, _]) want_none Try.zeroValue63 rfl hs (fun b120 w121 hs122 => ?_)
       refine w_store (i := 0) (v := .agg #[.int _ _, .int _ _, .int _ _, .int _ _]) (vs := [_, _, _, _]) want_none Try.sizeOf63 rfl rfl rfl rfl rfl (by simp [Value.oneCell']) hs122 rfl (Nat.le_of_ble_eq_true rfl) (fun w123 hs124 => ?_)
       refine w_nil ?_
       refine q_then (hK118 _ _ ?_)
       refine w_seq (fun K126 hK125 => ?_)
       refine w_region ?_
       refine w_pure want_none (y_move (v := .int _ _) rfl rfl) rfl ?_
       refine w_pure want_none (y_sub rfl rfl rfl rfl (by omega) (by omega)) rfl ?_
       refine w_pure want_none (y_fieldAddr (o := 1) (i := 1) Try.underlying63 rfl Try.sizeOf3 rfl rfl rfl) rfl ?_
       refine w_pure want_none (y_load1 Try.isAgg3 hs124 rfl rfl (ats_own (i := 0) (vs := [_]) rfl rfl)) rfl ?_
       refine w_pure want_none (y_sub rfl rfl rfl rfl (by omega) (by omega)) rfl ?_
       refine w_pure want_none (y_fieldAddr (o := 1) (i := 1) Try.underlying63 rfl Try.sizeOf3 rfl rfl rfl) rfl ?_
       refine w_store (i := 0) (v := .int _ _) (vs := [_]) want_none Try.sizeOf3 rfl rfl rfl rfl rfl (by simp [Value.oneCell']) hs124 rfl (Nat.le_of_ble_eq_true rfl) (fun w127 hs128 => ?_)
       refine w_nil ?_
       refine q_then (hK125 _ _ ?_)
       refine w_drawT (C := fun w => St w0 w _) [8] (.two [(1, 0), (2, 1), (4, 1)] 0 5 (.two [] 3 5 (.done [(5, 2), (6, 2), (7, 0), (8, 3)]) (.done [(3, 2), (6, 2), (7, 0), (8, 3)])) (.done [(0, 2), (3, 2), (6, 2), (7, 0), (8, 3)])) Try_mo (by kernel_rfl) hs128 (fun _ h => h.drew) (fun w129 hs130 => ?_)
       refine dt_two ?_
       refine d_any rfl want_none rfl (fun _ => (y_fieldAddr (o := 2) (i := 2) Try.underlying26 rfl Try.sizeOf24 rfl rfl rfl)) ?_
       refine d_take rfl want_none rfl hs130 (fun _ hq => (y_load1 Try.isAgg24 hq rfl rfl (ats_own (i := 1) (vs := [_]) rfl rfl))) ?_
       refine d_take rfl want_none rfl hs130 (fun _ hq => (y_loadN (vs := [_, _, _, _]) Try.isAgg63 Try.sizeOf63 hq rfl rfl (ats_own (i := 0) (vs := [_, _, _, _]) rfl rfl))) ?_
       refine d_two rfl rfl ?_ ?_
       ·
        refine w_bslice (ps := []) (pv := []) (cs := []) want_none rfl rfl (fun w => Try_Zm_fb9  w) hs130 (fun b131 w132 hs133 => ?_)
        refine w_nil ?_
        refine qn ⟨hs133.tail, ?_⟩
        refine dt_two ?_
        refine d_two rfl rfl ?_ ?_
        ·
         refine w_append (X := ([])) (B := [_]) (rows := (trows ((m.trains.take i).map (backT m.shops.length)))) (sz := 4) (bytes := 32) want_none Try.underlying24 Try_info63 rfl rfl rfl rfl rfl rfl rfl rfl rfl hs133 own_made rT.1.top.cons.cons.cons (by simp [trows]; omega) (own_room hown2) (trows_one _) (by simp only [maxLen]; omega) (by omega) (fun v134 w135 B136 ho137 hs138 => ?_)
         replace hs138 := (show St _ _ (B136 ++ (_ :: _ :: BT ++ (BS ++ (_ :: _ :: F)))) from hs138)
         refine w_nil ?_
         refine qn ⟨hs138.drop, ?_⟩
         refine dt_done ?_
         refine d_eff rfl ?_
         refine w_bslice (ps := [(0, _)]) (pv := [(0, .agg #[.int _ _, .int _ _, .int _ _, .int _ _])]) (cs := [_, _, _, _]) want_none rfl rfl (fun w => Try_Zm_fb10 _ _ _ _ w) hs138 (fun b139 w140 hs141 => ?_)
         refine w_nil ?_
         refine qn ⟨hs141.tail.drop, ?_⟩
         refine d_eff rfl ?_
         refine w_append (X := (_ :: [])) (B := B136) (rows := [[_, _, _, _]]) (sz := 4) (bytes := 32) want_none Try.underlying24 Try_info63 rfl rfl rfl rfl rfl rfl rfl rfl rfl hs141 ho137 (sl_own (i := 0) rfl (by simp) rfl) rfl (by simp) (by simp [Value.oneCell']) (by simp only [maxLen]; omega) (by omega) (fun v142 w143 B144 ho145 hs146 => ?_)
         replace hs146 := (show St _ _ (_ :: B144 ++ (_ :: _ :: BT ++ (BS ++ (_ :: _ :: F)))) from hs146)
         refine w_nil ?_
         refine qn ⟨hs146.tail.drop, ?_⟩
         have hA : Rt.Own v142 63 4 (i + 1) (trows ((m.trains.take (i + 1)).map (backT m.shops.length))).flatten B144 := by
           have h9 := ho145
           rw [Nat.zero_add] at h9
           rw [more_trains hi2]; exact h9
         obtain ⟨aN, cN, rfl⟩ := hA.slice
         replace hs146 := keepC hs146
         refine d_any rfl want_none rfl (fun _ => (y_fieldAddr (o := 2) (i := 2) Try.underlying26 rfl Try.sizeOf24 rfl rfl rfl)) ?_
         refine d_late rfl ?_
         refine w_store (i := 0) (v := .slice _ _ _) (vs := [_]) want_none Try.sizeOf24 rfl rfl rfl rfl rfl (by simp [Value.oneCell']) hs146 rfl (Nat.le_of_ble_eq_true rfl) (fun w147 hs148 => ?_)
         refine w_nil ?_
         refine qn ?_
         refine d_nil ?_
         refine q_blk_normal ?_
         refine q_then (hK116 _ _ ?_)
         refine w_region ?_
         refine w_pure want_none (y_move (v := .int _ _) rfl rfl) rfl ?_
         refine w_pure want_none (y_add rfl rfl rfl rfl (by omega) (by omega)) rfl ?_
         refine w_pure want_none (y_assign (v := .int _ _) rfl rfl) rfl ?_
         refine w_nil ?_
         refine q_then (hN108 _ _ (Nx.intro (m.trains.length - (i + 1)) (by omega) (by repeat (first | exact agree_mix | refine agree_upd rfl ?_ | refine agree_updL rfl ?_ _ | refine agree_mixin rfl ?_)) ?_))
         exact ⟨i + 1, aN, cN, _, rfl, by omega, rfl, hA, hs148⟩
        ·
         refine w_bslice (ps := [(0, _)]) (pv := [(0, .agg #[.int _ _, .int _ _, .int _ _, .int _ _])]) (cs := [_, _, _, _]) want_none rfl rfl (fun w => Try_Zm_fb10 _ _ _ _ w) hs133 (fun b149 w150 hs151 => ?_)
         refine w_nil ?_
         refine qn ⟨hs151.tail.tail, ?_⟩
         refine dt_done ?_
         refine d_eff rfl ?_
         refine w_append (X := (_ :: [])) (B := [_]) (rows := (trows ((m.trains.take i).map (backT m.shops.length)))) (sz := 4) (bytes := 32) want_none Try.underlying24 Try_info63 rfl rfl rfl rfl rfl rfl rfl rfl rfl hs151 own_made rT.1.top.cons.cons.cons.cons (by simp [trows]; omega) (own_room hown2) (trows_one _) (by simp only [maxLen]; omega) (by omega) (fun v152 w153 B154 ho155 hs156 => ?_)
         replace hs156 := (show St _ _ (_ :: B154 ++ (_ :: _ :: BT ++ (BS ++ (_ :: _ :: F)))) from hs156)
         refine w_nil ?_
         refine qn ⟨hs156.tail.drop, ?_⟩
         refine d_eff rfl ?_
         refine w_append (X := (_ :: [])) (B := B154) (rows := [[_, _, _, _]]) (sz := 4) (bytes := 32) want_none Try.underlying24 Try_info63 rfl rfl rfl rfl rfl rfl rfl rfl rfl hs156 ho155 (sl_own (i := 0) rfl (by simp) rfl) rfl (by simp) (by simp [Value.oneCell']) (by simp only [maxLen]; omega) (by omega) (fun v157 w158 B159 ho160 hs161 => ?_)
         replace hs161 := (show St _ _ (_ :: B159 ++ (_ :: _ :: BT ++ (BS ++ (_ :: _ :: F)))) from hs161)
         refine w_nil ?_
         refine qn ⟨hs161.tail.drop, ?_⟩
         have hA : Rt.Own v157 63 4 (i + 1) (trows ((m.trains.take (i + 1)).map (backT m.shops.length))).flatten B159 := by
           have h9 := ho160
           rw [Nat.zero_add] at h9
           rw [more_trains hi2]; exact h9
         obtain ⟨aN, cN, rfl⟩ := hA.slice
         replace hs161 := keepC hs161
         refine d_any rfl want_none rfl (fun _ => (y_fieldAddr (o := 2) (i := 2) Try.underlying26 rfl Try.sizeOf24 rfl rfl rfl)) ?_
         refine d_late rfl ?_
         refine w_store (i := 0) (v := .slice _ _ _) (vs := [_]) want_none Try.sizeOf24 rfl rfl rfl rfl rfl (by simp [Value.oneCell']) hs161 rfl (Nat.le_of_ble_eq_true rfl) (fun w162 hs163 => ?_)
         refine w_nil ?_
         refine qn ?_
         refine d_nil ?_
         refine q_blk_normal ?_
         refine q_then (hK116 _ _ ?_)
         refine w_region ?_
         refine w_pure want_none (y_move (v := .int _ _) rfl rfl) rfl ?_
         refine w_pure want_none (y_add rfl rfl rfl rfl (by omega) (by omega)) rfl ?_
         refine w_pure want_none (y_assign (v := .int _ _) rfl rfl) rfl ?_
         refine w_nil ?_
         refine q_then (hN108 _ _ (Nx.intro (m.trains.length - (i + 1)) (by omega) (by repeat (first | exact agree_mix | refine agree_upd rfl ?_ | refine agree_updL rfl ?_ _ | refine agree_mixin rfl ?_)) ?_))
         exact ⟨i + 1, aN, cN, _, rfl, by omega, rfl, hA, hs163⟩
       ·
        refine w_bslice (ps := [(0, _)]) (pv := [(0, .agg #[.int _ _, .int _ _, .int _ _, .int _ _])]) (cs := [_, _, _, _]) want_none rfl rfl (fun w => Try_Zm_fb10 _ _ _ _ w) hs130 (fun b164 w165 hs166 => ?_)
        refine w_nil ?_
        refine qn ⟨hs166.tail, ?_⟩
        refine dt_done ?_
        refine d_eff rfl ?_
        refine w_bslice (ps := []) (pv := []) (cs := []) want_none rfl rfl (fun w => Try_Zm_fb9  w) hs166 (fun b167 w168 hs169 => ?_)
        refine w_nil ?_
        refine qn ⟨hs169.tail.tail, ?_⟩
        refine d_eff rfl ?_
        refine w_append (X := ([])) (B := [_]) (rows := (trows ((m.trains.take i).map (backT m.shops.length)))) (sz := 4) (bytes := 32) want_none Try.underlying24 Try_info63 rfl rfl rfl rfl rfl rfl rfl rfl rfl hs169 own_made rT.1.top.cons.cons.cons.cons (by simp [trows]; omega) (own_room hown2) (trows_one _) (by simp only [maxLen]; omega) (by omega) (fun v170 w171 B172 ho173 hs174 => ?_)
        replace hs174 := (show St _ _ (B172 ++ (_ :: _ :: _ :: BT ++ (BS ++ (_ :: _ :: F)))) from hs174)
        refine w_nil ?_
        refine qn ⟨hs174.drop.tail, ?_⟩
        refine d_eff rfl ?_
        refine w_append (X := ([])) (B := B172) (rows := [[_, _, _, _]]) (sz := 4) (bytes := 32) want_none Try.underlying24 Try_info63 rfl rfl rfl rfl rfl rfl rfl rfl rfl hs174 ho173 (show Sl _ (B172 ++ _) _ _ _ from Sl.app (sl_own (i := 0) rfl (by simp) rfl)) rfl (by simp) (by simp [Value.oneCell']) (by simp only [maxLen]; omega) (by omega) (fun v175 w176 B177 ho178 hs179 => ?_)
        replace hs179 := (show St _ _ (B177 ++ (_ :: _ :: _ :: BT ++ (BS ++ (_ :: _ :: F)))) from hs179)
        refine w_nil ?_
        refine qn ⟨hs179.drop.tail, ?_⟩
        have hA : Rt.Own v175 63 4 (i + 1) (trows ((m.trains.take (i + 1)).map (backT m.shops.length))).flatten B177 := by
          have h9 := ho178
          rw [Nat.zero_add] at h9
          rw [more_trains hi2]; exact h9
        obtain ⟨aN, cN, rfl⟩ := hA.slice
        replace hs179 := keepD hs179
        refine d_any rfl want_none rfl (fun _ => (y_fieldAddr (o := 2) (i := 2) Try.underlying26 rfl Try.sizeOf24 rfl rfl rfl)) ?_
        refine d_late rfl ?_
        refine w_store (i := 0) (v := .slice _ _ _) (vs := [_]) want_none Try.sizeOf24 rfl rfl rfl rfl rfl (by simp [Value.oneCell']) hs179 rfl (Nat.le_of_ble_eq_true rfl) (fun w180 hs181 => ?_)
        refine w_nil ?_
        refine qn ?_
        refine d_nil ?_
        refine q_blk_normal ?_
        refine q_then (hK116 _ _ ?_)
        refine w_region ?_
        refine w_pure want_none (y_move (v := .int _ _) rfl rfl) rfl ?_
        refine w_pure want_none (y_add rfl rfl rfl rfl (by omega) (by omega)) rfl ?_
        refine w_pure want_none (y_assign (v := .int _ _) rfl rfl) rfl ?_
        refine w_nil ?_
        refine q_then (hN108 _ _ (Nx.intro (m.trains.length - (i + 1)) (by omega) (by repeat (first | exact agree_mix | refine agree_upd rfl ?_ | refine agree_updL rfl ?_ _ | refine agree_mixin rfl ?_)) ?_))
        exact ⟨i + 1, aN, cN, _, rfl, by omega, rfl, hA, hs181⟩
      ·
       try simp only [Bool.not_eq_true', Bool.not_eq_false', decide_eq_true_eq, decide_eq_false_iff_not, Int.not_lt, Int.not_le] at h115
       refine w_exit ?_
       refine q_then_exit ?_
       refine q_then_exit ?_
       refine q_blk_this ?_
       refine q_then (hK104 _ _ ?_)
       refine w_seq (fun K183 hK182 => ?_)
       have hiT : i = m.trains.length := by omega
       subst hiT
       rw [List.take_length] at hown2
       have rS := own_rows (w0 := w0) hown (srows_row _) (by simp [srows])
       have rT := own_rows (w0 := w0) hown2 (trows_row _) (by simp [trows])
       have hmB : MIn w0 ((b26, blk 26 [.slice p.ar m.rooms.length p.cr, .slice aS m.shops.length cS, .slice aT m.trains.length cT]) :: (BT ++ (BS ++ ((b6, blk 41 [.int .i64 x, .int .i64 y]) :: (b3, blk 26 (m.cells p)) :: F)))) (backM m) (⟨p.ar, p.cr, aS, cS, aT, cT⟩ : At3) := ⟨hm.r.cons.cons.app.app.cons, rS.1.top.app.cons, rT.1.top.cons, hm.lr, (by show (m.shops.reverse).length ≤ _; rw [List.length_reverse]; exact hm.ls), (by show (m.trains.map _).length ≤ _; rw [List.length_map]; exact hm.lt), hm.cr, (by show (m.shops.reverse).length ≤ cS; rw [List.length_reverse]; exact rS.2), (by show (m.trains.map _).length ≤ cT; rw [List.length_map]; exact rT.2), hm.nr, (fun y hy => hm.ns y (List.mem_reverse.1 hy))⟩
       have hcB : (backM m).cells (⟨p.ar, p.cr, aS, cS, aT, cT⟩ : At3) = [.slice p.ar m.rooms.length p.cr, .slice aS m.shops.length cS, .slice aT m.trains.length cT] := by simp [Market.cells, backM]
       have hb6 : Ats w0 ((b26, blk 26 [.slice p.ar m.rooms.length p.cr, .slice aS m.shops.length cS, .slice aT m.trains.length cT]) :: (BT ++ (BS ++ ((b6, blk 41 [.int .i64 x, .int .i64 y]) :: (b3, blk 26 (m.cells p)) :: F)))) b26 0 ((backM m).cells (⟨p.ar, p.cr, aS, cS, aT, cT⟩ : At3)) := by rw [hcB]; exact ats_own (i := 0) (vs := [.slice p.ar m.rooms.length p.cr, .slice aS m.shops.length cS, .slice aT m.trains.length cT]) rfl rfl
       have hF := order_facts hck
       refine w_region ?_
       refine w_pure want_none (y_loadN (vs := [_, _, _]) Try.isAgg26 Try.sizeOf26 hs.tail.drop.drop.tail rfl rfl hbx) rfl ?_
       refine w_call want_none Try.call26 rfl rfl rfl rfl (c26 m _ hm.cons.cons.app.app.cons hs) ?_
       rintro _ w185 ⟨B1, a_B1, c_B1, rfl, hs_B1, hs186⟩
       replace hs186 := (show St _ _ (B1 ++ (_ :: BT ++ (BS ++ (_ :: _ :: F)))) from hs186)
       refine w_pure want_none (y_move (v := .tuple _) rfl rfl) rfl ?_
       refine w_pure want_none (y_extract (v := .slice _ _ _) rfl rfl rfl) rfl ?_
       refine w_pure want_none (y_extract (v := .int _ _) rfl rfl rfl) rfl ?_
       refine w_pure want_none (y_assign (v := .slice _ _ _) rfl rfl) rfl ?_
       refine w_pure want_none (y_assign (v := .int _ _) rfl rfl) rfl ?_
       refine w_nil ?_
       refine q_then (hK182 _ _ ?_)
       refine w_seq (fun K188 hK187 => ?_)
       refine w_region ?_
       refine w_pure want_none (y_loadN (vs := [_, _, _]) Try.isAgg26 Try.sizeOf26 hs186.drop rfl rfl hb6) rfl ?_
       refine w_call want_none Try.call26 rfl rfl rfl rfl (c26 (backM m) _ hmB.app hs186) ?_
       rintro _ w190 ⟨B2, a_B2, c_B2, rfl, hs_B2, hs191⟩
       replace hs191 := (show St _ _ (B2 ++ (B1 ++ (_ :: BT ++ (BS ++ (_ :: _ :: F))))) from hs191)
       refine w_pure want_none (y_move (v := .tuple _) rfl rfl) rfl ?_
       refine w_pure want_none (y_extract (v := .slice _ _ _) rfl rfl rfl) rfl ?_
       refine w_pure want_none (y_extract (v := .int _ _) rfl rfl rfl) rfl ?_
       refine w_pure want_none (y_assign (v := .slice _ _ _) rfl rfl) rfl ?_
       refine w_pure want_none (y_assign (v := .int _ _) rfl rfl) rfl ?_
       refine w_nil ?_
       refine q_then (hK187 _ _ ?_)
       refine w_seq (fun K193 hK192 => ?_)
       refine w_region ?_
       refine w_pure want_none (y_loadN (vs := [_, _, _]) Try.isAgg26 Try.sizeOf26 hs191.drop.drop.tail.drop.drop.tail rfl rfl hbx) rfl ?_
       refine w_pure want_none (y_indexA Try.underlying41 Try.sizeOf3 rfl rfl rfl rfl (i := 0) rfl (by omega)) rfl ?_
       refine w_pure want_none (y_load1 Try.isAgg3 hs191.drop.drop.tail.drop.drop rfl rfl (show Ats _ _ _ _ [_] from Ats.part hby 0 1)) rfl ?_
       refine w_call want_none Try.call30 rfl rfl rfl rfl (c30 m _ hm.cons.cons.app.app.cons.app.app _ hs191) ?_
       rintro _ w195 ⟨rfl, hs196⟩
       refine w_pure want_none (y_move (v := .tuple _) rfl rfl) rfl ?_
       refine w_pure want_none (y_extract (v := .int _ _) rfl rfl rfl) rfl ?_
       refine w_pure want_none (y_extract (v := .int _ _) rfl rfl rfl) rfl ?_
       refine w_pure want_none (y_assign (v := .int _ _) rfl rfl) rfl ?_
       refine w_pure want_none (y_assign (v := .int _ _) rfl rfl) rfl ?_
       refine w_nil ?_
       refine q_then (hK192 _ _ ?_)
       refine w_seq (fun K198 hK197 => ?_)
       refine w_region ?_
       refine w_pure want_none (y_loadN (vs := [_, _, _]) Try.isAgg26 Try.sizeOf26 hs196.drop.drop rfl rfl hb6) rfl ?_
       refine w_pure want_none (y_indexA Try.underlying41 Try.sizeOf3 rfl rfl rfl rfl (i := 0) rfl (by omega)) rfl ?_
       refine w_pure want_none (y_load1 Try.isAgg3 hs196.drop.drop.tail.drop.drop rfl rfl (show Ats _ _ _ _ [_] from Ats.part hby 0 1)) rfl ?_
       refine w_call want_none Try.call30 rfl rfl rfl rfl ((c30 (backM m) _ hmB.app.app _ hs196).mono (fun v w' h => by rw [← hF.more] at h; exact h)) ?_
       rintro _ w200 ⟨rfl, hs201⟩
       refine w_pure want_none (y_move (v := .tuple _) rfl rfl) rfl ?_
       refine w_pure want_none (y_extract (v := .int _ _) rfl rfl rfl) rfl ?_
       refine w_pure want_none (y_extract (v := .int _ _) rfl rfl rfl) rfl ?_
       refine w_pure want_none (y_assign (v := .int _ _) rfl rfl) rfl ?_
       refine w_pure want_none (y_assign (v := .int _ _) rfl rfl) rfl ?_
       refine w_nil ?_
       refine q_then (hK197 _ _ ?_)
       refine w_seq (fun K203 hK202 => ?_)
       refine w_region ?_
       refine w_pure want_none (y_loadN (vs := [_, _, _]) Try.isAgg26 Try.sizeOf26 hs201.drop.drop.tail.drop.drop.tail rfl rfl hbx) rfl ?_
       refine w_pure want_none (y_indexA Try.underlying41 Try.sizeOf3 rfl rfl rfl rfl (i := 1) rfl (by omega)) rfl ?_
       refine w_pure want_none (y_load1 Try.isAgg3 hs201.drop.drop.tail.drop.drop rfl rfl (show Ats _ _ _ _ [_] from Ats.part hby 1 1)) rfl ?_
       refine w_call want_none Try.call32 rfl rfl rfl rfl (c32 m _ hm.cons.cons.app.app.cons.app.app _ hs201) ?_
       rintro _ w205 ⟨rfl, hs206⟩
       refine w_pure want_none (y_move (v := .tuple _) rfl rfl) rfl ?_
       refine w_pure want_none (y_extract (v := .int _ _) rfl rfl rfl) rfl ?_
       refine w_pure want_none (y_extract (v := .int _ _) rfl rfl rfl) rfl ?_
       refine w_pure want_none (y_assign (v := .int _ _) rfl rfl) rfl ?_
       refine w_pure want_none (y_assign (v := .int _ _) rfl rfl) rfl ?_
       refine w_nil ?_
       refine q_then (hK202 _ _ ?_)
       refine w_seq (fun K208 hK207 => ?_)
       refine w_region ?_
       refine w_pure want_none (y_loadN (vs := [_, _, _]) Try.isAgg26 Try.sizeOf26 hs206.drop.drop rfl rfl hb6) rfl ?_
       refine w_pure want_none (y_indexA Try.underlying41 Try.sizeOf3 rfl rfl rfl rfl (i := 1) rfl (by omega)) rfl ?_
       refine w_pure want_none (y_load1 Try.isAgg3 hs206.drop.drop.tail.drop.drop rfl rfl (show Ats _ _ _ _ [_] from Ats.part hby 1 1)) rfl ?_
       refine w_call want_none Try.call32 rfl rfl rfl rfl ((c32 (backM m) _ hmB.app.app _ hs206).mono (fun v w' h => by rw [← hF.late] at h; exact h)) ?_
       rintro _ w210 ⟨rfl, hs211⟩
       refine w_pure want_none (y_move (v := .tuple _) rfl rfl) rfl ?_
       refine w_pure want_none (y_extract (v := .int _ _) rfl rfl rfl) rfl ?_
       refine w_pure want_none (y_extract (v := .int _ _) rfl rfl rfl) rfl ?_
       refine w_pure want_none (y_assign (v := .int _ _) rfl rfl) rfl ?_
       refine w_pure want_none (y_assign (v := .int _ _) rfl rfl) rfl ?_
       refine w_nil ?_
       refine q_then (hK207 _ _ ?_)
       refine w_seq (fun K213 hK212 => ?_)
       refine w_region ?_
       refine w_pure want_none (y_loadN (vs := [_, _, _]) Try.isAgg26 Try.sizeOf26 hs211.drop.drop.tail.drop.drop.tail rfl rfl hbx) rfl ?_
       refine w_call want_none Try.call18 rfl rfl rfl rfl (c18 m _ hm.cons.cons.app.app.cons.app.app hs211) ?_
       rintro _ w215 ⟨B3, a_B3, c_B3, rfl, hs_B3, hs216⟩
       replace hs216 := (show St _ _ (B3 ++ (B2 ++ (B1 ++ (_ :: BT ++ (BS ++ (_ :: _ :: F)))))) from hs216)
       refine w_pure want_none (y_move (v := .tuple _) rfl rfl) rfl ?_
       refine w_pure want_none (y_extract (v := .slice _ _ _) rfl rfl rfl) rfl ?_
       refine w_pure want_none (y_extract (v := .int _ _) rfl rfl rfl) rfl ?_
       refine w_pure want_none (y_assign (v := .slice _ _ _) rfl rfl) rfl ?_
       refine w_pure want_none (y_assign (v := .int _ _) rfl rfl) rfl ?_
       refine w_nil ?_
       refine q_then (hK212 _ _ ?_)
       refine w_seq (fun K218 hK217 => ?_)
       refine w_region ?_
       refine w_pure want_none (y_loadN (vs := [_, _, _]) Try.isAgg26 Try.sizeOf26 hs216.drop.drop.drop rfl rfl hb6) rfl ?_
       refine w_call want_none Try.call18 rfl rfl rfl rfl ((c18 (backM m) _ hmB.app.app.app hs216).mono (fun v w' h => by rw [← hF.goes] at h; exact h)) ?_
       rintro _ w220 ⟨B4, a_B4, c_B4, rfl, hs_B4, hs221⟩
       replace hs221 := (show St _ _ (B4 ++ (B3 ++ (B2 ++ (B1 ++ (_ :: BT ++ (BS ++ (_ :: _ :: F))))))) from hs221)
       refine w_pure want_none (y_move (v := .tuple _) rfl rfl) rfl ?_
       refine w_pure want_none (y_extract (v := .slice _ _ _) rfl rfl rfl) rfl ?_
       refine w_pure want_none (y_extract (v := .int _ _) rfl rfl rfl) rfl ?_
       refine w_pure want_none (y_assign (v := .slice _ _ _) rfl rfl) rfl ?_
       refine w_pure want_none (y_assign (v := .int _ _) rfl rfl) rfl ?_
       refine w_nil ?_
       refine q_then (hK217 _ _ ?_)
       refine w_seq (fun K223 hK222 => ?_)
       refine w_region ?_
       refine w_pure want_none (y_move (v := .slice _ _ _) rfl rfl) rfl ?_
       refine w_pure want_none (y_lenS Try.underlying30 rfl rfl) rfl ?_
       refine w_pure want_none (y_move (v := .slice _ _ _) rfl rfl) rfl ?_
       refine w_pure want_none (y_lenS Try.underlying30 rfl rfl) rfl ?_
       refine w_pure want_none (y_eql rfl rfl rfl rfl) rfl ?_
       refine w_pure want_none (y_move (v := .bool _) rfl rfl) rfl ?_
       refine w_split (fun h224 => ?_) (fun h224 => ?_)
       ·
        try simp only [Bool.not_eq_true', Bool.not_eq_false', decide_eq_true_eq, decide_eq_false_iff_not, Int.not_lt, Int.not_le] at h224
        refine w_pure (want_yes rfl rfl rfl) (y_move (v := .int _ _) rfl rfl) rfl ?_
        refine w_pure (want_yes rfl rfl rfl) (y_move (v := .int _ _) rfl rfl) rfl ?_
        refine w_pure (want_yes rfl rfl rfl) (y_eql rfl rfl rfl rfl) rfl ?_
        refine w_pure want_none (y_pickT (v := .bool _) rfl rfl rfl rfl) rfl ?_
        refine w_pure want_none (y_move (v := .bool _) rfl rfl) rfl ?_
        refine w_split (fun h225 => ?_) (fun h225 => ?_)
        ·
         try simp only [Bool.not_eq_true', Bool.not_eq_false', decide_eq_true_eq, decide_eq_false_iff_not, Int.not_lt, Int.not_le] at h225
         refine w_pure (want_yes rfl rfl rfl) (y_move (v := .int _ _) rfl rfl) rfl ?_
         refine w_pure (want_yes rfl rfl rfl) (y_move (v := .int _ _) rfl rfl) rfl ?_
         refine w_pure (want_yes rfl rfl rfl) (y_eql rfl rfl rfl rfl) rfl ?_
         refine w_pure want_none (y_pickT (v := .bool _) rfl rfl rfl rfl) rfl ?_
         refine w_pure want_none (y_move (v := .bool _) rfl rfl) rfl ?_
         refine w_split (fun h226 => ?_) (fun h226 => ?_)
         ·
          try simp only [Bool.not_eq_true', Bool.not_eq_false', decide_eq_true_eq, decide_eq_false_iff_not, Int.not_lt, Int.not_le] at h226
          refine w_pure (want_yes rfl rfl rfl) (y_move (v := .int _ _) rfl rfl) rfl ?_
          refine w_pure (want_yes rfl rfl rfl) (y_move (v := .int _ _) rfl rfl) rfl ?_
          refine w_pure (want_yes rfl rfl rfl) (y_eql rfl rfl rfl rfl) rfl ?_
          refine w_pure want_none (y_pickT (v := .bool _) rfl rfl rfl rfl) rfl ?_
          refine w_pure want_none (y_move (v := .bool _) rfl rfl) rfl ?_
          refine w_split (fun h227 => ?_) (fun h227 => ?_)
          ·
           try simp only [Bool.not_eq_true', Bool.not_eq_false', decide_eq_true_eq, decide_eq_false_iff_not, Int.not_lt, Int.not_le] at h227
           refine w_pure (want_yes rfl rfl rfl) (y_move (v := .int _ _) rfl rfl) rfl ?_
           refine w_pure (want_yes rfl rfl rfl) (y_move (v := .int _ _) rfl rfl) rfl ?_
           refine w_pure (want_yes rfl rfl rfl) (y_eql rfl rfl rfl rfl) rfl ?_
           refine w_pure want_none (y_pickT (v := .bool _) rfl rfl rfl rfl) rfl ?_
           refine w_pure want_none (y_move (v := .bool _) rfl rfl) rfl ?_
           refine w_split (fun h228 => ?_) (fun h228 => ?_)
           ·
            try simp only [Bool.not_eq_true', Bool.not_eq_false', decide_eq_true_eq, decide_eq_false_iff_not, Int.not_lt, Int.not_le] at h228
            refine w_pure (want_yes rfl rfl rfl) (y_move (v := .int _ _) rfl rfl) rfl ?_
            refine w_pure (want_yes rfl rfl rfl) (y_move (v := .int _ _) rfl rfl) rfl ?_
            refine w_pure (want_yes rfl rfl rfl) (y_eql rfl rfl rfl rfl) rfl ?_
            refine w_pure want_none (y_pickT (v := .bool _) rfl rfl rfl rfl) rfl ?_
            refine w_pure want_none (y_move (v := .bool _) rfl rfl) rfl ?_
            refine w_split (fun h229 => ?_) (fun h229 => ?_)
            ·
             try simp only [Bool.not_eq_true', Bool.not_eq_false', decide_eq_true_eq, decide_eq_false_iff_not, Int.not_lt, Int.not_le] at h229
             refine w_pure (want_yes rfl rfl rfl) (y_move (v := .slice _ _ _) rfl rfl) rfl ?_
             refine w_pure (want_yes rfl rfl rfl) (y_move (v := .slice _ _ _) rfl rfl) rfl ?_
             refine w_call (want_yes rfl rfl rfl) Try.call20 rfl rfl rfl rfl (c20 _ _ (goesP m).1 (goesP m).1 _ _ (by omega) hs_B3.top.app hs_B4.top hs221) ?_
             rintro _ w231 ⟨rfl, hs232⟩
             refine w_pure want_none (y_pickT (v := .bool _) rfl rfl rfl rfl) rfl ?_
             refine w_pure want_none (y_move (v := .bool _) rfl rfl) rfl ?_
             refine w_split (fun h233 => ?_) (fun h233 => ?_)
             ·
              try simp only [Bool.not_eq_true', Bool.not_eq_false', decide_eq_true_eq, decide_eq_false_iff_not, Int.not_lt, Int.not_le] at h233
              refine w_pure (want_yes rfl rfl rfl) (y_move (v := .int _ _) rfl rfl) rfl ?_
              refine w_pure (want_yes rfl rfl rfl) (y_move (v := .int _ _) rfl rfl) rfl ?_
              refine w_pure (want_yes rfl rfl rfl) (y_eql rfl rfl rfl rfl) rfl ?_
              refine w_pure want_none (y_pickT (v := .bool _) rfl rfl rfl rfl) rfl ?_
              refine w_pure want_none (y_move (v := .bool _) rfl rfl) rfl ?_
              refine w_split (fun h234 => ?_) (fun h234 => ?_)
              ·
               try simp only [Bool.not_eq_true', Bool.not_eq_false', decide_eq_true_eq, decide_eq_false_iff_not, Int.not_lt, Int.not_le] at h234
               refine w_call (want_yes rfl rfl rfl) Try.call21 rfl rfl rfl rfl (c21 hs232) ?_
               rintro _ w236 ⟨rfl, hs237⟩
               refine w_pure want_none (y_pickT (v := .bool _) rfl rfl rfl rfl) rfl ?_
               refine w_pure want_none (y_assign (v := .bool _) rfl rfl) rfl ?_
               refine w_nil ?_
               refine q_then (hK222 _ _ ?_)
               refine w_ret ?_
               refine q_ret (l := [.tmp 4]) (vs := [_]) rfl ⟨⟨rfl, show _ = (.bool _ : Value) from rfl⟩, trivial⟩ ?_
               exact ⟨rfl, hs237.drop.drop.drop.drop.tail.drop.drop.tail.tail⟩
              ·
               exfalso; simp at h234
             ·
              exfalso; simp at h233
            ·
             exfalso; simp at h229
           ·
            exfalso; simp at h228
          ·
           exfalso; simp at h227
         ·
          exfalso; simp at h226
        ·
         exfalso
         try simp only [Bool.not_eq_true', Bool.not_eq_false', decide_eq_true_eq, decide_eq_false_iff_not, Int.not_lt, Int.not_le] at h225
         exact h225 hF.e
       ·
        exfalso
        try simp only [Bool.not_eq_true', Bool.not_eq_false', decide_eq_true_eq, decide_eq_false_iff_not, Int.not_lt, Int.not_le] at h224
        exact h224 (by have := hF.len; omega)

end Go.Proofs
