/- Own texts of this claim, joined. No conditions. -/
import Derived.Test.YtiemgahjdgajmaaHHandOrdera
import Derived.Test.YtiemgahjdgajmaaHHandOrderb
import Derived.Test.YtiemgahjdgajmaaHHandOrderc
import Derived.Test.YtiemgahjdgajmaaHHandOrderd
import Derived.Test.YtiemgahjdgajmaaHHandOrdere
import Derived.Test.YtiemgahjdgajmaaHHandOrderf
import Derived.Test.YtiemgahjdgajmaaHHandOrderg
/- Walks of this seat, printed by gen.py over the engine: what each function returns, in whatever world. No conditions but those of each contract. -/
set_option linter.unusedVariables false
set_option linter.unusedSimpArgs false
set_option maxRecDepth 20000
namespace Go.Proofs
open Go.Rt Go.Rt.Ha
attribute [local irreducible] WL WC Con Yd At Ats Sl Agree DW
theorem Try_Zh_fb8  (w : World) : (Instr.buildSlice 23 0 [].toArray).run Try.prog w = .ok (.slice (some ⟨w.heap.size, 0, none⟩) 0 0) (w.alloc (Go.Rt.blk 81 [])) := by kernel_rfl
theorem Try_Zh_fb9 (x0 : Int) (x1 : Int) (x2 : Int) (x3 : Int) (w : World) : (Instr.buildSlice 23 1 [(0, .agg #[.int .i64 x0, .int .i64 x1, .int .i64 x2, .int .i64 x3])].toArray).run Try.prog w = .ok (.slice (some ⟨w.heap.size, 0, none⟩) 1 1) (w.alloc (Go.Rt.blk 81 [.int .i64 x0, .int .i64 x1, .int .i64 x2, .int .i64 x3])) := by kernel_rfl
theorem Try_Zh_fb10  (w : World) : (Instr.buildSlice 24 0 [].toArray).run Try.prog w = .ok (.slice (some ⟨w.heap.size, 0, none⟩) 0 0) (w.alloc (Go.Rt.blk 51 [])) := by kernel_rfl
theorem Try_Zh_fb11 (x0 : Int) (x1 : Int) (w : World) : (Instr.buildSlice 24 1 [(0, .agg #[.int .i64 x0, .int .i64 x1])].toArray).run Try.prog w = .ok (.slice (some ⟨w.heap.size, 0, none⟩) 1 1) (w.alloc (Go.Rt.blk 51 [.int .i64 x0, .int .i64 x1])) := by kernel_rfl
theorem Try_info81 : Try.prog.info? 81 = some Try.t81 := by kernel_rfl
theorem own_room {a : Option Addr} {t : TypeId} {sz n c : Nat} {xs : List Value} {B : List (Nat × Obj)} (h : Rt.Own (.slice a n c) t sz n xs B) : a = none → c = 0 := by
  intro e
  rcases h.2 with ⟨h2, _, _⟩ | ⟨b, cap, cs, h2, _⟩
  · injection h2
  · injection h2 with e1 _ _; rw [e] at e1; cases e1
theorem brows_row (m : List Bunch) : ∀ row ∈ brows m, row.length = 4 := by intro row h; obtain ⟨q, _, rfl⟩ := List.mem_map.1 h; rfl
theorem brows_one (m : List Bunch) : ∀ row ∈ brows m, ∀ u ∈ row, u.oneCell' = true := by
  intro row hr u hu
  obtain ⟨c, _, rfl⟩ := List.mem_map.1 hr
  simp only [Bunch.cells, List.mem_cons, List.not_mem_nil, or_false] at hu
  rcases hu with rfl | rfl | rfl | rfl <;> rfl
theorem keepA {w0 w : World} {x y : Nat × Obj} {B C R : List (Nat × Obj)} (h : St w0 w (x :: (B ++ (y :: (C ++ R))))) : St w0 w (y :: (B ++ R)) := ((h.tail.perm (perm_mid B (y :: C) R)).perm (perm_mid [y] C (B ++ R))).drop
theorem keepB {w0 w : World} {x y : Nat × Obj} {B C R : List (Nat × Obj)} (h : St w0 w (B ++ (x :: y :: (C ++ R)))) : St w0 w (y :: (B ++ R)) := ((show St w0 w (x :: y :: (C ++ (B ++ R))) from h.perm (perm_mid B (x :: y :: C) R)).tail.perm (perm_mid [y] C (B ++ R))).drop
theorem keepC {w0 w : World} {x y z : Nat × Obj} {B C R : List (Nat × Obj)} (h : St w0 w (x :: (B ++ (y :: z :: (C ++ R))))) : St w0 w (z :: (B ++ R)) := ((show St w0 w (y :: z :: (C ++ (B ++ R))) from h.tail.perm (perm_mid B (y :: z :: C) R)).tail.perm (perm_mid [z] C (B ++ R))).drop
theorem keepD {w0 w : World} {x y z : Nat × Obj} {B C R : List (Nat × Obj)} (h : St w0 w (B ++ (x :: y :: z :: (C ++ R)))) : St w0 w (z :: (B ++ R)) := ((show St w0 w (x :: y :: z :: (C ++ (B ++ R))) from h.perm (perm_mid B (x :: y :: z :: C) R)).tail.tail.perm (perm_mid [z] C (B ++ R))).drop
theorem more_bunches {l : List Bunch} {q : Nat} (h : q < l.length) : (brows (l.drop q).reverse).flatten = [] ++ (brows (l.drop (q + 1)).reverse).flatten ++ [(l[q]).cells].flatten := by
  rw [List.drop_eq_getElem_cons h]
  simp only [brows, List.reverse_cons, List.map_append, List.map_cons, List.map_nil, List.flatten_append, List.nil_append]
theorem more_counts {l : List Count} {n i : Nat} (h : i < l.length) : (crows ((l.take (i + 1)).map (backC n))).flatten = [] ++ (crows ((l.take i).map (backC n))).flatten ++ [(backC n l[i]).cells].flatten := by
  rw [List.take_succ_eq_append_getElem h]
  simp only [crows, List.map_append, List.map_cons, List.map_nil, List.flatten_append, List.nil_append]
theorem c56 {w0 w : World} {F : List (Nat × Obj)} (b n : Nat) (hb : b ≤ 9223372036854775807) (hn : n ≤ 6) (hs : St w0 w F) :
  Con Try.prog 56 [.int .i64 (b : Int), .int .i64 (n : Int)] w fun v w' => v = .int .i64 ((trn b n : Nat) : Int) ∧ St w0 w' F := by
  refine con_of_wc (n := 20) Try.func56 rfl rfl (Nat.le_of_ble_eq_true rfl) ?_
  refine w_seq (fun K2 hK1 => ?_)
  refine w_region ?_
  refine w_pure want_none (y_assign (v := _) rfl rfl) rfl ?_
  refine w_nil ?_
  refine q_then (hK1 _ _ ?_)
  refine w_seq (fun K4 hK3 => ?_)
  refine w_region ?_
  refine w_pure want_none (y_assign (v := _) rfl rfl) rfl ?_
  refine w_nil ?_
  refine q_then (hK3 _ _ ?_)
  refine w_seq (fun K6 hK5 => ?_)
  refine w_seq (fun K8 hK7 => ?_)
  refine w_region ?_
  refine w_pure want_none (y_assign (v := _) rfl rfl) rfl ?_
  refine w_nil ?_
  refine q_then (hK7 _ _ ?_)
  refine w_block ?_
  refine w_loop [5, 6, 7, 8, 9, 10, 11, 12, 13, 14, 15, 16, 17, 18] [5, 6] (fun k vs w => ∃ i : Nat, vs = [.int .i64 ((trn b i : Nat) : Int), .int .i64 i] ∧ i ≤ n ∧ k = n - i ∧ St w0 w F) (n) ?_ ?_
  ·
   exact ⟨0, rfl, by omega, by omega, hs⟩
  ·
   intro k vs μ w11 hI K10 hN9
   obtain ⟨i, rfl, hia, rfl, hs⟩ := hI
   have ht6 := trn_64 b (show i ≤ 6 by omega)
   refine w_seq (fun K13 hK12 => ?_)
   refine w_seq (fun K15 hK14 => ?_)
   refine w_region ?_
   refine w_pure want_none (y_move (v := .int _ _) rfl rfl) rfl ?_
   refine w_pure want_none (y_move (v := .int _ _) rfl rfl) rfl ?_
   refine w_pure want_none (y_lss rfl rfl rfl rfl) rfl ?_
   refine w_nil ?_
   refine q_then (hK14 _ _ ?_)
   refine w_cond rfl rfl (fun h16 => ?_) (fun h16 => ?_)
   ·
    try simp only [Bool.not_eq_true', Bool.not_eq_false', decide_eq_true_eq, decide_eq_false_iff_not, Int.not_lt, Int.not_le] at h16
    refine w_skip ?_
    refine q_then (hK12 _ _ ?_)
    refine w_seq (fun K18 hK17 => ?_)
    refine w_block ?_
    refine w_seq (fun K20 hK19 => ?_)
    refine w_region ?_
    refine w_pure want_none (y_move (v := .int _ _) rfl rfl) rfl ?_
    refine w_pure want_none (y_mul rfl rfl rfl rfl (by omega) (by omega)) rfl ?_
    refine w_pure want_none (y_assign (v := .int _ _) rfl rfl) rfl ?_
    refine w_nil ?_
    refine q_then (hK19 _ _ ?_)
    refine w_seq (fun K22 hK21 => ?_)
    refine w_region ?_
    refine w_pure want_none (y_move (v := .int _ _) rfl rfl) rfl ?_
    refine w_pure want_none (y_move (v := .int _ _) rfl rfl) rfl ?_
    refine w_call want_none Try.call47 rfl rfl rfl rfl (bit_con b i (by omega) (by omega) (by omega) hs) ?_
    rintro _ w24 ⟨rfl, hs25⟩
    refine w_nil ?_
    refine q_then (hK21 _ _ ?_)
    refine w_cond rfl rfl (fun h26 => ?_) (fun h26 => ?_)
    ·
     try simp only [Bool.not_eq_true', Bool.not_eq_false', decide_eq_true_eq, decide_eq_false_iff_not, Int.not_lt, Int.not_le] at h26
     refine w_region ?_
     refine w_pure want_none (y_move (v := .int _ _) rfl rfl) rfl ?_
     refine w_pure want_none (y_add rfl rfl rfl rfl (by omega) (by omega)) rfl ?_
     refine w_pure want_none (y_assign (v := .int _ _) rfl rfl) rfl ?_
     refine w_nil ?_
     refine q_blk_normal ?_
     refine q_then (hK17 _ _ ?_)
     refine w_region ?_
     refine w_pure want_none (y_move (v := .int _ _) rfl rfl) rfl ?_
     refine w_pure want_none (y_add rfl rfl rfl rfl (by omega) (by omega)) rfl ?_
     refine w_pure want_none (y_assign (v := .int _ _) rfl rfl) rfl ?_
     refine w_nil ?_
     refine q_then (hN9 _ _ (Nx.intro (n - (i + 1)) (by omega) (by repeat (first | exact agree_mix | refine agree_upd rfl ?_ | refine agree_updL rfl ?_ _ | refine agree_mixin rfl ?_)) ?_))
     first
       | exact ⟨i + 1, iv2 (by rw [trn, if_pos (by assumption)]; omega) rfl, by omega, rfl, hs25⟩
       | exact ⟨i + 1, iv2 (by rw [trn, if_neg (by assumption)]; omega) rfl, by omega, rfl, hs25⟩
    ·
     try simp only [Bool.not_eq_true', Bool.not_eq_false', decide_eq_true_eq, decide_eq_false_iff_not, Int.not_lt, Int.not_le] at h26
     refine w_skip ?_
     refine q_blk_normal ?_
     refine q_then (hK17 _ _ ?_)
     refine w_region ?_
     refine w_pure want_none (y_move (v := .int _ _) rfl rfl) rfl ?_
     refine w_pure want_none (y_add rfl rfl rfl rfl (by omega) (by omega)) rfl ?_
     refine w_pure want_none (y_assign (v := .int _ _) rfl rfl) rfl ?_
     refine w_nil ?_
     refine q_then (hN9 _ _ (Nx.intro (n - (i + 1)) (by omega) (by repeat (first | exact agree_mix | refine agree_upd rfl ?_ | refine agree_updL rfl ?_ _ | refine agree_mixin rfl ?_)) ?_))
     first
       | exact ⟨i + 1, iv2 (by rw [trn, if_pos (by assumption)]; omega) rfl, by omega, rfl, hs25⟩
       | exact ⟨i + 1, iv2 (by rw [trn, if_neg (by assumption)]; omega) rfl, by omega, rfl, hs25⟩
   ·
    try simp only [Bool.not_eq_true', Bool.not_eq_false', decide_eq_true_eq, decide_eq_false_iff_not, Int.not_lt, Int.not_le] at h16
    refine w_exit ?_
    refine q_then_exit ?_
    refine q_then_exit ?_
    refine q_blk_this ?_
    refine q_then (hK5 _ _ ?_)
    refine w_seq (fun K28 hK27 => ?_)
    refine w_region ?_
    refine w_pure want_none (y_move (v := .int _ _) rfl rfl) rfl ?_
    refine w_pure want_none (y_assign (v := .int _ _) rfl rfl) rfl ?_
    refine w_nil ?_
    refine q_then (hK27 _ _ ?_)
    refine w_ret ?_
    refine q_ret (l := [.tmp 4]) (vs := [_]) rfl ⟨⟨rfl, show _ = (.int _ _ : Value) from rfl⟩, trivial⟩ ?_
    have hin : i = n := by omega
    subst hin
    exact ⟨rfl, hs⟩

theorem wrong_sh (l : Lot) : (wrongP l).1.length ≤ 4 := by
  unfold wrongP
  split
  · simp
  · rename_i h
    have hok := check_ok (Decidable.not_not.1 h)
    have h1 := hok.lc
    have := few_len (fun b => !(Ha.ways l b).isEmpty) l.counts.length (1 <<< l.counts.length)
    unfold fewest; dsimp only; omega
theorem c15 {w0 w : World} {F : List (Nat × Obj)} (l : Lot) (p : At3) (hm : LIn w0 F l p) (hnG : p.ag = none → p.cg = 0) (hnB : p.ab = none → p.cb = 0) (hnC : p.ac = none → p.cc = 0) (x y : Int) (hx : 0 ≤ x ∧ x ≤ 255) (hy : 0 ≤ y ∧ y ≤ 255) (hs : St w0 w F) :
  Con Try.prog 15 [.agg (l.cells p).toArray, .agg #[.int .u8 x, .int .u8 y]] w fun v w' => v = .bool true ∧ St w0 w' F := by
  refine con_of_wc (n := 249) Try.func15 rfl rfl (Nat.le_of_ble_eq_true rfl) ?_
  have hlg0 := hm.lg
  have hlb0 := hm.lb
  have hlc0 := hm.lc
  refine w_seq (fun K2 hK1 => ?_)
  refine w_region ?_
  refine w_box (v := .agg #[.slice _ _ _, .slice _ _ _, .slice _ _ _]) (cs := [_, _, _]) want_none rfl rfl rfl hs (fun b3 w4 hs5 => ?_)
  refine w_box (v := .agg #[.int _ _, .int _ _]) (cs := [_, _]) want_none rfl rfl rfl hs5 (fun b6 w7 hs8 => ?_)
  refine w_pure want_none (y_assign (v := _) rfl rfl) rfl ?_
  refine w_nil ?_
  refine q_then (hK1 _ _ ?_)
  refine w_seq (fun K10 hK9 => ?_)
  refine w_seq (fun K12 hK11 => ?_)
  have hbx : Ats w0 ((b3, blk 26 (l.cells p)) :: F) b3 0 (l.cells p) := ats_own (i := 0) (vs := l.cells p) rfl rfl
  have hby : Ats w0 ((b6, blk 83 [.int .u8 x, .int .u8 y]) :: (b3, blk 26 (l.cells p)) :: F) b6 0 [.int .u8 x, .int .u8 y] := ats_own (i := 0) (vs := [_, _]) rfl rfl
  refine w_region ?_
  refine w_pure want_none (y_loadN (vs := [_, _, _]) Try.isAgg26 Try.sizeOf26 hs8.tail rfl rfl hbx) rfl ?_
  refine w_call want_none Try.call38 rfl rfl rfl rfl (c38 l _ hm.cons.cons hs8) ?_
  rintro _ w14 ⟨rfl, hs15⟩
  refine w_pure want_none (y_not rfl rfl) rfl ?_
  refine w_nil ?_
  refine q_then (hK11 _ _ ?_)
  refine w_cond rfl rfl (fun h16 => ?_) (fun h16 => ?_)
  ·
   try simp only [Bool.not_eq_true', Bool.not_eq_false', decide_eq_true_eq, decide_eq_false_iff_not, Int.not_lt, Int.not_le] at h16
   refine w_seq (fun K18 hK17 => ?_)
   refine w_region ?_
   refine w_call want_none Try.call20 rfl rfl rfl rfl (c20 hs15) ?_
   rintro _ w20 ⟨rfl, hs21⟩
   refine w_pure want_none (y_assign (v := .bool _) rfl rfl) rfl ?_
   refine w_nil ?_
   refine q_then (hK17 _ _ ?_)
   refine w_ret ?_
   refine q_then_ret ?_
   refine q_ret (l := [.tmp 4]) (vs := [_]) rfl ⟨⟨rfl, show _ = (.bool _ : Value) from rfl⟩, trivial⟩ ?_
   exact ⟨rfl, hs21.tail.tail⟩
  ·
   try simp only [Bool.not_eq_true', Bool.not_eq_false', decide_eq_true_eq, decide_eq_false_iff_not, Int.not_lt, Int.not_le] at h16
   refine w_skip ?_
   refine q_then (hK9 _ _ ?_)
   refine w_seq (fun K23 hK22 => ?_)
   have hck : (check l).2.2 = 0 := by first | assumption | (refine Decidable.byContradiction fun h0 => ?_; simp_all)
   have hok := check_ok hck
   have hlb := hok.lb
   have hlc := hok.lc
   have hlg := hok.lg
   refine w_region ?_
   refine w_pure want_none (y_fieldAddr (o := 1) (i := 1) Try.underlying26 rfl Try.sizeOf23 rfl rfl rfl) rfl ?_
   refine w_pure want_none (y_load1 Try.isAgg23 hs15.tail rfl rfl (show Ats _ _ _ _ [_] from Ats.part hbx 1 1)) rfl ?_
   refine w_pure want_none (y_lenS Try.underlying23 rfl rfl) rfl ?_
   refine w_pure want_none (y_assign (v := .int _ _) rfl rfl) rfl ?_
   refine w_nil ?_
   refine q_then (hK22 _ _ ?_)
   refine w_seq (fun K25 hK24 => ?_)
   refine w_region ?_
   refine w_pure want_none (y_loadN (vs := [_, _, _]) Try.isAgg26 Try.sizeOf26 hs15.tail rfl rfl hbx) rfl ?_
   refine w_alloc (cs := [_, _, _]) want_none Try.zeroValue26 rfl hs15 (fun b26 w27 hs28 => ?_)
   refine w_store (i := 0) (v := .agg #[.slice _ _ _, .slice _ _ _, .slice _ _ _]) (vs := [_, _, _]) want_none Try.sizeOf26 rfl rfl rfl rfl rfl (by simp [Value.oneCell']) hs28 rfl (Nat.le_of_ble_eq_true rfl) (fun w29 hs30 => ?_)
   refine w_nil ?_
   refine q_then (hK24 _ _ ?_)
   refine w_seq (fun K32 hK31 => ?_)
   refine w_region ?_
   refine w_pure want_none (y_fieldAddr (o := 1) (i := 1) Try.underlying26 rfl Try.sizeOf23 rfl rfl rfl) rfl ?_
   refine w_store (i := 0) (v := .slice _ _ _) (vs := [_]) want_none Try.sizeOf23 rfl rfl rfl rfl rfl (by simp [Value.oneCell']) hs30 rfl (Nat.le_of_ble_eq_true rfl) (fun w33 hs34 => ?_)
   refine w_pure want_none (y_fieldAddr (o := 2) (i := 2) Try.underlying26 rfl Try.sizeOf24 rfl rfl rfl) rfl ?_
   refine w_store (i := 0) (v := .slice _ _ _) (vs := [_]) want_none Try.sizeOf24 rfl rfl rfl rfl rfl (by simp [Value.oneCell']) hs34 rfl (Nat.le_of_ble_eq_true rfl) (fun w35 hs36 => ?_)
   refine w_nil ?_
   refine q_then (hK31 _ _ ?_)
   refine w_seq (fun K38 hK37 => ?_)
   refine w_seq (fun K40 hK39 => ?_)
   refine w_region ?_
   refine w_pure want_none (y_move (v := .int _ _) rfl rfl) rfl ?_
   refine w_pure want_none (y_sub rfl rfl rfl rfl (by omega) (by omega)) rfl ?_
   refine w_pure want_none (y_assign (v := .int _ _) rfl rfl) rfl ?_
   refine w_nil ?_
   refine q_then (hK39 _ _ ?_)
   refine w_block ?_
   refine w_loop [7, 50, 51, 52, 53, 54, 55, 56, 57, 58, 59, 60, 61, 62, 63, 64, 65] [7] (fun kk vs0 w => ∃ (q c : Nat) (aS : Option Addr) (cS : Nat) (BS : List (Nat × Obj)), vs0 = [.int .i64 ((q : Int) - 1)] ∧ c + q = l.bunches.length ∧ q = kk ∧ Rt.Own (.slice aS c cS) 81 4 c (brows (l.bunches.drop q).reverse).flatten BS ∧ St w0 w ((b26, blk 26 [.slice p.ag l.grades.length p.cg, .slice aS c cS, .slice none 0 0]) :: (BS ++ ((b6, blk 83 [.int .u8 x, .int .u8 y]) :: (b3, blk 26 (l.cells p)) :: F)))) (l.bunches.length) ?_ ?_
   ·
    exact ⟨l.bunches.length, 0, none, 0, [], rfl, by omega, rfl, by rw [List.drop_length]; exact own_nil 81 4, hs36⟩
   ·
    intro k vs μ w43 hI K42 hN41
    obtain ⟨q, c, aS, cS, BS, rfl, hqc, rfl, hown, hs⟩ := hI
    refine w_seq (fun K45 hK44 => ?_)
    refine w_seq (fun K47 hK46 => ?_)
    refine w_region ?_
    refine w_pure want_none (y_move (v := .int _ _) rfl rfl) rfl ?_
    refine w_pure want_none (y_geq rfl rfl rfl rfl) rfl ?_
    refine w_nil ?_
    refine q_then (hK46 _ _ ?_)
    refine w_cond rfl rfl (fun h48 => ?_) (fun h48 => ?_)
    ·
     try simp only [Bool.not_eq_true', Bool.not_eq_false', decide_eq_true_eq, decide_eq_false_iff_not, Int.not_lt, Int.not_le] at h48
     refine w_skip ?_
     refine q_then (hK44 _ _ ?_)
     refine w_seq (fun K50 hK49 => ?_)
     refine w_block ?_
     obtain ⟨r, rfl⟩ : ∃ r, q = r + 1 := ⟨q - 1, by omega⟩
     have hr2 : r < l.bunches.length := by omega
     obtain ⟨bs, os, hbs, hxs⟩ := sl_brows hm.b hr2
     have rS := own_rows1 (w0 := w0) hown (brows_row _) (by simp [brows]; omega)
     refine w_drawT (C := fun w => St w0 w _) [12] (.two [(1, 0), (2, 1), (4, 0), (5, 1), (6, 0), (7, 0), (8, 1)] 0 9 (.two [] 3 9 (.done [(9, 2), (10, 2), (11, 0), (12, 3)]) (.done [(3, 2), (10, 2), (11, 0), (12, 3)])) (.done [(0, 2), (3, 2), (10, 2), (11, 0), (12, 3)])) Try_mo (by kernel_rfl) hs (fun _ h => h.drew) (fun w51 hs52 => ?_)
     refine dt_two ?_
     refine d_any rfl want_none rfl (fun _ => (y_fieldAddr (o := 1) (i := 1) Try.underlying26 rfl Try.sizeOf23 rfl rfl rfl)) ?_
     refine d_take rfl want_none rfl hs52 (fun _ hq => (y_load1 Try.isAgg23 hq rfl rfl (ats_own (i := 0) (vs := [_]) rfl rfl))) ?_
     refine d_any rfl want_none rfl (fun _ => (y_fieldAddr (o := 1) (i := 1) Try.underlying26 rfl Try.sizeOf23 rfl rfl rfl)) ?_
     refine d_take rfl want_none rfl hs52 (fun _ hq => (yd_slice hbs (y_load1 Try.isAgg23 hq.tail.drop.tail rfl rfl (show Ats _ _ _ _ [_] from Ats.part hbx 1 1)))) ?_
     refine d_any rfl want_none rfl (fun _ => (y_move (v := .int _ _) rfl rfl)) ?_
     refine d_any rfl want_none rfl (fun _ => (y_indexS Try.underlying23 Try.sizeOf81 rfl rfl rfl rfl (i := r) (by omega) (by omega))) ?_
     refine d_take rfl want_none rfl hs52 (fun _ hq => (y_loadN (vs := [_, _, _, _]) Try.isAgg81 Try.sizeOf81 hq.tail.drop.tail.tail rfl rfl hxs)) ?_
     refine d_two rfl rfl ?_ ?_
     ·
      refine w_bslice (ps := []) (pv := []) (cs := []) want_none rfl rfl (fun w => Try_Zh_fb8  w) hs52 (fun b53 w54 hs55 => ?_)
      refine w_nil ?_
      refine qn ⟨hs55.tail, ?_⟩
      refine dt_two ?_
      refine d_two rfl rfl ?_ ?_
      ·
       refine w_append (X := ([])) (B := [_]) (rows := (brows (l.bunches.drop (r + 1)).reverse)) (sz := 4) (bytes := 32) want_none Try.underlying23 Try_info81 rfl rfl rfl rfl rfl rfl rfl rfl rfl hs55 own_made rS.1.top.cons.cons (by simp [brows]; omega) (own_room hown) (brows_one _) (by simp only [maxLen]; omega) (by omega) (fun v56 w57 B58 ho59 hs60 => ?_)
       replace hs60 := (show St _ _ (B58 ++ (_ :: BS ++ (_ :: _ :: F))) from hs60)
       refine w_nil ?_
       refine qn ⟨hs60.drop, ?_⟩
       refine dt_done ?_
       refine d_eff rfl ?_
       refine w_bslice (ps := [(0, _)]) (pv := [(0, .agg #[.int _ _, .int _ _, .int _ _, .int _ _])]) (cs := [_, _, _, _]) want_none rfl rfl (fun w => Try_Zh_fb9 _ _ _ _ w) hs60 (fun b61 w62 hs63 => ?_)
       refine w_nil ?_
       refine qn ⟨hs63.tail.drop, ?_⟩
       refine d_eff rfl ?_
       refine w_append (X := (_ :: [])) (B := B58) (rows := [[_, _, _, _]]) (sz := 4) (bytes := 32) want_none Try.underlying23 Try_info81 rfl rfl rfl rfl rfl rfl rfl rfl rfl hs63 ho59 (sl_own (i := 0) rfl (by simp) rfl) rfl (by simp) (by simp [Value.oneCell']) (by simp only [maxLen]; omega) (by omega) (fun v64 w65 B66 ho67 hs68 => ?_)
       replace hs68 := (show St _ _ (_ :: B66 ++ (_ :: BS ++ (_ :: _ :: F))) from hs68)
       refine w_nil ?_
       refine qn ⟨hs68.tail.drop, ?_⟩
       have hA : Rt.Own v64 81 4 (c + 1) (brows (l.bunches.drop r).reverse).flatten B66 := by
         have h9 := ho67
         rw [Nat.zero_add] at h9
         rw [more_bunches hr2]; exact h9
       obtain ⟨aN, cN, rfl⟩ := hA.slice
       replace hs68 := keepA hs68
       refine d_any rfl want_none rfl (fun _ => (y_fieldAddr (o := 1) (i := 1) Try.underlying26 rfl Try.sizeOf23 rfl rfl rfl)) ?_
       refine d_late rfl ?_
       refine w_store (i := 0) (v := .slice _ _ _) (vs := [_]) want_none Try.sizeOf23 rfl rfl rfl rfl rfl (by simp [Value.oneCell']) hs68 rfl (Nat.le_of_ble_eq_true rfl) (fun w69 hs70 => ?_)
       refine w_nil ?_
       refine qn ?_
       refine d_nil ?_
       refine q_blk_normal ?_
       refine q_then (hK49 _ _ ?_)
       refine w_region ?_
       refine w_pure want_none (y_move (v := .int _ _) rfl rfl) rfl ?_
       refine w_pure want_none (y_sub rfl rfl rfl rfl (by omega) (by omega)) rfl ?_
       refine w_pure want_none (y_assign (v := .int _ _) rfl rfl) rfl ?_
       refine w_nil ?_
       refine q_then (hN41 _ _ (Nx.intro (r) (by omega) (by repeat (first | exact agree_mix | refine agree_upd rfl ?_ | refine agree_updL rfl ?_ _ | refine agree_mixin rfl ?_)) ?_))
       exact ⟨r, c + 1, aN, cN, _, by show [Value.int .i64 _] = [Value.int .i64 _]; exact congrArg (fun z : Int => [Value.int .i64 z]) (by omega), by omega, rfl, hA, hs70⟩
      ·
       refine w_bslice (ps := [(0, _)]) (pv := [(0, .agg #[.int _ _, .int _ _, .int _ _, .int _ _])]) (cs := [_, _, _, _]) want_none rfl rfl (fun w => Try_Zh_fb9 _ _ _ _ w) hs55 (fun b71 w72 hs73 => ?_)
       refine w_nil ?_
       refine qn ⟨hs73.tail.tail, ?_⟩
       refine dt_done ?_
       refine d_eff rfl ?_
       refine w_append (X := (_ :: [])) (B := [_]) (rows := (brows (l.bunches.drop (r + 1)).reverse)) (sz := 4) (bytes := 32) want_none Try.underlying23 Try_info81 rfl rfl rfl rfl rfl rfl rfl rfl rfl hs73 own_made rS.1.top.cons.cons.cons (by simp [brows]; omega) (own_room hown) (brows_one _) (by simp only [maxLen]; omega) (by omega) (fun v74 w75 B76 ho77 hs78 => ?_)
       replace hs78 := (show St _ _ (_ :: B76 ++ (_ :: BS ++ (_ :: _ :: F))) from hs78)
       refine w_nil ?_
       refine qn ⟨hs78.tail.drop, ?_⟩
       refine d_eff rfl ?_
       refine w_append (X := (_ :: [])) (B := B76) (rows := [[_, _, _, _]]) (sz := 4) (bytes := 32) want_none Try.underlying23 Try_info81 rfl rfl rfl rfl rfl rfl rfl rfl rfl hs78 ho77 (sl_own (i := 0) rfl (by simp) rfl) rfl (by simp) (by simp [Value.oneCell']) (by simp only [maxLen]; omega) (by omega) (fun v79 w80 B81 ho82 hs83 => ?_)
       replace hs83 := (show St _ _ (_ :: B81 ++ (_ :: BS ++ (_ :: _ :: F))) from hs83)
       refine w_nil ?_
       refine qn ⟨hs83.tail.drop, ?_⟩
       have hA : Rt.Own v79 81 4 (c + 1) (brows (l.bunches.drop r).reverse).flatten B81 := by
         have h9 := ho82
         rw [Nat.zero_add] at h9
         rw [more_bunches hr2]; exact h9
       obtain ⟨aN, cN, rfl⟩ := hA.slice
       replace hs83 := keepA hs83
       refine d_any rfl want_none rfl (fun _ => (y_fieldAddr (o := 1) (i := 1) Try.underlying26 rfl Try.sizeOf23 rfl rfl rfl)) ?_
       refine d_late rfl ?_
       refine w_store (i := 0) (v := .slice _ _ _) (vs := [_]) want_none Try.sizeOf23 rfl rfl rfl rfl rfl (by simp [Value.oneCell']) hs83 rfl (Nat.le_of_ble_eq_true rfl) (fun w84 hs85 => ?_)
       refine w_nil ?_
       refine qn ?_
       refine d_nil ?_
       refine q_blk_normal ?_
       refine q_then (hK49 _ _ ?_)
       refine w_region ?_
       refine w_pure want_none (y_move (v := .int _ _) rfl rfl) rfl ?_
       refine w_pure want_none (y_sub rfl rfl rfl rfl (by omega) (by omega)) rfl ?_
       refine w_pure want_none (y_assign (v := .int _ _) rfl rfl) rfl ?_
       refine w_nil ?_
       refine q_then (hN41 _ _ (Nx.intro (r) (by omega) (by repeat (first | exact agree_mix | refine agree_upd rfl ?_ | refine agree_updL rfl ?_ _ | refine agree_mixin rfl ?_)) ?_))
       exact ⟨r, c + 1, aN, cN, _, by show [Value.int .i64 _] = [Value.int .i64 _]; exact congrArg (fun z : Int => [Value.int .i64 z]) (by omega), by omega, rfl, hA, hs85⟩
     ·
      refine w_bslice (ps := [(0, _)]) (pv := [(0, .agg #[.int _ _, .int _ _, .int _ _, .int _ _])]) (cs := [_, _, _, _]) want_none rfl rfl (fun w => Try_Zh_fb9 _ _ _ _ w) hs52 (fun b86 w87 hs88 => ?_)
      refine w_nil ?_
      refine qn ⟨hs88.tail, ?_⟩
      refine dt_done ?_
      refine d_eff rfl ?_
      refine w_bslice (ps := []) (pv := []) (cs := []) want_none rfl rfl (fun w => Try_Zh_fb8  w) hs88 (fun b89 w90 hs91 => ?_)
      refine w_nil ?_
      refine qn ⟨hs91.tail.tail, ?_⟩
      refine d_eff rfl ?_
      refine w_append (X := ([])) (B := [_]) (rows := (brows (l.bunches.drop (r + 1)).reverse)) (sz := 4) (bytes := 32) want_none Try.underlying23 Try_info81 rfl rfl rfl rfl rfl rfl rfl rfl rfl hs91 own_made rS.1.top.cons.cons.cons (by simp [brows]; omega) (own_room hown) (brows_one _) (by simp only [maxLen]; omega) (by omega) (fun v92 w93 B94 ho95 hs96 => ?_)
      replace hs96 := (show St _ _ (B94 ++ (_ :: _ :: BS ++ (_ :: _ :: F))) from hs96)
      refine w_nil ?_
      refine qn ⟨hs96.drop.tail, ?_⟩
      refine d_eff rfl ?_
      refine w_append (X := ([])) (B := B94) (rows := [[_, _, _, _]]) (sz := 4) (bytes := 32) want_none Try.underlying23 Try_info81 rfl rfl rfl rfl rfl rfl rfl rfl rfl hs96 ho95 (show Sl _ (B94 ++ _) _ _ _ from Sl.app (sl_own (i := 0) rfl (by simp) rfl)) rfl (by simp) (by simp [Value.oneCell']) (by simp only [maxLen]; omega) (by omega) (fun v97 w98 B99 ho100 hs101 => ?_)
      replace hs101 := (show St _ _ (B99 ++ (_ :: _ :: BS ++ (_ :: _ :: F))) from hs101)
      refine w_nil ?_
      refine qn ⟨hs101.drop.tail, ?_⟩
      have hA : Rt.Own v97 81 4 (c + 1) (brows (l.bunches.drop r).reverse).flatten B99 := by
        have h9 := ho100
        rw [Nat.zero_add] at h9
        rw [more_bunches hr2]; exact h9
      obtain ⟨aN, cN, rfl⟩ := hA.slice
      replace hs101 := keepB hs101
      refine d_any rfl want_none rfl (fun _ => (y_fieldAddr (o := 1) (i := 1) Try.underlying26 rfl Try.sizeOf23 rfl rfl rfl)) ?_
      refine d_late rfl ?_
      refine w_store (i := 0) (v := .slice _ _ _) (vs := [_]) want_none Try.sizeOf23 rfl rfl rfl rfl rfl (by simp [Value.oneCell']) hs101 rfl (Nat.le_of_ble_eq_true rfl) (fun w102 hs103 => ?_)
      refine w_nil ?_
      refine qn ?_
      refine d_nil ?_
      refine q_blk_normal ?_
      refine q_then (hK49 _ _ ?_)
      refine w_region ?_
      refine w_pure want_none (y_move (v := .int _ _) rfl rfl) rfl ?_
      refine w_pure want_none (y_sub rfl rfl rfl rfl (by omega) (by omega)) rfl ?_
      refine w_pure want_none (y_assign (v := .int _ _) rfl rfl) rfl ?_
      refine w_nil ?_
      refine q_then (hN41 _ _ (Nx.intro (r) (by omega) (by repeat (first | exact agree_mix | refine agree_upd rfl ?_ | refine agree_updL rfl ?_ _ | refine agree_mixin rfl ?_)) ?_))
      exact ⟨r, c + 1, aN, cN, _, by show [Value.int .i64 _] = [Value.int .i64 _]; exact congrArg (fun z : Int => [Value.int .i64 z]) (by omega), by omega, rfl, hA, hs103⟩
    ·
     try simp only [Bool.not_eq_true', Bool.not_eq_false', decide_eq_true_eq, decide_eq_false_iff_not, Int.not_lt, Int.not_le] at h48
     refine w_exit ?_
     refine q_then_exit ?_
     refine q_then_exit ?_
     refine q_blk_this ?_
     refine q_then (hK37 _ _ ?_)
     refine w_seq (fun K105 hK104 => ?_)
     refine w_seq (fun K107 hK106 => ?_)
     have hq0 : q = 0 := by omega
     subst hq0
     obtain rfl : c = l.bunches.length := by omega
     rw [List.drop_zero] at hown
     refine w_region ?_
     refine w_pure want_none (y_assign (v := _) rfl rfl) rfl ?_
     refine w_nil ?_
     refine q_then (hK106 _ _ ?_)
     refine w_block ?_
     refine w_loop [8, 9, 66, 67, 68, 69, 70, 71, 72, 73, 74, 75, 76, 77, 78, 79, 80, 81, 82, 83, 84, 85, 86, 87, 88, 89, 90] [8] (fun kk vs0 w => ∃ (i : Nat) (aT : Option Addr) (cT : Nat) (BT : List (Nat × Obj)), vs0 = [.int .i64 i] ∧ i ≤ l.counts.length ∧ kk = l.counts.length - i ∧ Rt.Own (.slice aT i cT) 51 2 i (crows ((l.counts.take i).map (backC l.bunches.length))).flatten BT ∧ St w0 w ((b26, blk 26 [.slice p.ag l.grades.length p.cg, .slice aS l.bunches.length cS, .slice aT i cT]) :: (BT ++ (BS ++ ((b6, blk 83 [.int .u8 x, .int .u8 y]) :: (b3, blk 26 (l.cells p)) :: F))))) (l.counts.length) ?_ ?_
     ·
      exact ⟨0, none, 0, [], rfl, by omega, by omega, own_nil 51 2, hs⟩
     ·
      intro k vs μ w110 hI K109 hN108
      obtain ⟨i, aT, cT, BT, rfl, hia, rfl, hown2, hs⟩ := hI
      refine w_seq (fun K112 hK111 => ?_)
      refine w_seq (fun K114 hK113 => ?_)
      refine w_region ?_
      refine w_pure want_none (y_move (v := .int _ _) rfl rfl) rfl ?_
      refine w_pure want_none (y_fieldAddr (o := 2) (i := 2) Try.underlying26 rfl Try.sizeOf24 rfl rfl rfl) rfl ?_
      refine w_pure want_none (y_load1 Try.isAgg24 hs.tail.drop.drop.tail rfl rfl (show Ats _ _ _ _ [_] from Ats.part hbx 2 1)) rfl ?_
      refine w_pure want_none (y_lenS Try.underlying24 rfl rfl) rfl ?_
      refine w_pure want_none (y_lss rfl rfl rfl rfl) rfl ?_
      refine w_nil ?_
      refine q_then (hK113 _ _ ?_)
      refine w_cond rfl rfl (fun h115 => ?_) (fun h115 => ?_)
      ·
       try simp only [Bool.not_eq_true', Bool.not_eq_false', decide_eq_true_eq, decide_eq_false_iff_not, Int.not_lt, Int.not_le] at h115
       refine w_skip ?_
       refine q_then (hK111 _ _ ?_)
       refine w_seq (fun K117 hK116 => ?_)
       refine w_block ?_
       refine w_seq (fun K119 hK118 => ?_)
       have hi2 : i < l.counts.length := by omega
       have hcc := hok.count _ (List.getElem_mem hi2)
       have hp64 := pow64 hlb
       obtain ⟨bt, ot, hbt, hxt⟩ := sl_crows hm.c hi2
       have rT := own_rows1 (w0 := w0) hown2 (crows_row _) (by simp [crows]; omega)
       refine w_region ?_
       refine w_pure want_none (y_fieldAddr (o := 2) (i := 2) Try.underlying26 rfl Try.sizeOf24 rfl rfl rfl) rfl ?_
       refine w_pure want_none (yd_slice hbt (y_load1 Try.isAgg24 hs.tail.drop.drop.tail rfl rfl (show Ats _ _ _ _ [_] from Ats.part hbx 2 1))) rfl ?_
       refine w_pure want_none (y_move (v := .int _ _) rfl rfl) rfl ?_
       refine w_pure want_none (y_indexS Try.underlying24 Try.sizeOf51 rfl rfl rfl rfl (i := i) (by omega) (by omega)) rfl ?_
       refine w_pure want_none (y_loadN (vs := [_, _]) Try.isAgg51 Try.sizeOf51 hs.tail.drop.drop.tail.tail rfl rfl hxt) rfl ?_
       refine w_alloc (cs := [_, _]) want_none Try.zeroValue51 rfl hs (fun b120 w121 hs122 => ?_)
       refine w_store (i := 0) (v := .agg #[.int _ _, .int _ _]) (vs := [_, _]) want_none Try.sizeOf51 rfl rfl rfl rfl rfl (by simp [Value.oneCell']) hs122 rfl (Nat.le_of_ble_eq_true rfl) (fun w123 hs124 => ?_)
       refine w_nil ?_
       refine q_then (hK118 _ _ ?_)
       refine w_seq (fun K126 hK125 => ?_)
       refine w_region ?_
       refine w_pure want_none (y_fieldAddr (o := 0) (i := 0) Try.underlying51 rfl Try.sizeOf3 rfl rfl rfl) rfl ?_
       refine w_pure want_none (y_load1 Try.isAgg3 hs124 rfl rfl (ats_own (i := 0) (vs := [_]) rfl rfl)) rfl ?_
       refine w_pure want_none (y_move (v := .int _ _) rfl rfl) rfl ?_
       refine w_call want_none Try.call56 rfl rfl rfl rfl ((by have h := c56 (l.counts[i]'hi2).bits.toNat l.bunches.length (by omega) (by omega) hs124; rw [Int.toNat_of_nonneg (by omega)] at h; exact h)) ?_
       rintro _ w128 ⟨rfl, hs129⟩
       refine w_pure want_none (y_fieldAddr (o := 0) (i := 0) Try.underlying51 rfl Try.sizeOf3 rfl rfl rfl) rfl ?_
       refine w_store (i := 0) (v := .int _ _) (vs := [_]) want_none Try.sizeOf3 rfl rfl rfl rfl rfl (by simp [Value.oneCell']) hs129 rfl (Nat.le_of_ble_eq_true rfl) (fun w130 hs131 => ?_)
       refine w_nil ?_
       refine q_then (hK125 _ _ ?_)
       refine w_drawT (C := fun w => St w0 w _) [8] (.two [(1, 0), (2, 1), (4, 1)] 0 5 (.two [] 3 5 (.done [(5, 2), (6, 2), (7, 0), (8, 3)]) (.done [(3, 2), (6, 2), (7, 0), (8, 3)])) (.done [(0, 2), (3, 2), (6, 2), (7, 0), (8, 3)])) Try_mo (by kernel_rfl) hs131 (fun _ h => h.drew) (fun w132 hs133 => ?_)
       refine dt_two ?_
       refine d_any rfl want_none rfl (fun _ => (y_fieldAddr (o := 2) (i := 2) Try.underlying26 rfl Try.sizeOf24 rfl rfl rfl)) ?_
       refine d_take rfl want_none rfl hs133 (fun _ hq => (y_load1 Try.isAgg24 hq rfl rfl (ats_own (i := 1) (vs := [_]) rfl rfl))) ?_
       refine d_take rfl want_none rfl hs133 (fun _ hq => (y_loadN (vs := [_, _]) Try.isAgg51 Try.sizeOf51 hq rfl rfl (ats_own (i := 0) (vs := [_, _]) rfl rfl))) ?_
       refine d_two rfl rfl ?_ ?_
       ·
        refine w_bslice (ps := []) (pv := []) (cs := []) want_none rfl rfl (fun w => Try_Zh_fb10  w) hs133 (fun b134 w135 hs136 => ?_)
        refine w_nil ?_
        refine qn ⟨hs136.tail, ?_⟩
        refine dt_two ?_
        refine d_two rfl rfl ?_ ?_
        ·
         refine w_append (X := ([])) (B := [_]) (rows := (crows ((l.counts.take i).map (backC l.bunches.length)))) (sz := 2) (bytes := 16) want_none Try.underlying24 Try_info51 rfl rfl rfl rfl rfl rfl rfl rfl rfl hs136 own_made rT.1.top.cons.cons.cons (by simp [crows]; omega) (own_room hown2) (crows_one _) (by simp only [maxLen]; omega) (by omega) (fun v137 w138 B139 ho140 hs141 => ?_)
         replace hs141 := (show St _ _ (B139 ++ (_ :: _ :: BT ++ (BS ++ (_ :: _ :: F)))) from hs141)
         refine w_nil ?_
         refine qn ⟨hs141.drop, ?_⟩
         refine dt_done ?_
         refine d_eff rfl ?_
         refine w_bslice (ps := [(0, _)]) (pv := [(0, .agg #[.int _ _, .int _ _])]) (cs := [_, _]) want_none rfl rfl (fun w => Try_Zh_fb11 _ _ w) hs141 (fun b142 w143 hs144 => ?_)
         refine w_nil ?_
         refine qn ⟨hs144.tail.drop, ?_⟩
         refine d_eff rfl ?_
         refine w_append (X := (_ :: [])) (B := B139) (rows := [[_, _]]) (sz := 2) (bytes := 16) want_none Try.underlying24 Try_info51 rfl rfl rfl rfl rfl rfl rfl rfl rfl hs144 ho140 (sl_own (i := 0) rfl (by simp) rfl) rfl (by simp) (by simp [Value.oneCell']) (by simp only [maxLen]; omega) (by omega) (fun v145 w146 B147 ho148 hs149 => ?_)
         replace hs149 := (show St _ _ (_ :: B147 ++ (_ :: _ :: BT ++ (BS ++ (_ :: _ :: F)))) from hs149)
         refine w_nil ?_
         refine qn ⟨hs149.tail.drop, ?_⟩
         have hA : Rt.Own v145 51 2 (i + 1) (crows ((l.counts.take (i + 1)).map (backC l.bunches.length))).flatten B147 := by
           have h9 := ho148
           rw [Nat.zero_add] at h9
           rw [more_counts hi2]; exact h9
         obtain ⟨aN, cN, rfl⟩ := hA.slice
         replace hs149 := keepC hs149
         refine d_any rfl want_none rfl (fun _ => (y_fieldAddr (o := 2) (i := 2) Try.underlying26 rfl Try.sizeOf24 rfl rfl rfl)) ?_
         refine d_late rfl ?_
         refine w_store (i := 0) (v := .slice _ _ _) (vs := [_]) want_none Try.sizeOf24 rfl rfl rfl rfl rfl (by simp [Value.oneCell']) hs149 rfl (Nat.le_of_ble_eq_true rfl) (fun w150 hs151 => ?_)
         refine w_nil ?_
         refine qn ?_
         refine d_nil ?_
         refine q_blk_normal ?_
         refine q_then (hK116 _ _ ?_)
         refine w_region ?_
         refine w_pure want_none (y_move (v := .int _ _) rfl rfl) rfl ?_
         refine w_pure want_none (y_add rfl rfl rfl rfl (by omega) (by omega)) rfl ?_
         refine w_pure want_none (y_assign (v := .int _ _) rfl rfl) rfl ?_
         refine w_nil ?_
         refine q_then (hN108 _ _ (Nx.intro (l.counts.length - (i + 1)) (by omega) (by repeat (first | exact agree_mix | refine agree_upd rfl ?_ | refine agree_updL rfl ?_ _ | refine agree_mixin rfl ?_)) ?_))
         exact ⟨i + 1, aN, cN, _, rfl, by omega, rfl, hA, hs151⟩
        ·
         refine w_bslice (ps := [(0, _)]) (pv := [(0, .agg #[.int _ _, .int _ _])]) (cs := [_, _]) want_none rfl rfl (fun w => Try_Zh_fb11 _ _ w) hs136 (fun b152 w153 hs154 => ?_)
         refine w_nil ?_
         refine qn ⟨hs154.tail.tail, ?_⟩
         refine dt_done ?_
         refine d_eff rfl ?_
         refine w_append (X := (_ :: [])) (B := [_]) (rows := (crows ((l.counts.take i).map (backC l.bunches.length)))) (sz := 2) (bytes := 16) want_none Try.underlying24 Try_info51 rfl rfl rfl rfl rfl rfl rfl rfl rfl hs154 own_made rT.1.top.cons.cons.cons.cons (by simp [crows]; omega) (own_room hown2) (crows_one _) (by simp only [maxLen]; omega) (by omega) (fun v155 w156 B157 ho158 hs159 => ?_)
         replace hs159 := (show St _ _ (_ :: B157 ++ (_ :: _ :: BT ++ (BS ++ (_ :: _ :: F)))) from hs159)
         refine w_nil ?_
         refine qn ⟨hs159.tail.drop, ?_⟩
         refine d_eff rfl ?_
         refine w_append (X := (_ :: [])) (B := B157) (rows := [[_, _]]) (sz := 2) (bytes := 16) want_none Try.underlying24 Try_info51 rfl rfl rfl rfl rfl rfl rfl rfl rfl hs159 ho158 (sl_own (i := 0) rfl (by simp) rfl) rfl (by simp) (by simp [Value.oneCell']) (by simp only [maxLen]; omega) (by omega) (fun v160 w161 B162 ho163 hs164 => ?_)
         replace hs164 := (show St _ _ (_ :: B162 ++ (_ :: _ :: BT ++ (BS ++ (_ :: _ :: F)))) from hs164)
         refine w_nil ?_
         refine qn ⟨hs164.tail.drop, ?_⟩
         have hA : Rt.Own v160 51 2 (i + 1) (crows ((l.counts.take (i + 1)).map (backC l.bunches.length))).flatten B162 := by
           have h9 := ho163
           rw [Nat.zero_add] at h9
           rw [more_counts hi2]; exact h9
         obtain ⟨aN, cN, rfl⟩ := hA.slice
         replace hs164 := keepC hs164
         refine d_any rfl want_none rfl (fun _ => (y_fieldAddr (o := 2) (i := 2) Try.underlying26 rfl Try.sizeOf24 rfl rfl rfl)) ?_
         refine d_late rfl ?_
         refine w_store (i := 0) (v := .slice _ _ _) (vs := [_]) want_none Try.sizeOf24 rfl rfl rfl rfl rfl (by simp [Value.oneCell']) hs164 rfl (Nat.le_of_ble_eq_true rfl) (fun w165 hs166 => ?_)
         refine w_nil ?_
         refine qn ?_
         refine d_nil ?_
         refine q_blk_normal ?_
         refine q_then (hK116 _ _ ?_)
         refine w_region ?_
         refine w_pure want_none (y_move (v := .int _ _) rfl rfl) rfl ?_
         refine w_pure want_none (y_add rfl rfl rfl rfl (by omega) (by omega)) rfl ?_
         refine w_pure want_none (y_assign (v := .int _ _) rfl rfl) rfl ?_
         refine w_nil ?_
         refine q_then (hN108 _ _ (Nx.intro (l.counts.length - (i + 1)) (by omega) (by repeat (first | exact agree_mix | refine agree_upd rfl ?_ | refine agree_updL rfl ?_ _ | refine agree_mixin rfl ?_)) ?_))
         exact ⟨i + 1, aN, cN, _, rfl, by omega, rfl, hA, hs166⟩
       ·
        refine w_bslice (ps := [(0, _)]) (pv := [(0, .agg #[.int _ _, .int _ _])]) (cs := [_, _]) want_none rfl rfl (fun w => Try_Zh_fb11 _ _ w) hs133 (fun b167 w168 hs169 => ?_)
        refine w_nil ?_
        refine qn ⟨hs169.tail, ?_⟩
        refine dt_done ?_
        refine d_eff rfl ?_
        refine w_bslice (ps := []) (pv := []) (cs := []) want_none rfl rfl (fun w => Try_Zh_fb10  w) hs169 (fun b170 w171 hs172 => ?_)
        refine w_nil ?_
        refine qn ⟨hs172.tail.tail, ?_⟩
        refine d_eff rfl ?_
        refine w_append (X := ([])) (B := [_]) (rows := (crows ((l.counts.take i).map (backC l.bunches.length)))) (sz := 2) (bytes := 16) want_none Try.underlying24 Try_info51 rfl rfl rfl rfl rfl rfl rfl rfl rfl hs172 own_made rT.1.top.cons.cons.cons.cons (by simp [crows]; omega) (own_room hown2) (crows_one _) (by simp only [maxLen]; omega) (by omega) (fun v173 w174 B175 ho176 hs177 => ?_)
        replace hs177 := (show St _ _ (B175 ++ (_ :: _ :: _ :: BT ++ (BS ++ (_ :: _ :: F)))) from hs177)
        refine w_nil ?_
        refine qn ⟨hs177.drop.tail, ?_⟩
        refine d_eff rfl ?_
        refine w_append (X := ([])) (B := B175) (rows := [[_, _]]) (sz := 2) (bytes := 16) want_none Try.underlying24 Try_info51 rfl rfl rfl rfl rfl rfl rfl rfl rfl hs177 ho176 (show Sl _ (B175 ++ _) _ _ _ from Sl.app (sl_own (i := 0) rfl (by simp) rfl)) rfl (by simp) (by simp [Value.oneCell']) (by simp only [maxLen]; omega) (by omega) (fun v178 w179 B180 ho181 hs182 => ?_)
        replace hs182 := (show St _ _ (B180 ++ (_ :: _ :: _ :: BT ++ (BS ++ (_ :: _ :: F)))) from hs182)
        refine w_nil ?_
        refine qn ⟨hs182.drop.tail, ?_⟩
        have hA : Rt.Own v178 51 2 (i + 1) (crows ((l.counts.take (i + 1)).map (backC l.bunches.length))).flatten B180 := by
          have h9 := ho181
          rw [Nat.zero_add] at h9
          rw [more_counts hi2]; exact h9
        obtain ⟨aN, cN, rfl⟩ := hA.slice
        replace hs182 := keepD hs182
        refine d_any rfl want_none rfl (fun _ => (y_fieldAddr (o := 2) (i := 2) Try.underlying26 rfl Try.sizeOf24 rfl rfl rfl)) ?_
        refine d_late rfl ?_
        refine w_store (i := 0) (v := .slice _ _ _) (vs := [_]) want_none Try.sizeOf24 rfl rfl rfl rfl rfl (by simp [Value.oneCell']) hs182 rfl (Nat.le_of_ble_eq_true rfl) (fun w183 hs184 => ?_)
        refine w_nil ?_
        refine qn ?_
        refine d_nil ?_
        refine q_blk_normal ?_
        refine q_then (hK116 _ _ ?_)
        refine w_region ?_
        refine w_pure want_none (y_move (v := .int _ _) rfl rfl) rfl ?_
        refine w_pure want_none (y_add rfl rfl rfl rfl (by omega) (by omega)) rfl ?_
        refine w_pure want_none (y_assign (v := .int _ _) rfl rfl) rfl ?_
        refine w_nil ?_
        refine q_then (hN108 _ _ (Nx.intro (l.counts.length - (i + 1)) (by omega) (by repeat (first | exact agree_mix | refine agree_upd rfl ?_ | refine agree_updL rfl ?_ _ | refine agree_mixin rfl ?_)) ?_))
        exact ⟨i + 1, aN, cN, _, rfl, by omega, rfl, hA, hs184⟩
      ·
       try simp only [Bool.not_eq_true', Bool.not_eq_false', decide_eq_true_eq, decide_eq_false_iff_not, Int.not_lt, Int.not_le] at h115
       refine w_exit ?_
       refine q_then_exit ?_
       refine q_then_exit ?_
       refine q_blk_this ?_
       refine q_then (hK104 _ _ ?_)
       refine w_seq (fun K186 hK185 => ?_)
       refine w_seq (fun K188 hK187 => ?_)
       have hiT : i = l.counts.length := by omega
       subst hiT
       rw [List.take_length] at hown2
       have rS := own_rows1 (w0 := w0) hown (brows_row _) (by simp [brows])
       have rT := own_rows1 (w0 := w0) hown2 (crows_row _) (by simp [crows])
       have hcB : (backL l).cells (⟨p.ag, p.cg, aS, cS, aT, cT⟩ : At3) = [.slice p.ag l.grades.length p.cg, .slice aS l.bunches.length cS, .slice aT l.counts.length cT] := by simp [Lot.cells, backL]
       obtain ⟨Z, hZ, hsZ⟩ := gen_Z hs
       have hb2 : Ats w0 Z b3 0 (l.cells p) := by rw [hZ]; exact hbx.cons.app.app.cons
       have hb3 : Ats w0 Z b6 0 [.int .u8 x, .int .u8 y] := by rw [hZ]; exact hby.app.app.cons
       have hb6 : Ats w0 Z b26 0 ((backL l).cells (⟨p.ag, p.cg, aS, cS, aT, cT⟩ : At3)) := by rw [hZ]; rw [hcB]; exact ats_of (i := 0) (vs := [.slice p.ag l.grades.length p.cg, .slice aS l.bunches.length cS, .slice aT l.counts.length cT]) hs rfl rfl
       have hmZ : LIn w0 Z l p := by rw [hZ]; exact hm.cons.cons.app.app.cons
       have hmB : LIn w0 Z (backL l) (⟨p.ag, p.cg, aS, cS, aT, cT⟩ : At3) := by rw [hZ]; exact ⟨hm.g.cons.cons.app.app.cons, rS.1.top.app.cons, rT.1.top.cons, hm.lg, (by show (l.bunches.reverse).length ≤ _; rw [List.length_reverse]; exact hm.lb), (by show (l.counts.map _).length ≤ _; rw [List.length_map]; exact hm.lc), hm.cg, (by show (l.bunches.reverse).length ≤ cS; rw [List.length_reverse]; exact rS.2), (by show (l.counts.map _).length ≤ cT; rw [List.length_map]; exact rT.2), hm.ng⟩
       have hK := back_bk hck
       refine w_region ?_
       refine w_pure want_none (y_assign (v := _) rfl rfl) rfl ?_
       refine w_nil ?_
       refine q_then (hK187 _ _ ?_)
       refine w_block ?_
       refine w_loop [4, 10, 11, 12, 13, 14, 15, 16, 17, 18, 91, 92, 93, 94, 95, 96, 97, 98, 99, 100, 101, 102, 103, 104, 105, 106, 107, 108, 109, 110, 111, 112, 113, 114, 115, 116, 117, 118, 119, 120, 121, 122, 123, 124, 125, 126, 127, 128, 129, 130, 131, 132, 133, 134, 135, 136, 137, 138, 139, 140, 141, 142, 143, 144] [10] (fun kk vs0 w => ∃ (k : Nat), vs0 = [.int .i64 k] ∧ k ≤ l.bunches.length ∧ kk = l.bunches.length - k ∧ St w0 w Z) (l.bunches.length) ?_ ?_
       ·
        exact ⟨0, rfl, by omega, by omega, hsZ⟩
       ·
        intro k vs μ w191 hI K190 hN189
        obtain ⟨k, rfl, hka, rfl, hs⟩ := hI
        refine w_seq (fun K193 hK192 => ?_)
        refine w_seq (fun K195 hK194 => ?_)
        refine w_region ?_
        refine w_pure want_none (y_move (v := .int _ _) rfl rfl) rfl ?_
        refine w_pure want_none (y_move (v := .int _ _) rfl rfl) rfl ?_
        refine w_pure want_none (y_lss rfl rfl rfl rfl) rfl ?_
        refine w_nil ?_
        refine q_then (hK194 _ _ ?_)
        refine w_cond rfl rfl (fun h196 => ?_) (fun h196 => ?_)
        ·
         try simp only [Bool.not_eq_true', Bool.not_eq_false', decide_eq_true_eq, decide_eq_false_iff_not, Int.not_lt, Int.not_le] at h196
         refine w_skip ?_
         refine q_then (hK192 _ _ ?_)
         refine w_seq (fun K198 hK197 => ?_)
         refine w_block ?_
         refine w_seq (fun K200 hK199 => ?_)
         have hk2 : k < l.bunches.length := by omega
         have hgs := grade_sh l (k : Int)
         refine w_region ?_
         refine w_pure want_none (y_loadN (vs := [_, _, _]) Try.isAgg26 Try.sizeOf26 hs rfl rfl hb2) rfl ?_
         refine w_pure want_none (y_move (v := .int _ _) rfl rfl) rfl ?_
         refine w_call want_none Try.call21 rfl rfl rfl rfl (c21 l _ hmZ (k : Int) hs) ?_
         rintro _ w202 ⟨rfl, hs203⟩
         refine w_pure want_none (y_move (v := .tuple _) rfl rfl) rfl ?_
         refine w_pure want_none (y_extract (v := .agg _) rfl rfl rfl) rfl ?_
         refine w_pure want_none (y_extract (v := .int _ _) rfl rfl rfl) rfl ?_
         refine w_alloc (cs := [_, _]) want_none Try.zeroValue34 rfl hs203 (fun b204 w205 hs206 => ?_)
         refine w_store (i := 0) (v := .agg #[.int _ _, .int _ _]) (vs := [_, _]) want_none Try.sizeOf34 rfl rfl rfl rfl rfl (by simp [Value.oneCell']) hs206 rfl (Nat.le_of_ble_eq_true rfl) (fun w207 hs208 => ?_)
         refine w_pure want_none (y_assign (v := .int _ _) rfl rfl) rfl ?_
         refine w_nil ?_
         refine q_then (hK199 _ _ ?_)
         refine w_seq (fun K210 hK209 => ?_)
         refine w_region ?_
         refine w_pure want_none (y_loadN (vs := [_, _, _]) Try.isAgg26 Try.sizeOf26 hs208.tail rfl rfl hb6) rfl ?_
         refine w_pure want_none (y_move (v := .int _ _) rfl rfl) rfl ?_
         refine w_pure want_none (y_sub rfl rfl rfl rfl (by omega) (by omega)) rfl ?_
         refine w_pure want_none (y_move (v := .int _ _) rfl rfl) rfl ?_
         refine w_pure want_none (yd_cast (z' :=  ((l.bunches.length - 1 - k : Nat) : Int)) (by omega) (y_sub rfl rfl rfl rfl (by omega) (by omega))) rfl ?_
         refine w_call want_none Try.call21 rfl rfl rfl rfl ((c21 (backL l) _ hmB.cons ((l.bunches.length - 1 - k : Nat) : Int) hs208).mono (fun v w2 h => by rw [hK.hands hk2] at h; exact h)) ?_
         rintro _ w212 ⟨rfl, hs213⟩
         refine w_pure want_none (y_move (v := .tuple _) rfl rfl) rfl ?_
         refine w_pure want_none (y_extract (v := .agg _) rfl rfl rfl) rfl ?_
         refine w_pure want_none (y_extract (v := .int _ _) rfl rfl rfl) rfl ?_
         refine w_alloc (cs := [_, _]) want_none Try.zeroValue34 rfl hs213 (fun b214 w215 hs216 => ?_)
         refine w_store (i := 0) (v := .agg #[.int _ _, .int _ _]) (vs := [_, _]) want_none Try.sizeOf34 rfl rfl rfl rfl rfl (by simp [Value.oneCell']) hs216 rfl (Nat.le_of_ble_eq_true rfl) (fun w217 hs218 => ?_)
         refine w_pure want_none (y_assign (v := .int _ _) rfl rfl) rfl ?_
         refine w_nil ?_
         refine q_then (hK209 _ _ ?_)
         refine w_seq (fun K220 hK219 => ?_)
         have hx11 := ats_of (i := 1) (vs := [_, _]) hs218 rfl rfl
         have hx13 := ats_of (i := 0) (vs := [_, _]) hs218 rfl rfl
         refine w_region ?_
         refine w_pure want_none (y_loadN (vs := [_, _, _]) Try.isAgg26 Try.sizeOf26 hs218.tail.tail rfl rfl hb2) rfl ?_
         refine w_pure want_none (y_move (v := .int _ _) rfl rfl) rfl ?_
         refine w_call want_none Try.call23 rfl rfl rfl rfl (c23 l _ hmZ.cons.cons (k : Int) hs218) ?_
         rintro _ w222 ⟨B1, a1, c1, rfl, hq1, hs223⟩
         replace hs223 := (show St _ _ (B1 ++ (_ :: _ :: Z)) from hs223)
         refine w_pure want_none (y_move (v := .tuple _) rfl rfl) rfl ?_
         refine w_pure want_none (y_extract (v := .slice _ _ _) rfl rfl rfl) rfl ?_
         refine w_pure want_none (y_extract (v := .int _ _) rfl rfl rfl) rfl ?_
         refine w_pure want_none (y_assign (v := .slice _ _ _) rfl rfl) rfl ?_
         refine w_pure want_none (y_assign (v := .int _ _) rfl rfl) rfl ?_
         refine w_nil ?_
         refine q_then (hK219 _ _ ?_)
         refine w_seq (fun K225 hK224 => ?_)
         refine w_region ?_
         refine w_pure want_none (y_loadN (vs := [_, _, _]) Try.isAgg26 Try.sizeOf26 hs223.drop.tail.tail rfl rfl hb6) rfl ?_
         refine w_pure want_none (y_move (v := .int _ _) rfl rfl) rfl ?_
         refine w_pure want_none (y_sub rfl rfl rfl rfl (by omega) (by omega)) rfl ?_
         refine w_pure want_none (y_move (v := .int _ _) rfl rfl) rfl ?_
         refine w_pure want_none (yd_cast (z' :=  ((l.bunches.length - 1 - k : Nat) : Int)) (by omega) (y_sub rfl rfl rfl rfl (by omega) (by omega))) rfl ?_
         refine w_call want_none Try.call23 rfl rfl rfl rfl ((c23 (backL l) _ hmB.cons.cons.app ((l.bunches.length - 1 - k : Nat) : Int) hs223).mono (fun v w2 h => by rw [hK.grade hk2] at h; exact h)) ?_
         rintro _ w227 ⟨B2, a2, c2, rfl, hq2, hs228⟩
         replace hs228 := (show St _ _ (B2 ++ (B1 ++ (_ :: _ :: Z))) from hs228)
         refine w_pure want_none (y_move (v := .tuple _) rfl rfl) rfl ?_
         refine w_pure want_none (y_extract (v := .slice _ _ _) rfl rfl rfl) rfl ?_
         refine w_pure want_none (y_extract (v := .int _ _) rfl rfl rfl) rfl ?_
         refine w_pure want_none (y_assign (v := .slice _ _ _) rfl rfl) rfl ?_
         refine w_pure want_none (y_assign (v := .int _ _) rfl rfl) rfl ?_
         refine w_nil ?_
         refine q_then (hK224 _ _ ?_)
         refine w_seq (fun K230 hK229 => ?_)
         refine w_region ?_
         refine w_pure want_none (y_loadN (vs := [_, _]) Try.isAgg34 Try.sizeOf34 hs228.drop.drop rfl rfl hx11) rfl ?_
         refine w_pure want_none (y_loadN (vs := [_, _]) Try.isAgg34 Try.sizeOf34 hs228.drop.drop rfl rfl hx13) rfl ?_
         refine w_pure want_none (y_neFlat (l := [_, _]) (m := [_, _]) Try.eqGuardType34 Try_flat34 (by first | omega | rfl | (simp only [List.length_map, List.length_set, List.length_append, List.length_take, List.length_drop, List.length_replicate, List.length_cons, List.length_nil] <;> omega)) (by first | omega | rfl | (simp only [List.length_map, List.length_set, List.length_append, List.length_take, List.length_drop, List.length_replicate, List.length_cons, List.length_nil] <;> omega)) rfl rfl rfl rfl rfl rfl) rfl ?_
         refine w_pure want_none (y_move (v := .bool _) rfl rfl) rfl ?_
         refine w_split (fun h231 => ?_) (fun h231 => ?_)
         ·
          exfalso
          try simp only [Bool.not_eq_true', Bool.not_eq_false', decide_eq_true_eq, decide_eq_false_iff_not, Int.not_lt, Int.not_le] at h231
          simp at h231
         ·
          try simp only [Bool.not_eq_true', Bool.not_eq_false', decide_eq_true_eq, decide_eq_false_iff_not, Int.not_lt, Int.not_le] at h231
          refine w_pure (want_yes rfl rfl rfl) (y_move (v := .int _ _) rfl rfl) rfl ?_
          refine w_pure (want_yes rfl rfl rfl) (y_move (v := .int _ _) rfl rfl) rfl ?_
          refine w_pure (want_yes rfl rfl rfl) (y_neq rfl rfl rfl rfl) rfl ?_
          refine w_pure want_none (y_pickF (v := .bool _) rfl rfl rfl rfl) rfl ?_
          refine w_pure want_none (y_move (v := .bool _) rfl rfl) rfl ?_
          refine w_split (fun h232 => ?_) (fun h232 => ?_)
          ·
           exfalso
           try simp only [Bool.not_eq_true', Bool.not_eq_false', decide_eq_true_eq, decide_eq_false_iff_not, Int.not_lt, Int.not_le] at h232
           simp at h232
          ·
           try simp only [Bool.not_eq_true', Bool.not_eq_false', decide_eq_true_eq, decide_eq_false_iff_not, Int.not_lt, Int.not_le] at h232
           refine w_pure (want_yes rfl rfl rfl) (y_move (v := .slice _ _ _) rfl rfl) rfl ?_
           refine w_pure (want_yes rfl rfl rfl) (y_move (v := .slice _ _ _) rfl rfl) rfl ?_
           refine w_call (want_yes rfl rfl rfl) Try.call25 rfl rfl rfl rfl (c25 _ _ (gradeP l (k : Int)).1 (gradeP l (k : Int)).1 _ _ (by have := grade_sh l (k : Int); omega) hq1.top.app hq2.top hs228) ?_
           rintro _ w234 ⟨rfl, hs235⟩
           refine w_pure (want_yes rfl rfl rfl) (y_not rfl rfl) rfl ?_
           refine w_pure want_none (y_pickF (v := .bool _) rfl rfl rfl rfl) rfl ?_
           refine w_pure want_none (y_move (v := .bool _) rfl rfl) rfl ?_
           refine w_split (fun h236 => ?_) (fun h236 => ?_)
           ·
            exfalso
            try simp only [Bool.not_eq_true', Bool.not_eq_false', decide_eq_true_eq, decide_eq_false_iff_not, Int.not_lt, Int.not_le] at h236
            simp at h236
           ·
            try simp only [Bool.not_eq_true', Bool.not_eq_false', decide_eq_true_eq, decide_eq_false_iff_not, Int.not_lt, Int.not_le] at h236
            refine w_pure (want_yes rfl rfl rfl) (y_move (v := .int _ _) rfl rfl) rfl ?_
            refine w_pure (want_yes rfl rfl rfl) (y_move (v := .int _ _) rfl rfl) rfl ?_
            refine w_pure (want_yes rfl rfl rfl) (y_neq rfl rfl rfl rfl) rfl ?_
            refine w_pure want_none (y_pickF (v := .bool _) rfl rfl rfl rfl) rfl ?_
            refine w_nil ?_
            refine q_then (hK229 _ _ ?_)
            refine w_cond rfl rfl (fun h237 => ?_) (fun h237 => ?_)
            ·
             exfalso
             try simp only [Bool.not_eq_true', Bool.not_eq_false', decide_eq_true_eq, decide_eq_false_iff_not, Int.not_lt, Int.not_le] at h237
             simp at h237
            ·
             try simp only [Bool.not_eq_true', Bool.not_eq_false', decide_eq_true_eq, decide_eq_false_iff_not, Int.not_lt, Int.not_le] at h237
             refine w_skip ?_
             refine q_blk_normal ?_
             refine q_then (hK197 _ _ ?_)
             refine w_region ?_
             refine w_pure want_none (y_move (v := .int _ _) rfl rfl) rfl ?_
             refine w_pure want_none (y_add rfl rfl rfl rfl (by omega) (by omega)) rfl ?_
             refine w_pure want_none (y_assign (v := .int _ _) rfl rfl) rfl ?_
             refine w_nil ?_
             refine q_then (hN189 _ _ (Nx.intro (l.bunches.length - (k + 1)) (by omega) (by repeat (first | exact agree_mix | refine agree_upd rfl ?_ | refine agree_updL rfl ?_ _ | refine agree_mixin rfl ?_)) ?_))
             exact ⟨k + 1, rfl, by omega, rfl, hs235.drop.drop.tail.tail⟩
        ·
         try simp only [Bool.not_eq_true', Bool.not_eq_false', decide_eq_true_eq, decide_eq_false_iff_not, Int.not_lt, Int.not_le] at h196
         refine w_exit ?_
         refine q_then_exit ?_
         refine q_then_exit ?_
         refine q_blk_this ?_
         refine q_then (hK185 _ _ ?_)
         refine w_seq (fun K239 hK238 => ?_)
         refine w_region ?_
         refine w_pure want_none (y_indexA Try.underlying83 Try.sizeOf5 rfl rfl rfl rfl (i := 0) rfl (by omega)) rfl ?_
         refine w_pure want_none (y_load1 Try.isAgg5 hs rfl rfl (show Ats _ _ _ _ [_] from Ats.part hb3 0 1)) rfl ?_
         refine w_pure want_none (y_u8int (by rw [Try.underlying5]; rfl) Try.underlying3 rfl rfl (by omega) (by omega)) rfl ?_
         refine w_pure want_none (y_fieldAddr (o := 0) (i := 0) Try.underlying26 rfl Try.sizeOf22 rfl rfl rfl) rfl ?_
         refine w_pure want_none (y_load1 Try.isAgg22 hs rfl rfl (show Ats _ _ _ _ [_] from Ats.part hb2 0 1)) rfl ?_
         refine w_pure want_none (y_lenS Try.underlying22 rfl rfl) rfl ?_
         refine w_pure want_none (y_rem rfl rfl rfl rfl (by omega) (by omega)) rfl ?_
         refine w_pure want_none (y_assign (v := .int _ _) rfl rfl) rfl ?_
         refine w_nil ?_
         refine q_then (hK238 _ _ ?_)
         refine w_seq (fun K241 hK240 => ?_)
         have hg0 := Int.emod_nonneg x (show (l.grades.length : Int) ≠ 0 by omega)
         have hg1 := Int.emod_lt_of_pos x (show 0 < (l.grades.length : Int) by omega)
         obtain ⟨g, hg⟩ : ∃ g : Nat, x % (l.grades.length : Int) = (g : Int) := ⟨(x % (l.grades.length : Int)).toNat, by omega⟩
         rw [hg]
         have hg2 : g < l.grades.length := by omega
         have hPk := hK.pick hg2 (m := y % 73) (by omega)
         have hwsh := wrong_sh l
         refine w_region ?_
         refine w_pure want_none (y_loadN (vs := [_, _, _]) Try.isAgg26 Try.sizeOf26 hs rfl rfl hb2) rfl ?_
         refine w_pure want_none (y_move (v := .int _ _) rfl rfl) rfl ?_
         refine w_call want_none Try.call26 rfl rfl rfl rfl (c26 l _ hmZ (g : Int) hs) ?_
         rintro _ w243 ⟨rfl, hs244⟩
         refine w_pure want_none (y_move (v := .tuple _) rfl rfl) rfl ?_
         refine w_pure want_none (y_extract (v := .agg _) rfl rfl rfl) rfl ?_
         refine w_pure want_none (y_extract (v := .int _ _) rfl rfl rfl) rfl ?_
         refine w_alloc (cs := [_, _]) want_none Try.zeroValue34 rfl hs244 (fun b245 w246 hs247 => ?_)
         refine w_store (i := 0) (v := .agg #[.int _ _, .int _ _]) (vs := [_, _]) want_none Try.sizeOf34 rfl rfl rfl rfl rfl (by simp [Value.oneCell']) hs247 rfl (Nat.le_of_ble_eq_true rfl) (fun w248 hs249 => ?_)
         refine w_pure want_none (y_assign (v := .int _ _) rfl rfl) rfl ?_
         refine w_nil ?_
         refine q_then (hK240 _ _ ?_)
         refine w_seq (fun K251 hK250 => ?_)
         refine w_region ?_
         refine w_pure want_none (y_loadN (vs := [_, _, _]) Try.isAgg26 Try.sizeOf26 hs249.tail rfl rfl hb6) rfl ?_
         refine w_pure want_none (y_move (v := .int _ _) rfl rfl) rfl ?_
         refine w_call want_none Try.call26 rfl rfl rfl rfl ((c26 (backL l) _ hmB.cons (g : Int) hs249).mono (fun v w2 h => by rw [hK.total hg2] at h; exact h)) ?_
         rintro _ w253 ⟨rfl, hs254⟩
         refine w_pure want_none (y_move (v := .tuple _) rfl rfl) rfl ?_
         refine w_pure want_none (y_extract (v := .agg _) rfl rfl rfl) rfl ?_
         refine w_pure want_none (y_extract (v := .int _ _) rfl rfl rfl) rfl ?_
         refine w_alloc (cs := [_, _]) want_none Try.zeroValue34 rfl hs254 (fun b255 w256 hs257 => ?_)
         refine w_store (i := 0) (v := .agg #[.int _ _, .int _ _]) (vs := [_, _]) want_none Try.sizeOf34 rfl rfl rfl rfl rfl (by simp [Value.oneCell']) hs257 rfl (Nat.le_of_ble_eq_true rfl) (fun w258 hs259 => ?_)
         refine w_pure want_none (y_assign (v := .int _ _) rfl rfl) rfl ?_
         refine w_nil ?_
         refine q_then (hK250 _ _ ?_)
         refine w_seq (fun K261 hK260 => ?_)
         have hx20 := ats_of (i := 1) (vs := [_, _]) hs259 rfl rfl
         have hx22 := ats_of (i := 0) (vs := [_, _]) hs259 rfl rfl
         refine w_region ?_
         refine w_pure want_none (y_loadN (vs := [_, _, _]) Try.isAgg26 Try.sizeOf26 hs259.tail.tail rfl rfl hb2) rfl ?_
         refine w_pure want_none (y_move (v := .int _ _) rfl rfl) rfl ?_
         refine w_pure want_none (y_indexA Try.underlying83 Try.sizeOf5 rfl rfl rfl rfl (i := 1) rfl (by omega)) rfl ?_
         refine w_pure want_none (y_load1 Try.isAgg5 hs259.tail.tail rfl rfl (show Ats _ _ _ _ [_] from Ats.part hb3 1 1)) rfl ?_
         refine w_pure want_none (y_u8int (by rw [Try.underlying5]; rfl) Try.underlying3 rfl rfl (by omega) (by omega)) rfl ?_
         refine w_pure want_none (y_rem rfl rfl rfl rfl (by omega) (by omega)) rfl ?_
         refine w_call want_none Try.call30 rfl rfl rfl rfl (c30 l _ hmZ.cons.cons (g : Int) (y % 73) hs259) ?_
         rintro _ w263 ⟨B3, a3, c3, rfl, hq3, hs264⟩
         replace hs264 := (show St _ _ (B3 ++ (_ :: _ :: Z)) from hs264)
         refine w_pure want_none (y_move (v := .tuple _) rfl rfl) rfl ?_
         refine w_pure want_none (y_extract (v := .slice _ _ _) rfl rfl rfl) rfl ?_
         refine w_pure want_none (y_extract (v := .int _ _) rfl rfl rfl) rfl ?_
         refine w_pure want_none (y_assign (v := .slice _ _ _) rfl rfl) rfl ?_
         refine w_pure want_none (y_assign (v := .int _ _) rfl rfl) rfl ?_
         refine w_nil ?_
         refine q_then (hK260 _ _ ?_)
         refine w_seq (fun K266 hK265 => ?_)
         refine w_region ?_
         refine w_pure want_none (y_loadN (vs := [_, _, _]) Try.isAgg26 Try.sizeOf26 hs264.drop.tail.tail rfl rfl hb6) rfl ?_
         refine w_pure want_none (y_move (v := .int _ _) rfl rfl) rfl ?_
         refine w_pure want_none (y_indexA Try.underlying83 Try.sizeOf5 rfl rfl rfl rfl (i := 1) rfl (by omega)) rfl ?_
         refine w_pure want_none (y_load1 Try.isAgg5 hs264.drop.tail.tail rfl rfl (show Ats _ _ _ _ [_] from Ats.part hb3 1 1)) rfl ?_
         refine w_pure want_none (y_u8int (by rw [Try.underlying5]; rfl) Try.underlying3 rfl rfl (by omega) (by omega)) rfl ?_
         refine w_pure want_none (y_rem rfl rfl rfl rfl (by omega) (by omega)) rfl ?_
         refine w_call want_none Try.call30 rfl rfl rfl rfl (c30 (backL l) _ hmB.cons.cons.app (g : Int) (y % 73) hs264) ?_
         rintro _ w268 ⟨B4, a4, c4, rfl, hq4, hs269⟩
         replace hs269 := (show St _ _ (B4 ++ (B3 ++ (_ :: _ :: Z))) from hs269)
         refine w_pure want_none (y_move (v := .tuple _) rfl rfl) rfl ?_
         refine w_pure want_none (y_extract (v := .slice _ _ _) rfl rfl rfl) rfl ?_
         refine w_pure want_none (y_extract (v := .int _ _) rfl rfl rfl) rfl ?_
         refine w_pure want_none (y_assign (v := .slice _ _ _) rfl rfl) rfl ?_
         refine w_pure want_none (y_assign (v := .int _ _) rfl rfl) rfl ?_
         refine w_nil ?_
         refine q_then (hK265 _ _ ?_)
         refine w_seq (fun K271 hK270 => ?_)
         refine w_region ?_
         refine w_pure want_none (y_loadN (vs := [_, _, _]) Try.isAgg26 Try.sizeOf26 hs269.drop.drop.tail.tail rfl rfl hb2) rfl ?_
         refine w_call want_none Try.call34 rfl rfl rfl rfl (c34 l _ hmZ.cons.cons.app.app hs269) ?_
         rintro _ w273 ⟨B5, a5, c5, rfl, hq5, hs274⟩
         replace hs274 := (show St _ _ (B5 ++ (B4 ++ (B3 ++ (_ :: _ :: Z)))) from hs274)
         refine w_pure want_none (y_move (v := .tuple _) rfl rfl) rfl ?_
         refine w_pure want_none (y_extract (v := .slice _ _ _) rfl rfl rfl) rfl ?_
         refine w_pure want_none (y_extract (v := .int _ _) rfl rfl rfl) rfl ?_
         refine w_pure want_none (y_assign (v := .slice _ _ _) rfl rfl) rfl ?_
         refine w_pure want_none (y_assign (v := .int _ _) rfl rfl) rfl ?_
         refine w_nil ?_
         refine q_then (hK270 _ _ ?_)
         refine w_seq (fun K276 hK275 => ?_)
         refine w_region ?_
         refine w_pure want_none (y_loadN (vs := [_, _, _]) Try.isAgg26 Try.sizeOf26 hs274.drop.drop.drop.tail.tail rfl rfl hb6) rfl ?_
         refine w_call want_none Try.call34 rfl rfl rfl rfl ((c34 (backL l) _ hmB.cons.cons.app.app.app hs274).mono (fun v w2 h => by rw [hK.wrong] at h; exact h)) ?_
         rintro _ w278 ⟨B6, a6, c6, rfl, hq6, hs279⟩
         replace hs279 := (show St _ _ (B6 ++ (B5 ++ (B4 ++ (B3 ++ (_ :: _ :: Z))))) from hs279)
         refine w_pure want_none (y_move (v := .tuple _) rfl rfl) rfl ?_
         refine w_pure want_none (y_extract (v := .slice _ _ _) rfl rfl rfl) rfl ?_
         refine w_pure want_none (y_extract (v := .int _ _) rfl rfl rfl) rfl ?_
         refine w_pure want_none (y_assign (v := .slice _ _ _) rfl rfl) rfl ?_
         refine w_pure want_none (y_assign (v := .int _ _) rfl rfl) rfl ?_
         refine w_nil ?_
         refine q_then (hK275 _ _ ?_)
         refine w_seq (fun K281 hK280 => ?_)
         refine w_region ?_
         refine w_pure want_none (y_loadN (vs := [_, _, _]) Try.isAgg26 Try.sizeOf26 hs279.drop.drop.drop.drop.tail.tail rfl rfl hb2) rfl ?_
         refine w_call want_none Try.call32 rfl rfl rfl rfl (c32 l _ hmZ.cons.cons.app.app.app.app hs279) ?_
         rintro _ w283 ⟨rfl, hs284⟩
         refine w_pure want_none (y_move (v := .tuple _) rfl rfl) rfl ?_
         refine w_pure want_none (y_extract (v := .int _ _) rfl rfl rfl) rfl ?_
         refine w_pure want_none (y_extract (v := .int _ _) rfl rfl rfl) rfl ?_
         refine w_pure want_none (y_extract (v := .int _ _) rfl rfl rfl) rfl ?_
         refine w_pure want_none (y_assign (v := .int _ _) rfl rfl) rfl ?_
         refine w_pure want_none (y_assign (v := .int _ _) rfl rfl) rfl ?_
         refine w_pure want_none (y_assign (v := .int _ _) rfl rfl) rfl ?_
         refine w_nil ?_
         refine q_then (hK280 _ _ ?_)
         refine w_seq (fun K286 hK285 => ?_)
         refine w_region ?_
         refine w_pure want_none (y_loadN (vs := [_, _, _]) Try.isAgg26 Try.sizeOf26 hs284.drop.drop.drop.drop.tail.tail rfl rfl hb6) rfl ?_
         refine w_call want_none Try.call32 rfl rfl rfl rfl ((c32 (backL l) _ hmB.cons.cons.app.app.app.app hs284).mono (fun v w2 h => by rw [hK.next] at h; exact h)) ?_
         rintro _ w288 ⟨rfl, hs289⟩
         refine w_pure want_none (y_move (v := .tuple _) rfl rfl) rfl ?_
         refine w_pure want_none (y_extract (v := .int _ _) rfl rfl rfl) rfl ?_
         refine w_pure want_none (y_extract (v := .int _ _) rfl rfl rfl) rfl ?_
         refine w_pure want_none (y_extract (v := .int _ _) rfl rfl rfl) rfl ?_
         refine w_pure want_none (y_assign (v := .int _ _) rfl rfl) rfl ?_
         refine w_pure want_none (y_assign (v := .int _ _) rfl rfl) rfl ?_
         refine w_pure want_none (y_assign (v := .int _ _) rfl rfl) rfl ?_
         refine w_nil ?_
         refine q_then (hK285 _ _ ?_)
         refine w_seq (fun K291 hK290 => ?_)
         refine w_region ?_
         refine w_pure want_none (y_loadN (vs := [_, _]) Try.isAgg34 Try.sizeOf34 hs289.drop.drop.drop.drop rfl rfl hx20) rfl ?_
         refine w_pure want_none (y_loadN (vs := [_, _]) Try.isAgg34 Try.sizeOf34 hs289.drop.drop.drop.drop rfl rfl hx22) rfl ?_
         refine w_pure want_none (y_eqFlat (l := [_, _]) (m := [_, _]) Try.eqGuardType34 Try_flat34 (by first | omega | rfl | (simp only [List.length_map, List.length_set, List.length_append, List.length_take, List.length_drop, List.length_replicate, List.length_cons, List.length_nil] <;> omega)) (by first | omega | rfl | (simp only [List.length_map, List.length_set, List.length_append, List.length_take, List.length_drop, List.length_replicate, List.length_cons, List.length_nil] <;> omega)) rfl rfl rfl rfl rfl rfl) rfl ?_
         refine w_pure want_none (y_move (v := .bool _) rfl rfl) rfl ?_
         refine w_split (fun h292 => ?_) (fun h292 => ?_)
         ·
          try simp only [Bool.not_eq_true', Bool.not_eq_false', decide_eq_true_eq, decide_eq_false_iff_not, Int.not_lt, Int.not_le] at h292
          refine w_pure (want_yes rfl rfl rfl) (y_move (v := .int _ _) rfl rfl) rfl ?_
          refine w_pure (want_yes rfl rfl rfl) (y_move (v := .int _ _) rfl rfl) rfl ?_
          refine w_pure (want_yes rfl rfl rfl) (y_eql rfl rfl rfl rfl) rfl ?_
          refine w_pure want_none (y_pickT (v := .bool _) rfl rfl rfl rfl) rfl ?_
          refine w_pure want_none (y_move (v := .bool _) rfl rfl) rfl ?_
          refine w_split (fun h293 => ?_) (fun h293 => ?_)
          ·
           try simp only [Bool.not_eq_true', Bool.not_eq_false', decide_eq_true_eq, decide_eq_false_iff_not, Int.not_lt, Int.not_le] at h293
           refine w_pure (want_yes rfl rfl rfl) (y_move (v := .slice _ _ _) rfl rfl) rfl ?_
           refine w_pure (want_yes rfl rfl rfl) (y_lenS Try.underlying37 rfl rfl) rfl ?_
           refine w_pure (want_yes rfl rfl rfl) (y_move (v := .slice _ _ _) rfl rfl) rfl ?_
           refine w_pure (want_yes rfl rfl rfl) (y_lenS Try.underlying37 rfl rfl) rfl ?_
           refine w_pure (want_yes rfl rfl rfl) (y_eql rfl rfl rfl rfl) rfl ?_
           refine w_pure want_none (y_pickT (v := .bool _) rfl rfl rfl rfl) rfl ?_
           refine w_pure want_none (y_move (v := .bool _) rfl rfl) rfl ?_
           refine w_split (fun h294 => ?_) (fun h294 => ?_)
           ·
            try simp only [Bool.not_eq_true', Bool.not_eq_false', decide_eq_true_eq, decide_eq_false_iff_not, Int.not_lt, Int.not_le] at h294
            refine w_pure (want_yes rfl rfl rfl) (y_move (v := .int _ _) rfl rfl) rfl ?_
            refine w_pure (want_yes rfl rfl rfl) (y_move (v := .int _ _) rfl rfl) rfl ?_
            refine w_pure (want_yes rfl rfl rfl) (y_eql rfl rfl rfl rfl) rfl ?_
            refine w_pure want_none (y_pickT (v := .bool _) rfl rfl rfl rfl) rfl ?_
            refine w_pure want_none (y_move (v := .bool _) rfl rfl) rfl ?_
            refine w_split (fun h295 => ?_) (fun h295 => ?_)
            ·
             try simp only [Bool.not_eq_true', Bool.not_eq_false', decide_eq_true_eq, decide_eq_false_iff_not, Int.not_lt, Int.not_le] at h295
             refine w_pure (want_yes rfl rfl rfl) (y_move (v := .slice _ _ _) rfl rfl) rfl ?_
             refine w_pure (want_yes rfl rfl rfl) (y_move (v := .slice _ _ _) rfl rfl) rfl ?_
             refine w_call (want_yes rfl rfl rfl) Try.call25 rfl rfl rfl rfl (c25 _ _ (wrongP l).1 (wrongP l).1 _ _ (by have := wrong_sh l; omega) hq5.top.app hq6.top hs289) ?_
             rintro _ w297 ⟨rfl, hs298⟩
             refine w_pure want_none (y_pickT (v := .bool _) rfl rfl rfl rfl) rfl ?_
             refine w_pure want_none (y_move (v := .bool _) rfl rfl) rfl ?_
             refine w_split (fun h299 => ?_) (fun h299 => ?_)
             ·
              try simp only [Bool.not_eq_true', Bool.not_eq_false', decide_eq_true_eq, decide_eq_false_iff_not, Int.not_lt, Int.not_le] at h299
              refine w_pure (want_yes rfl rfl rfl) (y_move (v := .int _ _) rfl rfl) rfl ?_
              refine w_pure (want_yes rfl rfl rfl) (y_move (v := .int _ _) rfl rfl) rfl ?_
              refine w_pure (want_yes rfl rfl rfl) (y_eql rfl rfl rfl rfl) rfl ?_
              refine w_pure want_none (y_pickT (v := .bool _) rfl rfl rfl rfl) rfl ?_
              refine w_pure want_none (y_move (v := .bool _) rfl rfl) rfl ?_
              refine w_split (fun h300 => ?_) (fun h300 => ?_)
              ·
               try simp only [Bool.not_eq_true', Bool.not_eq_false', decide_eq_true_eq, decide_eq_false_iff_not, Int.not_lt, Int.not_le] at h300
               refine w_pure (want_yes rfl rfl rfl) (y_move (v := .int _ _) rfl rfl) rfl ?_
               refine w_pure (want_yes rfl rfl rfl) (y_move (v := .int _ _) rfl rfl) rfl ?_
               refine w_pure (want_yes rfl rfl rfl) (y_eql rfl rfl rfl rfl) rfl ?_
               refine w_pure want_none (y_pickT (v := .bool _) rfl rfl rfl rfl) rfl ?_
               refine w_pure want_none (y_move (v := .bool _) rfl rfl) rfl ?_
               refine w_split (fun h301 => ?_) (fun h301 => ?_)
               ·
                try simp only [Bool.not_eq_true', Bool.not_eq_false', decide_eq_true_eq, decide_eq_false_iff_not, Int.not_lt, Int.not_le] at h301
                refine w_pure (want_yes rfl rfl rfl) (y_move (v := .int _ _) rfl rfl) rfl ?_
                refine w_pure (want_yes rfl rfl rfl) (y_move (v := .int _ _) rfl rfl) rfl ?_
                refine w_pure (want_yes rfl rfl rfl) (y_eql rfl rfl rfl rfl) rfl ?_
                refine w_pure want_none (y_pickT (v := .bool _) rfl rfl rfl rfl) rfl ?_
                refine w_pure want_none (y_move (v := .bool _) rfl rfl) rfl ?_
                refine w_split (fun h302 => ?_) (fun h302 => ?_)
                ·
                 try simp only [Bool.not_eq_true', Bool.not_eq_false', decide_eq_true_eq, decide_eq_false_iff_not, Int.not_lt, Int.not_le] at h302
                 refine w_call (want_yes rfl rfl rfl) Try.call20 rfl rfl rfl rfl (c20 hs298) ?_
                 rintro _ w304 ⟨rfl, hs305⟩
                 refine w_pure want_none (y_pickT (v := .bool _) rfl rfl rfl rfl) rfl ?_
                 refine w_pure want_none (y_assign (v := .bool _) rfl rfl) rfl ?_
                 refine w_nil ?_
                 refine q_then (hK290 _ _ ?_)
                 refine w_ret ?_
                 refine q_ret (l := [.tmp 4]) (vs := [_]) rfl ⟨⟨rfl, show _ = (.bool _ : Value) from rfl⟩, trivial⟩ ?_
                 exact ⟨rfl, (St.cast hZ hs305.drop.drop.drop.drop.tail.tail).tail.drop.drop.tail.tail⟩
                ·
                 exfalso; simp at h302
               ·
                exfalso; simp at h301
              ·
               exfalso; simp at h300
             ·
              exfalso; simp at h299
            ·
             exfalso
             try simp only [Bool.not_eq_true', Bool.not_eq_false', decide_eq_true_eq, decide_eq_false_iff_not, Int.not_lt, Int.not_le] at h295
             omega
           ·
            exfalso
            try simp only [Bool.not_eq_true', Bool.not_eq_false', decide_eq_true_eq, decide_eq_false_iff_not, Int.not_lt, Int.not_le] at h294
            omega
          ·
           exfalso; simp at h293
         ·
          exfalso; simp at h292

end Go.Proofs
