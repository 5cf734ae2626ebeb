/- Own texts of this claim, joined. No conditions. -/
import GoSem.Core.Value
import Derived.Test.YtiemgahjdgajmaaHHandOrdera
import Derived.Test.YtiemgahjdgajmaaHHandOrderb
import Derived.Test.YtiemgahjdgajmaaHHandOrderc
import Derived.Test.YtiemgahjdgajmaaHHandOrderd
import Derived.Test.YtiemgahjdgajmaaHHandOrdere
/- Walks of this seat, printed by gen.py over the engine: what each function returns, in whatever world. No conditions but those of each contract. -/
set_option linter.unusedVariables false
set_option linter.unusedSimpArgs false
set_option maxRecDepth 20000
namespace Go.Proofs
open Go.Rt Go.Rt.Ha
attribute [local irreducible] WL WC Con Yd At Ats Sl Agree DW

theorem next_yes {ws : List (List Int)} {k : Nat} (h : leftW k ws < ws.length) (h2 : (Ha.nextTo ws k).1 < 0 ∨ leftW k ws < (Ha.nextTo ws k).2) : Ha.nextTo ws (k + 1) = ((k : Int), leftW k ws) := by simp only [Ha.nextTo]; rw [if_pos ⟨h, h2⟩]
theorem next_no {ws : List (List Int)} {k : Nat} (h : ¬ leftW k ws < ws.length ∨ (¬ (Ha.nextTo ws k).1 < 0 ∧ ¬ leftW k ws < (Ha.nextTo ws k).2)) : Ha.nextTo ws (k + 1) = Ha.nextTo ws k := by simp only [Ha.nextTo]; rw [if_neg (by rintro ⟨h1, h2⟩; omega)]
theorem left_max (b : Nat) (ws : List (List Int)) : maxTo (oftL b ws) ((oftL b ws).length - 1) = leftW b ws := by
  rw [oft_len]
  have key : ∀ n, n < 13 → maxTo (oftL b ws) n = mostTo b ws (n + 1) := by
    intro n
    induction n with
    | zero => intro _; simp only [maxTo, mostTo]; rw [oft_get (by omega)]; have := (often_in b ((0 : Nat) : Int) ws).1; omega
    | succ n ih => intro h; simp only [maxTo]; rw [ih (by omega), oft_get (by omega)]; rfl
  exact key 12 (by omega)
theorem left_in (b : Nat) (ws : List (List Int)) : 0 ≤ leftW b ws ∧ leftW b ws ≤ ws.length := by
  have key : ∀ n, 0 ≤ mostTo b ws n ∧ mostTo b ws n ≤ ws.length := by
    intro n
    induction n with
    | zero => simp [mostTo]
    | succ n ih => have := often_in b (n : Int) ws; simp only [mostTo]; omega
  exact key 13
theorem oft_cells {b8 b7 : Nat} {x y : Int} {l m : List Int} (h : x = y) (h2 : l = m) : [(b8, blk 3 [.int .i64 x]), (b7, blk 131 (iv l))] = ([(b8, blk 3 [.int .i64 y]), (b7, blk 131 (iv m))] : List (Nat × Obj)) := by subst h h2; rfl
theorem next_back {w0 w : World} {bd : Nat} {bs : List Nat} {R : List (Nat × Obj)} {a b c d : Nat × Obj} (h : St w0 w ((bd, .deferred (some [])) :: a :: b :: c :: d :: (dfs bs ++ R))) : St w0 w (dfs (bd :: bs) ++ R) := kp_own (kp_own (kp_own (kp_own h)))
theorem c32 {w0 w : World} {F : List (Nat × Obj)} (l : Lot) (p : At3) (hm : LIn w0 F l p)  (hs : St w0 w F) :
  Con Try.prog 32 [.agg (l.cells p).toArray] w fun v w' => v = .tuple #[.int .i64 (nextP l).1, .int .i64 (nextP l).2.1, .int .i64 (nextP l).2.2] ∧ St w0 w' F := by
  refine con_of_wcM (n := 58) Try.func32 rfl rfl (Nat.le_of_ble_eq_true rfl) ?_
  have hlb0 := hm.lb
  refine w_seq (fun K2 hK1 => ?_)
  refine w_region ?_
  refine w_box (v := .agg #[.slice _ _ _, .slice _ _ _, .slice _ _ _]) (cs := [_, _, _]) want_none rfl rfl rfl hs (fun b3 w4 hs5 => ?_)
  refine w_pure want_none (y_assign (v := _) rfl rfl) rfl ?_
  refine w_pure want_none (y_assign (v := _) rfl rfl) rfl ?_
  refine w_pure want_none (y_assign (v := _) rfl rfl) rfl ?_
  refine w_nil ?_
  refine q_then (hK1 _ _ ?_)
  refine w_seq (fun K7 hK6 => ?_)
  refine w_region ?_
  refine w_pure want_none (y_loadN (vs := [_, _, _]) Try.isAgg26 Try.sizeOf26 hs5 rfl rfl (ats_own (i := 0) (vs := [_, _, _]) rfl rfl)) rfl ?_
  refine w_call want_none Try.call69 rfl rfl rfl rfl (c69 l p hm.cons (.func (.func 82) #[] #[]) 0 (fun X w hs => fcon_fn Try.call82 (c82 hs)) hs5) ?_
  rintro _ w9 (⟨hee, rfl, hs10⟩ | ⟨hee, lb, mm, M, rfl, hM, hs10⟩)
  ·
   refine w_pure want_none (y_move (v := .tuple _) rfl rfl) rfl ?_
   refine w_pure want_none (y_extract (v := .pointer _) rfl rfl rfl) rfl ?_
   refine w_pure want_none (y_extract (v := .int _ _) rfl rfl rfl) rfl ?_
   refine w_pure want_none (y_assign (v := .pointer _) rfl rfl) rfl ?_
   refine w_pure want_none (y_assign (v := .int _ _) rfl rfl) rfl ?_
   refine w_nil ?_
   refine q_then (hK6 _ _ ?_)
   refine w_seq (fun K12 hK11 => ?_)
   refine w_seq (fun K14 hK13 => ?_)
   refine w_region ?_
   refine w_pure want_none (y_move (v := .int _ _) rfl rfl) rfl ?_
   refine w_pure want_none (y_neq rfl rfl rfl rfl) rfl ?_
   refine w_nil ?_
   refine q_then (hK13 _ _ ?_)
   refine w_cond rfl rfl (fun h15 => ?_) (fun h15 => ?_)
   ·
    try simp only [Bool.not_eq_true', Bool.not_eq_false', decide_eq_true_eq, decide_eq_false_iff_not, Int.not_lt, Int.not_le] at h15
    refine w_seq (fun K17 hK16 => ?_)
    refine w_region ?_
    refine w_pure want_none (y_move (v := .int _ _) rfl rfl) rfl ?_
    refine w_pure want_none (y_assign (v := _) rfl rfl) rfl ?_
    refine w_pure want_none (y_assign (v := _) rfl rfl) rfl ?_
    refine w_pure want_none (y_assign (v := .int _ _) rfl rfl) rfl ?_
    refine w_nil ?_
    refine q_then (hK16 _ _ ?_)
    refine w_ret ?_
    refine q_then_ret ?_
    refine q_retM0 (l := [.tmp 2, .tmp 3, .tmp 4]) (vs := [_, _, _]) rfl ⟨⟨rfl, show _ = (.int _ _ : Value) from rfl⟩, ⟨rfl, show _ = (.int _ _ : Value) from rfl⟩, ⟨rfl, show _ = (.int _ _ : Value) from rfl⟩, trivial⟩ ?_
    exact ⟨by unfold nextP; rw [if_pos hee]; rfl, hs10.tail⟩
   ·
    exfalso
    try simp only [Bool.not_eq_true', Bool.not_eq_false', decide_eq_true_eq, decide_eq_false_iff_not, Int.not_lt, Int.not_le] at h15
    first | exact hee h15 | exact h15 hee
  ·
   replace hs10 := (show St _ _ (M ++ (_ :: _ :: F)) from hs10)
   have hk := lk_new hs10 hm.cons (enterE_zero hee).1
   have hew := enterE_zero hee
   have hbt := hk.bt
   have hlg := hk.ok.lg
   have hlb := hk.ok.lb
   have hlc := hk.ok.lc
   refine w_pure want_none (y_move (v := .tuple _) rfl rfl) rfl ?_
   refine w_pure want_none (y_extract (v := .pointer _) rfl rfl rfl) rfl ?_
   refine w_pure want_none (y_extract (v := .int _ _) rfl rfl rfl) rfl ?_
   refine w_pure want_none (y_assign (v := .pointer _) rfl rfl) rfl ?_
   refine w_pure want_none (y_assign (v := .int _ _) rfl rfl) rfl ?_
   refine w_nil ?_
   refine q_then (hK6 _ _ ?_)
   refine w_seq (fun K19 hK18 => ?_)
   refine w_seq (fun K21 hK20 => ?_)
   refine w_region ?_
   refine w_pure want_none (y_move (v := .int _ _) rfl rfl) rfl ?_
   refine w_pure want_none (y_neq rfl rfl rfl rfl) rfl ?_
   refine w_nil ?_
   refine q_then (hK20 _ _ ?_)
   refine w_condF rfl rfl ?_
   refine w_skip ?_
   refine q_then (hK18 _ _ ?_)
   refine w_seq (fun K23 hK22 => ?_)
   refine w_region ?_
   refine w_pure want_none (y_assign (v := _) rfl rfl) rfl ?_
   refine w_nil ?_
   refine q_then (hK22 _ _ ?_)
   refine w_seq (fun K25 hK24 => ?_)
   refine w_seq (fun K27 hK26 => ?_)
   have hx1 : Ats w0 ((lb, blk 145 [.slice p.ag l.grades.length p.cg, .slice p.ab l.bunches.length p.cb, .slice p.ac l.counts.length p.cc, .int .i64 ((0 : Nat) : Int), .map (some mm)]) :: (b3, blk 26 (l.cells p)) :: F) b3 0 (l.cells p) := ats_own (i := 1) rfl rfl
   have hwl := ways_len hk.ok 0
   refine w_region ?_
   refine w_pure want_none (y_fieldAddr (o := 1) (i := 1) Try.underlying26 rfl Try.sizeOf23 rfl rfl rfl) rfl ?_
   refine w_pure want_none (y_load1 Try.isAgg23 hs10.drop rfl rfl (show Ats _ _ _ _ [_] from Ats.part hx1 1 1)) rfl ?_
   refine w_pure want_none (y_lenS Try.underlying23 rfl rfl) rfl ?_
   refine w_pure want_none (y_move (v := _) rfl rfl) rfl ?_
   refine w_nil ?_
   refine q_then (hK26 _ _ ?_)
   refine w_block ?_
   refine w_loopD [2, 3, 6, 7, 8, 10, 22, 23, 24, 25, 26, 37, 38, 39, 40, 41, 42, 43, 44, 45, 46, 47, 48, 49, 50, 51, 52, 53] [2, 3, 22] (fun k vs bs w => ∃ (q : Nat), vs = [.int .i64 (Ha.nextTo (Ha.ways l 0) q).1, .int .i64 (Ha.nextTo (Ha.ways l 0) q).2, .int .i64 q] ∧ q ≤ l.bunches.length ∧ k = l.bunches.length - q ∧ St w0 w (dfs bs ++ (M ++ ((lb, blk 145 [.slice p.ag l.grades.length p.cg, .slice p.ab l.bunches.length p.cb, .slice p.ac l.counts.length p.cc, .int .i64 ((0 : Nat) : Int), .map (some mm)]) :: (b3, blk 26 (l.cells p)) :: F)))) (l.bunches.length) [] ?_ ?_
   ·
    exact ⟨0, rfl, by omega, by omega, hs10⟩
   ·
    intro k vs μ bs w30 hI K29 hN28
    obtain ⟨q, rfl, hqa, rfl, hs⟩ := hI
    refine w_seq (fun K32 hK31 => ?_)
    refine w_region ?_
    refine w_pure want_none (y_lss rfl rfl rfl rfl) rfl ?_
    refine w_nil ?_
    refine q_then (hK31 _ _ ?_)
    refine w_seq (fun K34 hK33 => ?_)
    refine w_cond rfl rfl (fun h35 => ?_) (fun h35 => ?_)
    ·
     try simp only [Bool.not_eq_true', Bool.not_eq_false', decide_eq_true_eq, decide_eq_false_iff_not, Int.not_lt, Int.not_le] at h35
     refine w_skip ?_
     refine q_then (hK33 _ _ ?_)
     refine w_seq (fun K37 hK36 => ?_)
     refine w_block ?_
     refine w_seq (fun K39 hK38 => ?_)
     have hq2 : q < l.bunches.length := by omega
     have hli := left_in q (Ha.ways l 0)
     refine w_region ?_
     refine w_pure want_none (y_move (v := .int _ _) rfl rfl) rfl ?_
     refine w_alloc (cs := [_]) want_none Try.zeroValue3 rfl hs (fun b40 w41 hs42 => ?_)
     refine w_store (i := 0) (v := .int _ _) (vs := [_]) want_none Try.sizeOf3 rfl rfl rfl rfl rfl (by simp [Value.oneCell']) hs42 rfl (Nat.le_of_ble_eq_true rfl) (fun w43 hs44 => ?_)
     refine w_nil ?_
     refine q_then (hK38 _ _ ?_)
     refine w_seq (fun K46 hK45 => ?_)
     refine w_region ?_
     refine w_alloc (cs := iv [0, 0, 0, 0, 0, 0, 0, 0, 0, 0, 0, 0, 0]) want_none Try.zeroValue131 rfl hs44 (fun b47 w48 hs49 => ?_)
     refine w_nil ?_
     refine q_then (hK45 _ _ ?_)
     refine w_seq (fun K51 hK50 => ?_)
     refine w_region ?_
     refine w_alloc (cs := [_]) want_none Try.zeroValue3 rfl hs49 (fun b52 w53 hs54 => ?_)
     refine w_store (i := 0) (v := .int _ _) (vs := [_]) want_none Try.sizeOf3 rfl rfl rfl rfl rfl (by simp [Value.oneCell']) hs54 rfl (Nat.le_of_ble_eq_true rfl) (fun w55 hs56 => ?_)
     refine w_nil ?_
     refine q_then (hK50 _ _ ?_)
     refine w_seq (fun K58 hK57 => ?_)
     refine w_seq (fun K60 hK59 => ?_)
     refine w_region ?_
     refine w_pure want_none (y_move (v := .pointer _) rfl rfl) rfl ?_
     refine w_call want_none Try.call78 rfl rfl rfl rfl (c78 _ hs56) ?_
     rintro _ w62 ⟨bp, rfl, hs63⟩
     refine w_nil ?_
     refine q_then (hK59 _ _ ?_)
     refine w_block ?_
     refine w_range ([_, _]) (fun i Bx => Bx = [(b52, blk 3 [.int .i64 (i : Int)]), (b47, blk 131 (iv (oftL q ((Ha.ways l 0).take i))))]) (fun _ _ => False) rfl rfl rfl Try.call106 (ways_iter l p 0 lb mm hk.app.app.cons.cons bp (ats_own (i := 0) (vs := [_]) rfl rfl)) hs63 (perm_mid [_] [_, _] _) rfl ?_ ?_ ?_
     ·
      intro lp i hi Bx Xr Xr2 w65 hJ hs K hK64
      subst hJ
      have hi2 : i < (Ha.ways l 0).length := by simpa using hi
      rw [List.getElem_map, List.getElem_map]
      have hpl := padw_len hk.ok (List.mem_map.2 ⟨_, List.getElem_mem hi2, rfl⟩)
      have hat := pad6_at (Ha.ways l 0)[i] q
      have hwi := way_in hk.ok (List.getElem_mem hi2) q
      obtain ⟨h, hh⟩ : ∃ h, h = pad6 (Ha.ways l 0)[i] := ⟨_, rfl⟩
      rw [← hh] at hpl hat ⊢
      rw [← hat] at hwi
      have hh6 := hpl.1
      have hol := oft_len q ((Ha.ways l 0).take i)
      have hog := often_in q ((h.getD q 0).toNat : Int) ((Ha.ways l 0).take i)
      have hol2 : ((Ha.ways l 0).take i).length ≤ 4096 := by rw [List.length_take]; omega
      rw [← oft_get (by omega)] at hog
      have hx6 : Ats w0 ((bp, blk 104 [.pointer (some ⟨lb, 0, none⟩)]) :: (b40, blk 3 [.int .i64 (q : Int)]) :: ((dfs bs) ++ (M ++ ((lb, blk 145 [.slice p.ag l.grades.length p.cg, .slice p.ab l.bunches.length p.cb, .slice p.ac l.counts.length p.cc, .int .i64 ((0 : Nat) : Int), .map (some mm)]) :: (b3, blk 26 (l.cells p)) :: F)))) b40 0 [.int .i64 (q : Int)] := ats_own (i := 1) rfl rfl
      replace hs := (show St _ _ (_ :: _ :: (Xr ++ (_ :: _ :: (dfs bs ++ (M ++ (_ :: _ :: F)))))) from hs)
      refine w_region ?_
      refine w_alloc (cs := iv [0, 0, 0, 0, 0, 0]) want_none Try.zeroValue121 rfl hs (fun b66 w67 hs68 => ?_)
      refine w_storeI (i := 0) (l := _) want_none Try.sizeOf121 (by first | omega | rfl | (simp only [hh6, hol, oft_len, List.length_map, List.length_set, List.length_append, List.length_take, List.length_drop, List.length_replicate, List.length_cons, List.length_nil] <;> omega)) rfl rfl rfl rfl rfl hs68 rfl (by first | omega | rfl | (simp only [hh6, hol, oft_len, List.length_map, List.length_set, List.length_append, List.length_take, List.length_drop, List.length_replicate, List.length_cons, List.length_nil] <;> omega)) (fun w69 hs70 => ?_)
      refine w_nil ?_
      refine q_then (hK64 _ _ (_ :: _ :: _ :: []) hs70 (fun w71 hs72 => ?_))
      replace hs72 := (show St _ _ (_ :: _ :: _ :: Xr2 ++ (_ :: _ :: (dfs bs) ++ (M ++ (_ :: _ :: F)))) from hs72)
      refine w_block ?_
      refine w_seq (fun K74 hK73 => ?_)
      refine w_region ?_
      refine w_pure want_none (y_load1 Try.isAgg3 hs72.tail.tail.tail.drop rfl rfl hx6) rfl ?_
      refine w_pure want_none (y_indexA Try.underlying121 Try.sizeOf3 rfl rfl rfl rfl (i := q) (by first | rfl | omega) (by omega)) rfl ?_
      refine w_pure want_none (y_load1 Try.isAgg3 hs72 rfl rfl (ats_ints (i := 0) (j := q) rfl (by first | omega | rfl | (simp only [hh6, hol, oft_len, List.length_map, List.length_set, List.length_append, List.length_take, List.length_drop, List.length_replicate, List.length_cons, List.length_nil] <;> omega)))) rfl ?_
      refine w_pure want_none (y_indexA Try.underlying131 Try.sizeOf3 rfl rfl rfl rfl (i := (h.getD q 0).toNat) (by first | rfl | omega) (by omega)) rfl ?_
      refine w_pure want_none (y_load1 Try.isAgg3 hs72 rfl rfl (ats_ints (i := 2) (j := (h.getD q 0).toNat) rfl (by first | omega | rfl | (simp only [hh6, hol, oft_len, List.length_map, List.length_set, List.length_append, List.length_take, List.length_drop, List.length_replicate, List.length_cons, List.length_nil] <;> omega)))) rfl ?_
      refine w_pure want_none (y_add rfl rfl rfl rfl (by omega) (by omega)) rfl ?_
      refine w_pure want_none (y_indexA Try.underlying131 Try.sizeOf3 rfl rfl rfl rfl (i := (h.getD q 0).toNat) (by first | rfl | omega) (by omega)) rfl ?_
      refine w_storeAtI (i := 2) (j := (h.getD q 0).toNat) want_none Try.sizeOf3 rfl rfl rfl rfl hs72 rfl (by first | omega | rfl | (simp only [hh6, hol, oft_len, List.length_map, List.length_set, List.length_append, List.length_take, List.length_drop, List.length_replicate, List.length_cons, List.length_nil] <;> omega)) (fun w75 hs76 => ?_)
      refine w_nil ?_
      refine q_then (hK73 _ _ ?_)
      refine w_region ?_
      refine w_pure want_none (y_load1 Try.isAgg3 hs76 rfl rfl (ats_own (i := 1) (vs := [_]) rfl rfl)) rfl ?_
      refine w_pure want_none (y_add rfl rfl rfl rfl (by omega) (by omega)) rfl ?_
      refine w_store (i := 1) (v := .int _ _) (vs := [_]) want_none Try.sizeOf3 rfl rfl rfl rfl rfl (by simp [Value.oneCell']) hs76 rfl (Nat.le_of_ble_eq_true rfl) (fun w77 hs78 => ?_)
      refine w_nil ?_
      refine q_blk_normal ?_
      refine rd_normal (_ :: _ :: []) hs78.tail ?_
      exact oft_cells (by omega) (oft_take hi2 (by rw [← hat]; omega) (by omega))
     ·
      intro bd Bx w79 hJ hs
      subst hJ
      rw [List.length_map, List.length_map, List.take_length] at hs
      replace hs := (show St _ _ (_ :: _ :: _ :: _ :: _ :: (dfs bs ++ (M ++ (_ :: _ :: F)))) from hs)
      refine q_blk_normal ?_
      refine q_then (hK57 _ _ ?_)
      refine w_seq (fun K81 hK80 => ?_)
      refine w_region ?_
      refine w_pure want_none (y_sliceA Try.underlying131 Try.sizeOf3 rfl rfl) rfl ?_
      refine w_call want_none Try.call88 rfl rfl rfl rfl ((by have h := c88 _ (oftL q (Ha.ways l 0)) 13 (by rw [oft_len]; omega) (by rw [oft_len]; omega) (sl_ints_own (i := 2) rfl) hs; rw [left_max, oft_len] at h; exact h)) ?_
      rintro _ w83 ⟨rfl, hs84⟩
      refine w_pure want_none (y_assign (v := .int _ _) rfl rfl) rfl ?_
      refine w_nil ?_
      refine q_then (hK80 _ _ ?_)
      refine w_seq (fun K86 hK85 => ?_)
      refine w_region ?_
      refine w_pure want_none (y_move (v := .int _ _) rfl rfl) rfl ?_
      refine w_pure want_none (y_load1 Try.isAgg3 hs84 rfl rfl (ats_own (i := 1) (vs := [_]) rfl rfl)) rfl ?_
      refine w_pure want_none (y_lss rfl rfl rfl rfl) rfl ?_
      refine w_pure want_none (y_move (v := .bool _) rfl rfl) rfl ?_
      refine w_split (fun h87 => ?_) (fun h87 => ?_)
      ·
       try simp only [Bool.not_eq_true', Bool.not_eq_false', decide_eq_true_eq, decide_eq_false_iff_not, Int.not_lt, Int.not_le] at h87
       refine w_pure (want_yes rfl rfl rfl) (y_move (v := .int _ _) rfl rfl) rfl ?_
       refine w_pure (want_yes rfl rfl rfl) (y_lss rfl rfl rfl rfl) rfl ?_
       refine w_pure (want_yes rfl rfl rfl) (y_move (v := .bool _) rfl rfl) rfl ?_
       refine w_split (fun h88 => ?_) (fun h88 => ?_)
       ·
        try simp only [Bool.not_eq_true', Bool.not_eq_false', decide_eq_true_eq, decide_eq_false_iff_not, Int.not_lt, Int.not_le] at h88
        refine w_skipop rfl rfl rfl ?_
        refine w_skipop rfl rfl rfl ?_
        refine w_skipop rfl rfl rfl ?_
        refine w_pure (want_yes rfl rfl rfl) (y_pickT (v := _) rfl rfl rfl rfl) rfl ?_
        refine w_pure want_none (y_pickT (v := .bool _) rfl rfl rfl rfl) rfl ?_
        refine w_nil ?_
        refine q_then (hK85 _ _ ?_)
        refine w_condT rfl rfl ?_
        refine w_region ?_
        refine w_pure want_none (y_load1 Try.isAgg3 hs84 rfl rfl (ats_own (i := 4) (vs := [_]) rfl rfl)) rfl ?_
        refine w_pure want_none (y_move (v := .int _ _) rfl rfl) rfl ?_
        refine w_pure want_none (y_assign (v := .int _ _) rfl rfl) rfl ?_
        refine w_pure want_none (y_assign (v := .int _ _) rfl rfl) rfl ?_
        refine w_nil ?_
        refine q_blk_normal ?_
        refine q_then (hK36 _ _ ?_)
        refine w_region ?_
        refine w_pure want_none (y_add rfl rfl rfl rfl (by omega) (by omega)) rfl ?_
        refine w_pure want_none (y_move (v := .int _ _) rfl rfl) rfl ?_
        refine w_nil ?_
        refine q_then (hN28 _ _ (NxD.intro (bd :: bs) (l.bunches.length - (q + 1)) (by omega) (by repeat (first | exact agree_mix | refine agree_upd rfl ?_ | refine agree_updL rfl ?_ _ | refine agree_mixin rfl ?_)) ?_))
        first
          | (have hn := next_yes (ws := (Ha.ways l 0)) (k := q) (by omega) (by omega)
             exact ⟨q + 1, iv3 (by rw [hn]) (by rw [hn]) rfl, by omega, rfl, next_back hs84⟩)
          | (have hn := next_no (ws := (Ha.ways l 0)) (k := q) (by omega)
             exact ⟨q + 1, iv3 (by rw [hn]) (by rw [hn]) rfl, by omega, rfl, next_back hs84⟩)
       ·
        try simp only [Bool.not_eq_true', Bool.not_eq_false', decide_eq_true_eq, decide_eq_false_iff_not, Int.not_lt, Int.not_le] at h88
        refine w_pure (want_yes rfl rfl rfl) (y_move (v := .int _ _) rfl rfl) rfl ?_
        refine w_pure (want_yes rfl rfl rfl) (y_move (v := .int _ _) rfl rfl) rfl ?_
        refine w_pure (want_yes rfl rfl rfl) (y_lss rfl rfl rfl rfl) rfl ?_
        refine w_pure (want_yes rfl rfl rfl) (y_pickF (v := .bool _) rfl rfl rfl rfl) rfl ?_
        refine w_pure want_none (y_pickT (v := .bool _) rfl rfl rfl rfl) rfl ?_
        refine w_nil ?_
        refine q_then (hK85 _ _ ?_)
        refine w_cond rfl rfl (fun h89 => ?_) (fun h89 => ?_)
        ·
         try simp only [Bool.not_eq_true', Bool.not_eq_false', decide_eq_true_eq, decide_eq_false_iff_not, Int.not_lt, Int.not_le] at h89
         refine w_region ?_
         refine w_pure want_none (y_load1 Try.isAgg3 hs84 rfl rfl (ats_own (i := 4) (vs := [_]) rfl rfl)) rfl ?_
         refine w_pure want_none (y_move (v := .int _ _) rfl rfl) rfl ?_
         refine w_pure want_none (y_assign (v := .int _ _) rfl rfl) rfl ?_
         refine w_pure want_none (y_assign (v := .int _ _) rfl rfl) rfl ?_
         refine w_nil ?_
         refine q_blk_normal ?_
         refine q_then (hK36 _ _ ?_)
         refine w_region ?_
         refine w_pure want_none (y_add rfl rfl rfl rfl (by omega) (by omega)) rfl ?_
         refine w_pure want_none (y_move (v := .int _ _) rfl rfl) rfl ?_
         refine w_nil ?_
         refine q_then (hN28 _ _ (NxD.intro (bd :: bs) (l.bunches.length - (q + 1)) (by omega) (by repeat (first | exact agree_mix | refine agree_upd rfl ?_ | refine agree_updL rfl ?_ _ | refine agree_mixin rfl ?_)) ?_))
         first
           | (have hn := next_yes (ws := (Ha.ways l 0)) (k := q) (by omega) (by omega)
              exact ⟨q + 1, iv3 (by rw [hn]) (by rw [hn]) rfl, by omega, rfl, next_back hs84⟩)
           | (have hn := next_no (ws := (Ha.ways l 0)) (k := q) (by omega)
              exact ⟨q + 1, iv3 (by rw [hn]) (by rw [hn]) rfl, by omega, rfl, next_back hs84⟩)
        ·
         try simp only [Bool.not_eq_true', Bool.not_eq_false', decide_eq_true_eq, decide_eq_false_iff_not, Int.not_lt, Int.not_le] at h89
         refine w_skip ?_
         refine q_blk_normal ?_
         refine q_then (hK36 _ _ ?_)
         refine w_region ?_
         refine w_pure want_none (y_add rfl rfl rfl rfl (by omega) (by omega)) rfl ?_
         refine w_pure want_none (y_move (v := .int _ _) rfl rfl) rfl ?_
         refine w_nil ?_
         refine q_then (hN28 _ _ (NxD.intro (bd :: bs) (l.bunches.length - (q + 1)) (by omega) (by repeat (first | exact agree_mix | refine agree_upd rfl ?_ | refine agree_updL rfl ?_ _ | refine agree_mixin rfl ?_)) ?_))
         first
           | (have hn := next_yes (ws := (Ha.ways l 0)) (k := q) (by omega) (by omega)
              exact ⟨q + 1, iv3 (by rw [hn]) (by rw [hn]) rfl, by omega, rfl, next_back hs84⟩)
           | (have hn := next_no (ws := (Ha.ways l 0)) (k := q) (by omega)
              exact ⟨q + 1, iv3 (by rw [hn]) (by rw [hn]) rfl, by omega, rfl, next_back hs84⟩)
      ·
       try simp only [Bool.not_eq_true', Bool.not_eq_false', decide_eq_true_eq, decide_eq_false_iff_not, Int.not_lt, Int.not_le] at h87
       refine w_skipop rfl rfl rfl ?_
       refine w_skipop rfl rfl rfl ?_
       refine w_skipop rfl rfl rfl ?_
       refine w_skipop' rfl rfl rfl ?_
       refine w_skipop' rfl rfl rfl ?_
       refine w_skipop' rfl rfl rfl ?_
       refine w_skipop rfl rfl rfl ?_
       refine w_pure want_none (y_pickF (v := _) rfl rfl rfl rfl) rfl ?_
       refine w_nil ?_
       refine q_then (hK85 _ _ ?_)
       refine w_condF rfl rfl ?_
       refine w_skip ?_
       refine q_blk_normal ?_
       refine q_then (hK36 _ _ ?_)
       refine w_region ?_
       refine w_pure want_none (y_add rfl rfl rfl rfl (by omega) (by omega)) rfl ?_
       refine w_pure want_none (y_move (v := .int _ _) rfl rfl) rfl ?_
       refine w_nil ?_
       refine q_then (hN28 _ _ (NxD.intro (bd :: bs) (l.bunches.length - (q + 1)) (by omega) (by repeat (first | exact agree_mix | refine agree_upd rfl ?_ | refine agree_updL rfl ?_ _ | refine agree_mixin rfl ?_)) ?_))
       first
         | (have hn := next_yes (ws := (Ha.ways l 0)) (k := q) (by omega) (by omega)
            exact ⟨q + 1, iv3 (by rw [hn]) (by rw [hn]) rfl, by omega, rfl, next_back hs84⟩)
         | (have hn := next_no (ws := (Ha.ways l 0)) (k := q) (by omega)
            exact ⟨q + 1, iv3 (by rw [hn]) (by rw [hn]) rfl, by omega, rfl, next_back hs84⟩)
     ·
      intro _ _ _ _ hJ
      exact hJ.elim
    ·
     try simp only [Bool.not_eq_true', Bool.not_eq_false', decide_eq_true_eq, decide_eq_false_iff_not, Int.not_lt, Int.not_le] at h35
     refine w_exit ?_
     refine q_then_exit ?_
     refine q_then_exit ?_
     refine q_blk_this ?_
     refine q_then (hK24 _ _ ?_)
     refine w_seq (fun K91 hK90 => ?_)
     refine w_seq (fun K93 hK92 => ?_)
     refine w_region ?_
     refine w_pure want_none (y_move (v := .int _ _) rfl rfl) rfl ?_
     refine w_pure want_none (y_lss rfl rfl rfl rfl) rfl ?_
     refine w_nil ?_
     refine q_then (hK92 _ _ ?_)
     refine w_cond rfl rfl (fun h94 => ?_) (fun h94 => ?_)
     ·
      try simp only [Bool.not_eq_true', Bool.not_eq_false', decide_eq_true_eq, decide_eq_false_iff_not, Int.not_lt, Int.not_le] at h94
      refine w_seq (fun K96 hK95 => ?_)
      refine w_region ?_
      refine w_pure want_none (y_assign (v := _) rfl rfl) rfl ?_
      refine w_pure want_none (y_assign (v := _) rfl rfl) rfl ?_
      refine w_pure want_none (y_assign (v := _) rfl rfl) rfl ?_
      refine w_nil ?_
      refine q_then (hK95 _ _ ?_)
      refine w_ret ?_
      refine q_then_ret ?_
      refine q_retMM (l := [.tmp 2, .tmp 3, .tmp 4]) (vs := [_, _, _]) hs rfl (fun w97 hs98 => ⟨⟨⟨rfl, show _ = (.int _ _ : Value) from rfl⟩, ⟨rfl, show _ = (.int _ _ : Value) from rfl⟩, ⟨rfl, show _ = (.int _ _ : Value) from rfl⟩, trivial⟩, ?_⟩)
      have hqn : q = l.bunches.length := by omega
      subst hqn
      first
        | exact ⟨by unfold nextP; rw [if_neg (by simp [hee]), if_pos (by assumption)]; rfl, hs98.drop.tail.tail⟩
        | exact ⟨by unfold nextP; rw [if_neg (by simp [hee]), if_neg (by omega)]; rfl, hs98.drop.tail.tail⟩
     ·
      try simp only [Bool.not_eq_true', Bool.not_eq_false', decide_eq_true_eq, decide_eq_false_iff_not, Int.not_lt, Int.not_le] at h94
      refine w_skip ?_
      refine q_then (hK90 _ _ ?_)
      refine w_seq (fun K100 hK99 => ?_)
      refine w_region ?_
      refine w_pure want_none (y_move (v := .int _ _) rfl rfl) rfl ?_
      refine w_pure want_none (y_move (v := .int _ _) rfl rfl) rfl ?_
      refine w_pure want_none (y_assign (v := .int _ _) rfl rfl) rfl ?_
      refine w_pure want_none (y_assign (v := .int _ _) rfl rfl) rfl ?_
      refine w_pure want_none (y_assign (v := _) rfl rfl) rfl ?_
      refine w_nil ?_
      refine q_then (hK99 _ _ ?_)
      refine w_ret ?_
      refine q_retMM (l := [.tmp 2, .tmp 3, .tmp 4]) (vs := [_, _, _]) hs rfl (fun w101 hs102 => ⟨⟨⟨rfl, show _ = (.int _ _ : Value) from rfl⟩, ⟨rfl, show _ = (.int _ _ : Value) from rfl⟩, ⟨rfl, show _ = (.int _ _ : Value) from rfl⟩, trivial⟩, ?_⟩)
      have hqn : q = l.bunches.length := by omega
      subst hqn
      first
        | exact ⟨by unfold nextP; rw [if_neg (by simp [hee]), if_pos (by assumption)]; rfl, hs102.drop.tail.tail⟩
        | exact ⟨by unfold nextP; rw [if_neg (by simp [hee]), if_neg (by omega)]; rfl, hs102.drop.tail.tail⟩

end Go.Proofs
/- Plain words of the hand layer: the document's example. No conditions. -/
set_option linter.unusedSimpArgs false
set_option linter.unusedVariables false
namespace Go.Rt.Ha
def nNine : ByteArray := ⟨#[110, 105, 110, 101]⟩
def nEight : ByteArray := ⟨#[101, 105, 103, 104, 116]⟩
def nSeven : ByteArray := ⟨#[115, 101, 118, 101, 110]⟩
def exL (m : List Count) : Lot := ⟨[⟨nNine, 9, 1⟩, ⟨nEight, 8, 3⟩, ⟨nSeven, 7, 3⟩], [⟨9, 10, 0, 0⟩, ⟨8, 9, 1, 2⟩, ⟨7, 8, 0, 4⟩, ⟨6, 7, 2, 2⟩], ⟨3, 18⟩ :: m⟩
theorem ex_hands1 : handsP (exL []) 0 = ((9, 10), 0) := by decide +kernel
theorem ex_grade1 : gradeP (exL []) 2 = ([-1, 1, 2], 0) := by decide +kernel
theorem ex_total1 : totalP (exL []) 0 = ((9, 18), 0) := by decide +kernel
theorem ex_ref1 : refusedP (exL [⟨12, 13⟩]) = ([3], [2, 3], 0) := by decide +kernel
theorem ex_pick1 : pickP (exL []) 1 18 = ([0, 1], 0) := by decide +kernel
theorem ex_pick2 : pickP (exL []) 1 19 = ([], 9) := by decide +kernel
theorem ex_next1 : nextP (exL []) = (0, 4, 0) := by decide +kernel
theorem ex_wrong1 : wrongP (exL [⟨1, 8⟩]) = ([1], 0) := by decide +kernel
theorem ex_hands2 : handsP (exL [⟨1, 8⟩]) 0 = ((0, 0), 8) := by decide +kernel
theorem ex_hands3 : handsP (exL [⟨12, 13⟩]) 2 = ((7, 7), 0) := by decide +kernel
theorem ex_grade2 : gradeP (exL []) 0 = ([0], 0) := by decide +kernel
theorem ex_grade3 : gradeP (exL []) 1 = ([0, 1], 0) := by decide +kernel
theorem ex_grade4 : gradeP (exL []) 3 = ([-1, 2], 0) := by decide +kernel
theorem ex_total2 : totalP (exL []) 1 = ((0, 17), 0) := by decide +kernel
theorem ex_ref2 : refusedP (exL []) = ([], [2, 3], 0) := by decide +kernel
theorem ex_pick3 : pickP (exL []) 1 9 = ([0], 0) := by decide +kernel
theorem ex_next2 : nextP (exL [⟨12, 13⟩]) = (0, 1, 0) := by decide +kernel
theorem ex_wrong2 : wrongP (exL []) = ([], 0) := by decide +kernel
end Go.Rt.Ha
/- The walking engine, part 16: the check of one order of a region, over numbers as sets of bits. No conditions. -/
set_option linter.unusedSimpArgs false
set_option linter.unusedVariables false
namespace Go.Rt
open Go.RowKit
variable {r : Option Nat} {P : Program} {ops : Array Oper} {Q : Exit → Act → World → Prop} {rest : List Oper} {n : Nat} {ρ : Nat → Value} {ds : List Deferred} {w w0 : World} {L : List (Nat × Obj)}
def tb (m i : Nat) : Bool := Nat.beq (Nat.land (Nat.shiftRight m i) 1) 1
theorem tb_eq (m i : Nat) : tb m i = m.testBit i := by
  have h : Nat.land (Nat.shiftRight m i) 1 = (m >>> i) % 2 := by
    show (m >>> i) &&& 1 = _
    exact Nat.and_one_is_mod _
  have h2 : m.testBit i = decide ((m >>> i) % 2 = 1) := by rw [Nat.testBit_eq_decide_div_mod_eq, Nat.shiftRight_eq_div_pow]
  unfold tb
  rw [h, h2, Bool.eq_iff_iff, Nat.beq_eq, decide_eq_true_eq]
def orB (m i : Nat) : Nat := Nat.lor m (Nat.shiftLeft 1 i)
theorem tb_orB (m i j : Nat) : tb (orB m i) j = (tb m j || decide (i = j)) := by
  rw [tb_eq, tb_eq]
  show (m ||| (1 <<< i)).testBit j = _
  rw [Nat.testBit_or, Nat.shiftLeft_eq, Nat.one_mul, Nat.testBit_two_pow]
def maskOf : List Nat → Nat
  | [] => 0
  | x :: l => orB (maskOf l) x
theorem tb_mask (j : Nat) : ∀ l : List Nat, tb (maskOf l) j = l.contains j
  | [] => by simp [maskOf, tb_eq]
  | x :: l => by
    simp only [maskOf, tb_orB, tb_mask j l, List.contains_cons]
    rw [Bool.or_comm]
    congr 1
    rw [Bool.eq_iff_iff]; simp only [decide_eq_true_eq, beq_iff_eq, Nat.beq_eq]; exact eq_comm
def subN (a m : Nat) : Bool := Nat.beq (Nat.land a m) a
theorem sub_iff (a m : Nat) : subN a m = true ↔ ∀ j, tb a j = true → tb m j = true := by
  unfold subN
  rw [Nat.beq_eq]
  constructor
  · intro h j hj
    have h1 : (a &&& m).testBit j = a.testBit j := by rw [show a &&& m = a from h]
    rw [Nat.testBit_and] at h1
    rw [tb_eq] at hj ⊢
    rw [hj] at h1; simpa using h1
  · intro h
    show a &&& m = a
    apply Nat.eq_of_testBit_eq
    intro j
    rw [Nat.testBit_and]
    have := h j
    rw [tb_eq, tb_eq] at this
    cases ha : a.testBit j with
    | false => rfl
    | true => rw [this ha]; rfl
/-- What the check needs of an operation. -/
structure OpS where
  nd : Nat
  dst : Option Nat
  lk : Nat
def opS (ops : Array Oper) (o : Oper) : OpS := ⟨maskOf ((o.after.toList.filter (Region.binds .any)).map (·.on)), o.dst, maskOf (o.looksAt ops)⟩
def sumS (ops : Array Oper) : List OpS := ops.toList.map (opS ops)
def readyN : List OpS → Nat → Nat → List Nat
  | [], _, _ => []
  | x :: s, i, m => bif (!tb m i) && subN x.nd m then i :: readyN s (i + 1) m else readyN s (i + 1) m
def apartN (x y : OpS) : Bool :=
  (match x.dst with | some d => !tb y.lk d && y.dst != some d | none => true) && (match y.dst with | some d => !tb x.lk d | none => true)
def freeN (xi : OpS) (i m : Nat) : List OpS → Nat → Bool
  | [], _ => true
  | y :: s, j => (Nat.beq j i || tb m j || tb y.nd i || apartN xi y) && freeN xi i m s (j + 1)
def closeN (s : List OpS) (i : Nat) : Nat → Nat → Nat
  | 0, m => m
  | k + 1, m => closeN s i k ((readyN s 0 m).foldl (fun m j => bif Nat.beq j i then m else orB m j) m)
def memN (i : Nat) : List Nat → Bool
  | [] => false
  | j :: l => Nat.beq j i || memN i l
def onlyN (i : Nat) : List Nat → Bool
  | [j] => Nat.beq j i
  | _ => false
def drawN (s : List OpS) (n : Nat) (late : List Nat) : List (Nat × Nat) → Nat → Bool
  | [], m => match readyN s 0 m with | [] => true | _ => false
  | (i, t) :: rest, m =>
    (match t with
     | 0 => memN i (readyN s 0 m) && (match s[i]? with | some x => freeN x i m s 0 | none => false) && !memN i late
     | 1 => memN i (readyN s 0 m) && (match s[i]? with | some x => freeN x i m s 0 | none => false) && !memN i late &&
        (let c := closeN s i n m; ((readyN s 0 c).all fun j => Nat.beq j i) && !(late.any fun q => tb c q) && !tb c i && subN m c)
     | 2 => onlyN i (readyN s 0 m) && !memN i late
     | _ => onlyN i (readyN s 0 m) && memN i late) && drawN s n late rest (orB m i)
def drawOKN (ops : Array Oper) (late : List Nat) (ord : List (Nat × Nat)) : Bool :=
  Region.noSelect ops && noDefer ops && Nat.beq ord.length ops.size && drawN (sumS ops) ops.size late ord 0
/-- A list of Bools as a number. -/
def Rep (ops : Array Oper) (l : Array Bool) (m : Nat) : Prop := l.size = ops.size ∧ ∀ j, l.getD j false = tb m j
theorem memN_eq (i : Nat) : ∀ l : List Nat, memN i l = l.contains i
  | [] => rfl
  | j :: l => by
    simp only [memN, memN_eq i l, List.contains_cons]
    congr 1
    rw [Bool.eq_iff_iff]; simp only [decide_eq_true_eq, beq_iff_eq, Nat.beq_eq]; exact eq_comm
theorem onlyN_eq {i : Nat} {l : List Nat} (h : onlyN i l = true) : l = [i] := by
  match l with
  | [] => cases h
  | [j] => simp only [onlyN, Nat.beq_eq] at h; rw [h]
  | _ :: _ :: _ => cases h
theorem ready_rep {l : Array Bool} {m : Nat} (h : Rep ops l m) : Region.ready .any ops l = readyN (sumS ops) 0 m := by
  have key : ∀ (s : List Oper) (i : Nat), (∀ k (hk : k < s.length), ops[i + k]? = some s[k]) → (List.range' i s.length).filter (fun j => !l.getD j true && ((ops[j]?).map (·.after.all fun e => !Region.binds .any e || l.getD e.on false)).getD false) = readyN (s.map (opS ops)) i m := by
    intro s
    induction s with
    | nil => intro i _; rfl
    | cons x s ih =>
      intro i hk
      have hx : ops[i]? = some x := hk 0 (by simp)
      have hlt : i < ops.size := (Array.getElem?_eq_some_iff.1 hx).1
      have hih := ih (i + 1) (fun k hk2 => by have := hk (k + 1) (by simpa using hk2); rw [show i + 1 + k = i + (k + 1) by omega]; simpa using this)
      have hT : l.getD i true = tb m i := by
        rw [← h.2 i]
        have : i < l.size := by rw [h.1]; exact hlt
        simp [this]
      have hA : (x.after.all fun e => !Region.binds .any e || l.getD e.on false) = subN (opS ops x).nd m := by
        rw [Bool.eq_iff_iff, sub_iff, Array.all_eq_true_iff_forall_mem]
        unfold opS
        dsimp only
        constructor
        · intro hall j hj
          rw [tb_mask, List.contains_iff_mem] at hj
          obtain ⟨e, he, rfl⟩ := List.mem_map.1 hj
          obtain ⟨he1, he2⟩ := List.mem_filter.1 he
          have := hall e (by simpa using he1)
          rw [he2, h.2] at this
          simpa using this
        · intro hall e he
          rw [h.2]
          cases hb : Region.binds .any e with
          | false => rfl
          | true =>
            have := hall e.on (by rw [tb_mask, List.contains_iff_mem]; exact List.mem_map.2 ⟨e, List.mem_filter.2 ⟨by simpa using he, hb⟩, rfl⟩)
            simpa using this
      rw [List.length_cons, List.range'_succ, List.filter_cons, List.map_cons, readyN, ← hih]
      simp only [hx, hT, Option.map_some, Option.getD_some, hA]
      cases (!tb m i && subN (opS ops x).nd m) <;> rfl
  have := key ops.toList 0 (fun k hk => by rw [Nat.zero_add]; simp at hk ⊢)
  unfold Region.ready sumS
  rw [← this, List.range_eq_range', Array.length_toList]
theorem ready_lt {i m : Nat} (h : memN i (readyN (sumS ops) 0 m) = true) : i < ops.size := by
  have key : ∀ (s : List OpS) (b : Nat), memN i (readyN s b m) = true → i < b + s.length := by
    intro s
    induction s with
    | nil => intro b h; simp [readyN, memN] at h
    | cons x s ih =>
      intro b h
      simp only [readyN] at h
      cases hc : (!tb m b && subN x.nd m) with
      | false => rw [hc] at h; have := ih (b + 1) h; simp only [List.length_cons]; omega
      | true =>
        rw [hc] at h
        simp only [cond_true, memN, Bool.or_eq_true, Nat.beq_eq] at h
        rcases h with h | h
        · simp only [List.length_cons]; omega
        · have := ih (b + 1) h; simp only [List.length_cons]; omega
  have := key _ _ h
  simpa [sumS] using this
theorem rep_set {l : Array Bool} {m i : Nat} (h : Rep ops l m) (hi : i < ops.size) : Rep ops (l.setIfInBounds i true) (orB m i) := by
  refine ⟨by simpa using h.1, fun j => ?_⟩
  rw [tb_orB, ← h.2 j]
  by_cases e : i = j
  · subst e
    have : i < l.size := by rw [h.1]; exact hi
    simp [this]
  · simp [e, Array.getElem?_setIfInBounds_ne e]
theorem apart_rep (x y : Oper) : apartN (opS ops x) (opS ops y) = x.apart ops y := by
  unfold apartN Oper.apart opS
  dsimp only
  congr 1
  · cases x.dst with
    | none => rfl
    | some d => dsimp only; rw [tb_mask]
  · cases y.dst with
    | none => rfl
    | some d => dsimp only; rw [tb_mask]
theorem free_rep {l : Array Bool} {m i : Nat} (h : Rep ops l m) (hf : (match (sumS ops)[i]? with | some x => freeN x i m (sumS ops) 0 | none => false) = true) : Region.free .any ops l i = true := by
  unfold Region.free
  have hsum : (sumS ops)[i]? = (ops[i]?).map (opS ops) := by simp [sumS]
  rw [hsum] at hf
  cases hoi : ops[i]? with
  | none => rw [hoi] at hf; cases hf
  | some oi =>
    rw [hoi] at hf
    dsimp only [Option.map_some] at hf ⊢
    rw [List.all_eq_true]
    intro j hj
    rw [List.mem_range] at hj
    have key : ∀ (s : List Oper) (b : Nat), freeN (opS ops oi) i m (s.map (opS ops)) b = true → ∀ k (hk : k < s.length), (Nat.beq (b + k) i || tb m (b + k) || tb (opS ops s[k]).nd i || apartN (opS ops oi) (opS ops s[k])) = true := by
      intro s
      induction s with
      | nil => intro b _ k hk; simp at hk
      | cons x s ih =>
        intro b hb k hk
        simp only [List.map_cons, freeN] at hb
        rw [Bool.and_eq_true] at hb
        match k with
        | 0 => simpa using hb.1
        | k + 1 =>
          have := ih (b + 1) hb.2 k (by simpa using hk)
          rw [show b + (k + 1) = b + 1 + k by omega]
          simpa using this
    have hk := key ops.toList 0 hf j (by simpa using hj)
    rw [Nat.zero_add] at hk
    have hoj : ops[j]? = some ops[j] := by simp [hj]
    rw [hoj]
    dsimp only
    have hT : l.getD j true = tb m j := by
      rw [← h.2 j]
      have : j < l.size := by rw [h.1]; exact hj
      simp [this]
    rw [hT, ← apart_rep]
    simp only [Bool.or_eq_true, Nat.beq_eq] at hk ⊢
    rcases hk with ((hk | hk) | hk) | hk
    · left; left; simpa using hk
    · left; right; exact hk
    · right; left
      rw [Array.any_eq_true']
      unfold opS at hk
      dsimp only at hk
      rw [tb_mask, List.contains_iff_mem] at hk
      obtain ⟨e, he, hei⟩ := List.mem_map.1 hk
      obtain ⟨he1, he2⟩ := List.mem_filter.1 he
      exact ⟨e, by simpa using he1, by simp [he2, hei]⟩
    · right; right
      simpa using hk
theorem close_rep (i : Nat) : ∀ (k : Nat) {l : Array Bool} {m : Nat}, Rep ops l m → Rep ops (closeB ops i k l) (closeN (sumS ops) i k m)
  | 0, _, _, h => h
  | k + 1, l, m, h => by
    unfold closeB closeN
    refine close_rep i k ?_
    rw [ready_rep h]
    have key : ∀ (xs : List Nat) (l : Array Bool) (m : Nat), (∀ x ∈ xs, x < ops.size) → Rep ops l m → Rep ops (xs.foldl (fun l j => bif Nat.beq j i then l else l.setIfInBounds j true) l) (xs.foldl (fun m j => bif Nat.beq j i then m else orB m j) m) := by
      intro xs
      induction xs with
      | nil => intro l m _ h; exact h
      | cons x xs ih =>
        intro l m hx h
        rw [List.foldl_cons, List.foldl_cons]
        refine ih _ _ (fun y hy => hx y (.tail _ hy)) ?_
        cases Nat.beq x i
        · exact rep_set h (hx x (.head _))
        · exact h
    exact key _ _ _ (fun x hx => ready_lt (by rw [memN_eq, List.contains_iff_mem]; exact hx)) h
theorem draw_rep {late : List Nat} : ∀ (ord : List (Nat × Nat)) {l : Array Bool} {m : Nat}, Rep ops l m → drawN (sumS ops) ops.size late ord m = true → drawB ops late ord l = true
  | [], l, m, h, hd => by
    simp only [drawN] at hd
    simp only [drawB, ready_rep h]
    cases hr : readyN (sumS ops) 0 m with
    | nil => rfl
    | cons _ _ => rw [hr] at hd; cases hd
  | (i, t) :: rest, l, m, h, hd => by
    simp only [drawN, Bool.and_eq_true] at hd
    obtain ⟨h1, h2⟩ := hd
    simp only [drawB, Bool.and_eq_true]
    have hlt : i < ops.size := by
      match t, h1 with
      | 0, h1 => simp only [Bool.and_eq_true] at h1; exact ready_lt h1.1.1
      | 1, h1 => simp only [Bool.and_eq_true] at h1; exact ready_lt h1.1.1.1
      | 2, h1 => simp only [Bool.and_eq_true] at h1; exact ready_lt (m := m) (by rw [onlyN_eq h1.1]; simp [memN])
      | t + 3, h1 => simp only [Bool.and_eq_true] at h1; exact ready_lt (m := m) (by rw [onlyN_eq h1.1]; simp [memN])
    refine ⟨?_, draw_rep rest (rep_set h hlt) h2⟩
    rw [ready_rep h]
    match t, h1 with
    | 0, h1 =>
      simp only [Bool.and_eq_true, memN_eq] at h1 ⊢
      exact ⟨⟨h1.1.1, free_rep h h1.1.2⟩, h1.2⟩
    | 1, h1 =>
      simp only [Bool.and_eq_true, memN_eq] at h1 ⊢
      obtain ⟨⟨⟨a1, a2⟩, a3⟩, ⟨⟨⟨a4, a5⟩, a6⟩, a7⟩⟩ := h1
      have hc := close_rep i ops.size h
      refine ⟨⟨⟨a1, free_rep h a2⟩, a3⟩, ⟨⟨⟨?_, ?_⟩, ?_⟩, ?_⟩⟩
      · rw [ready_rep hc]; exact a4
      · rw [← a5]
        unfold badB
        congr 2
        funext q; exact hc.2 q
      · rw [hc.2]; exact a6
      · rw [List.all_eq_true]
        intro j _
        have := (sub_iff _ _).1 a7 j
        rw [h.2, hc.2]
        cases ht : tb m j with
        | false => rfl
        | true => rw [this ht]; rfl
    | 2, h1 =>
      simp only [Bool.and_eq_true, memN_eq] at h1 ⊢
      exact ⟨by rw [onlyN_eq h1.1]; simp, h1.2⟩
    | t + 3, h1 =>
      simp only [Bool.and_eq_true, memN_eq] at h1 ⊢
      exact ⟨by rw [onlyN_eq h1.1]; simp, h1.2⟩
theorem drawOK_of {late : List Nat} {ord : List (Nat × Nat)} (h : drawOKN ops late ord = true) : drawOK ops late ord = true := by
  unfold drawOKN at h
  unfold drawOK
  simp only [Bool.and_eq_true] at h ⊢
  exact ⟨h.1, draw_rep ord ⟨by simp, fun j => by
    have : tb 0 j = false := by rw [tb_eq]; exact Nat.zero_testBit j
    rw [this]
    by_cases hj : j < ops.size
    · simp [hj]
    · simp [hj]⟩ h.2⟩
end Go.Rt
/- Walks of this seat, printed by gen.py over the engine: what each function returns, in whatever world. No conditions but those of each contract. -/
set_option linter.unusedVariables false
set_option linter.unusedSimpArgs false
set_option maxRecDepth 20000
namespace Go.Proofs
open Go.Rt Go.Rt.Ha
attribute [local irreducible] WL WC Con Yd At Ats Sl Agree DW
theorem Try_S_fb3 (x0 : Int) (x1 : Int) (w : World) : (Instr.build 34 [(0, .int .i64 x0), (1, .int .i64 x1)].toArray).run Try.prog w = .ok (.agg #[.int .i64 x0, .int .i64 x1]) w := by kernel_rfl
theorem Try_S_fb4 (x0 : ByteArray) (x1 : Int) (x2 : Int) (w : World) : (Instr.build 79 [(0, .string x0), (1, .int .i64 x1), (2, .int .i64 x2)].toArray).run Try.prog w = .ok (.agg #[.string x0, .int .i64 x1, .int .i64 x2]) w := by kernel_rfl
theorem Try_S_fb5 (x0 : ByteArray) (x1 : Int) (x2 : Int) (x3 : ByteArray) (x4 : Int) (x5 : Int) (x6 : ByteArray) (x7 : Int) (x8 : Int) (w : World) : (Instr.buildSlice 22 3 [(0, .agg #[.string x0, .int .i64 x1, .int .i64 x2]), (1, .agg #[.string x3, .int .i64 x4, .int .i64 x5]), (2, .agg #[.string x6, .int .i64 x7, .int .i64 x8])].toArray).run Try.prog w = .ok (.slice (some ⟨w.heap.size, 0, none⟩) 3 3) (w.alloc (Go.Rt.blk 79 [.string x0, .int .i64 x1, .int .i64 x2, .string x3, .int .i64 x4, .int .i64 x5, .string x6, .int .i64 x7, .int .i64 x8])) := by kernel_rfl
theorem Try_S_fb6 (x0 : Int) (x1 : Int) (w : World) : (Instr.build 81 [(0, .agg #[.int .i64 x0, .int .i64 x1])].toArray).run Try.prog w = .ok (.agg #[.int .i64 x0, .int .i64 x1, .int .i64 0, .int .i64 0]) w := by kernel_rfl
theorem Try_S_fb7 (x0 : Int) (x1 : Int) (x2 : Int) (x3 : Int) (w : World) : (Instr.build 81 [(0, .agg #[.int .i64 x0, .int .i64 x1]), (1, .agg #[.int .i64 x2, .int .i64 x3])].toArray).run Try.prog w = .ok (.agg #[.int .i64 x0, .int .i64 x1, .int .i64 x2, .int .i64 x3]) w := by kernel_rfl
theorem Try_S_fb8 (x0 : Int) (x1 : Int) (x2 : Int) (x3 : Int) (x4 : Int) (x5 : Int) (x6 : Int) (x7 : Int) (x8 : Int) (x9 : Int) (x10 : Int) (x11 : Int) (x12 : Int) (x13 : Int) (x14 : Int) (x15 : Int) (w : World) : (Instr.buildSlice 23 4 [(0, .agg #[.int .i64 x0, .int .i64 x1, .int .i64 x2, .int .i64 x3]), (1, .agg #[.int .i64 x4, .int .i64 x5, .int .i64 x6, .int .i64 x7]), (2, .agg #[.int .i64 x8, .int .i64 x9, .int .i64 x10, .int .i64 x11]), (3, .agg #[.int .i64 x12, .int .i64 x13, .int .i64 x14, .int .i64 x15])].toArray).run Try.prog w = .ok (.slice (some ⟨w.heap.size, 0, none⟩) 4 4) (w.alloc (Go.Rt.blk 81 [.int .i64 x0, .int .i64 x1, .int .i64 x2, .int .i64 x3, .int .i64 x4, .int .i64 x5, .int .i64 x6, .int .i64 x7, .int .i64 x8, .int .i64 x9, .int .i64 x10, .int .i64 x11, .int .i64 x12, .int .i64 x13, .int .i64 x14, .int .i64 x15])) := by kernel_rfl
theorem Try_S_fb9 (x0 : Int) (x1 : Int) (w : World) : (Instr.build 51 [(0, .int .i64 x0), (1, .int .i64 x1)].toArray).run Try.prog w = .ok (.agg #[.int .i64 x0, .int .i64 x1]) w := by kernel_rfl
theorem Try_S_fb10 (x0 : Int) (x1 : Int) (w : World) : (Instr.buildSlice 24 1 [(0, .agg #[.int .i64 x0, .int .i64 x1])].toArray).run Try.prog w = .ok (.slice (some ⟨w.heap.size, 0, none⟩) 1 1) (w.alloc (Go.Rt.blk 51 [.int .i64 x0, .int .i64 x1])) := by kernel_rfl
theorem Try_info51 : Try.prog.info? 51 = some Try.t51 := by kernel_rfl
theorem Try_S_fb12 (x0 : Option Addr) (l0 c0 : Nat) (x1 : Option Addr) (l1 c1 : Nat) (x2 : Option Addr) (l2 c2 : Nat) (w : World) : (Instr.build 26 [(0, .slice x0 l0 c0), (1, .slice x1 l1 c1), (2, .slice x2 l2 c2)].toArray).run Try.prog w = .ok (.agg #[.slice x0 l0 c0, .slice x1 l1 c1, .slice x2 l2 c2]) w := by kernel_rfl
theorem Try_flat34 : flatInts Try.prog 34 2 = true := by kernel_rfl
theorem Try_S_fb14 (x0 : Int) (x1 : Int) (x2 : Int) (w : World) : (Instr.buildSlice 37 3 [(0, .int .i64 x0), (1, .int .i64 x1), (2, .int .i64 x2)].toArray).run Try.prog w = .ok (.slice (some ⟨w.heap.size, 0, none⟩) 3 3) (w.alloc (Go.Rt.blk 3 [.int .i64 x0, .int .i64 x1, .int .i64 x2])) := by kernel_rfl
theorem Try_S_fb15 (x0 : Int) (w : World) : (Instr.buildSlice 37 1 [(0, .int .i64 x0)].toArray).run Try.prog w = .ok (.slice (some ⟨w.heap.size, 0, none⟩) 1 1) (w.alloc (Go.Rt.blk 3 [.int .i64 x0])) := by kernel_rfl
theorem Try_S_fb16 (x0 : Int) (x1 : Int) (w : World) : (Instr.buildSlice 37 2 [(0, .int .i64 x0), (1, .int .i64 x1)].toArray).run Try.prog w = .ok (.slice (some ⟨w.heap.size, 0, none⟩) 2 2) (w.alloc (Go.Rt.blk 3 [.int .i64 x0, .int .i64 x1])) := by kernel_rfl
theorem ats_of {w0 w : World} {L : List (Nat × Obj)} {i b : Nat} {t : TypeId} {cs vs : List Value} (hs : St w0 w L) (hi : L[i]? = some (b, blk t cs)) (h : (cs.drop 0).take vs.length = vs) : Ats w0 L b 0 vs := ats_own hi h
theorem gen_Z {w0 w : World} {L : List (Nat × Obj)} (hs : St w0 w L) : ∃ Z, Z = L ∧ St w0 w Z := ⟨L, rfl, hs⟩
theorem con_true {k : FuncId} {args : List Value} {w : World} {x : Bool} {S : World → Prop} (h : Con Try.prog k args w fun v w' => v = .bool x ∧ S w') (hx : x = true) : Con Try.prog k args w fun v w' => v = .bool true ∧ S w' := by subst hx; exact h
theorem con_false {k : FuncId} {args : List Value} {w : World} {x : Bool} {S : World → Prop} (h : Con Try.prog k args w fun v w' => v = .bool x ∧ S w') (hx : x = false) : Con Try.prog k args w fun v w' => v = .bool false ∧ S w' := by subst hx; exact h
theorem own_rows {w0 : World} {v : Value} {t : TypeId} {sz n : Nat} {xs : List Value} {B : List (Nat × Obj)} {rows : List (List Value)} (h : Rt.Own v t sz n xs B) (hr : ∀ row ∈ rows, row.length = sz) (hn : rows.length = n) (hx : xs = rows.flatten) (h0 : 0 < n) : ∃ a c, v = .slice a n c ∧ Sl w0 B a sz rows ∧ n ≤ c := by
  obtain ⟨a, c, hv, hs⟩ := h.sl (w0 := w0) hr hn hx []
  rw [List.append_nil] at hs
  subst hn
  refine ⟨a, c, hv, hs, ?_⟩
  rcases h.2 with ⟨_, h3, _⟩ | ⟨b, cap, cs, h2, _, h4, _⟩
  · omega
  · rw [h2] at hv; injection hv with _ _ h5; omega
theorem crows_one (m : List Count) : ∀ row ∈ crows m, ∀ u ∈ row, u.oneCell' = true := by
  intro row hr u hu
  obtain ⟨c, _, rfl⟩ := List.mem_map.1 hr
  simp only [Count.cells, List.mem_cons, List.not_mem_nil, or_false] at hu
  rcases hu with rfl | rfl <;> rfl
theorem ex_lin {w0 : World} {B : List (Nat × Obj)} {m : List Count} {bb bg : Nat} {a : Option Addr} {c : Nat} (hm : m.length ≤ 1) (hc : Sl w0 B a 2 (crows (⟨3, 18⟩ :: m))) (hcc : 1 + m.length ≤ c) :
    LIn w0 ((bb, blk 81 (brows (exL m).bunches).flatten) :: (bg, blk 79 (grows (exL m).grades).flatten) :: B) (exL m) ⟨some ⟨bg, 0, none⟩, 3, some ⟨bb, 0, none⟩, 4, a, c⟩ where
  g := sl_own (i := 1) rfl (by intro row h; obtain ⟨q, _, rfl⟩ := List.mem_map.1 h; rfl) rfl
  b := sl_own (i := 0) rfl (by intro row h; obtain ⟨q, _, rfl⟩ := List.mem_map.1 h; rfl) rfl
  c := hc.cons.cons
  lg := by simp [exL]
  lb := by simp [exL]
  lc := by simp [exL]; omega
  cg := by simp [exL]
  cb := by simp [exL]
  cc := by simp [exL]; omega
  ng := by intro q hq; simp only [exL, List.mem_cons, List.not_mem_nil, or_false] at hq; rcases hq with rfl | rfl | rfl <;> (dsimp only; decide)
theorem c37 {w0 w : World} {F : List (Nat × Obj)} (x y : Int) (hs : St w0 w F) :
  Con Try.prog 37 [.int .i64 x, .int .i64 y] w fun v w' => v = .agg #[.int .i64 x, .int .i64 y] ∧ St w0 w' F := by
  refine con_of_wc (n := 8) Try.func37 rfl rfl (Nat.le_of_ble_eq_true rfl) ?_
  refine w_seq (fun K2 hK1 => ?_)
  refine w_region ?_
  refine w_alloc (cs := [_, _]) want_none Try.zeroValue34 rfl hs (fun b3 w4 hs5 => ?_)
  refine w_nil ?_
  refine q_then (hK1 _ _ ?_)
  refine w_seq (fun K7 hK6 => ?_)
  refine w_region ?_
  refine w_pure want_none (y_move (v := .int _ _) rfl rfl) rfl ?_
  refine w_pure want_none (y_move (v := .int _ _) rfl rfl) rfl ?_
  refine w_pure want_none (y_build (ps := [(0, _), (1, _)]) (pv := [(0, .int _ _), (1, .int _ _)]) rfl rfl (fun w => Try_S_fb3 _ _ w)) rfl ?_
  refine w_store (i := 0) (v := .agg #[.int _ _, .int _ _]) (vs := [_, _]) want_none Try.sizeOf34 rfl rfl rfl rfl rfl (by simp [Value.oneCell']) hs5 rfl (Nat.le_of_ble_eq_true rfl) (fun w8 hs9 => ?_)
  refine w_nil ?_
  refine q_then (hK6 _ _ ?_)
  refine w_ret ?_
  refine q_ret (l := [.cell 4 34]) (vs := [_]) rfl ⟨⟨rfl, _, rfl, run_loadVarN (vs := [_, _]) Try.isAgg34 Try.sizeOf34 hs9 (ats_own (i := 0) (vs := [_, _]) rfl rfl)⟩, trivial⟩ ?_
  exact ⟨rfl, hs9.tail⟩

theorem c36 {w0 w : World} {F : List (Nat × Obj)} (a : Option Addr) (c : Nat) (m : List Count) (hm : m.length ≤ 1) (ha : Sl w0 F a 2 (crows m)) (hn : a = none → c = 0) (hs : St w0 w F) :
  Con Try.prog 36 [.slice a m.length c] w fun v w' => ∃ p B, v = .agg ((exL m).cells p).toArray ∧ LIn w0 B (exL m) p ∧ St w0 w' (B ++ F) := by
  refine con_of_wc (n := 24) Try.func36 rfl rfl (Nat.le_of_ble_eq_true rfl) ?_
  refine w_seq (fun K2 hK1 => ?_)
  refine w_region ?_
  refine w_alloc (cs := [_, _, _]) want_none Try.zeroValue26 rfl hs (fun b3 w4 hs5 => ?_)
  refine w_nil ?_
  refine q_then (hK1 _ _ ?_)
  refine w_seq (fun K7 hK6 => ?_)
  refine w_region ?_
  refine w_pure want_none (y_build (ps := [(0, _), (1, _), (2, _)]) (pv := [(0, .string _), (1, .int _ _), (2, .int _ _)]) rfl rfl (fun w => Try_S_fb4 _ _ _ w)) rfl ?_
  refine w_pure want_none (y_build (ps := [(0, _), (1, _), (2, _)]) (pv := [(0, .string _), (1, .int _ _), (2, .int _ _)]) rfl rfl (fun w => Try_S_fb4 _ _ _ w)) rfl ?_
  refine w_pure want_none (y_build (ps := [(0, _), (1, _), (2, _)]) (pv := [(0, .string _), (1, .int _ _), (2, .int _ _)]) rfl rfl (fun w => Try_S_fb4 _ _ _ w)) rfl ?_
  refine w_bslice (ps := [(0, _), (1, _), (2, _)]) (pv := [(0, .agg #[.string _, .int _ _, .int _ _]), (1, .agg #[.string _, .int _ _, .int _ _]), (2, .agg #[.string _, .int _ _, .int _ _])]) (cs := [_, _, _, _, _, _, _, _, _]) want_none rfl rfl (fun w => Try_S_fb5 _ _ _ _ _ _ _ _ _ w) hs5 (fun b8 w9 hs10 => ?_)
  refine w_call want_none Try.call37 rfl rfl rfl rfl (c37 _ _ hs10) ?_
  rintro _ w12 ⟨rfl, hs13⟩
  refine w_pure want_none (y_build (ps := [(0, _)]) (pv := [(0, .agg #[.int _ _, .int _ _])]) rfl rfl (fun w => Try_S_fb6 _ _ w)) rfl ?_
  refine w_call want_none Try.call37 rfl rfl rfl rfl (c37 _ _ hs13) ?_
  rintro _ w15 ⟨rfl, hs16⟩
  refine w_call want_none Try.call37 rfl rfl rfl rfl (c37 _ _ hs16) ?_
  rintro _ w18 ⟨rfl, hs19⟩
  refine w_pure want_none (y_build (ps := [(0, _), (1, _)]) (pv := [(0, .agg #[.int _ _, .int _ _]), (1, .agg #[.int _ _, .int _ _])]) rfl rfl (fun w => Try_S_fb7 _ _ _ _ w)) rfl ?_
  refine w_call want_none Try.call37 rfl rfl rfl rfl (c37 _ _ hs19) ?_
  rintro _ w21 ⟨rfl, hs22⟩
  refine w_call want_none Try.call37 rfl rfl rfl rfl (c37 _ _ hs22) ?_
  rintro _ w24 ⟨rfl, hs25⟩
  refine w_pure want_none (y_build (ps := [(0, _), (1, _)]) (pv := [(0, .agg #[.int _ _, .int _ _]), (1, .agg #[.int _ _, .int _ _])]) rfl rfl (fun w => Try_S_fb7 _ _ _ _ w)) rfl ?_
  refine w_call want_none Try.call37 rfl rfl rfl rfl (c37 _ _ hs25) ?_
  rintro _ w27 ⟨rfl, hs28⟩
  refine w_call want_none Try.call37 rfl rfl rfl rfl (c37 _ _ hs28) ?_
  rintro _ w30 ⟨rfl, hs31⟩
  refine w_pure want_none (y_build (ps := [(0, _), (1, _)]) (pv := [(0, .agg #[.int _ _, .int _ _]), (1, .agg #[.int _ _, .int _ _])]) rfl rfl (fun w => Try_S_fb7 _ _ _ _ w)) rfl ?_
  refine w_bslice (ps := [(0, _), (1, _), (2, _), (3, _)]) (pv := [(0, .agg #[.int _ _, .int _ _, .int _ _, .int _ _]), (1, .agg #[.int _ _, .int _ _, .int _ _, .int _ _]), (2, .agg #[.int _ _, .int _ _, .int _ _, .int _ _]), (3, .agg #[.int _ _, .int _ _, .int _ _, .int _ _])]) (cs := [_, _, _, _, _, _, _, _, _, _, _, _, _, _, _, _]) want_none rfl rfl (fun w => Try_S_fb8 _ _ _ _ _ _ _ _ _ _ _ _ _ _ _ _ w) hs31 (fun b32 w33 hs34 => ?_)
  refine w_pure want_none (y_build (ps := [(0, _), (1, _)]) (pv := [(0, .int _ _), (1, .int _ _)]) rfl rfl (fun w => Try_S_fb9 _ _ w)) rfl ?_
  refine w_bslice (ps := [(0, _)]) (pv := [(0, .agg #[.int _ _, .int _ _])]) (cs := [_, _]) want_none rfl rfl (fun w => Try_S_fb10 _ _ w) hs34 (fun b35 w36 hs37 => ?_)
  refine w_pure want_none (y_move (v := .slice _ _ _) rfl rfl) rfl ?_
  refine w_append (X := ([])) (B := [_]) (rows := crows m) (sz := 2) (bytes := 16) want_none Try.underlying24 Try_info51 rfl rfl rfl rfl rfl rfl rfl rfl rfl hs37 (own_lit rfl (by simp [maxLen])) ha.cons.cons.cons.cons (by simp [crows]) hn (crows_one m) (by simp only [maxLen]; omega) (by omega) (fun v38 w39 B40 ho41 hs42 => ?_)
  replace hs42 := (show St _ _ (B40 ++ (_ :: _ :: _ :: F)) from hs42)
  have hs43 := St.perm (L := B40 ++ ([_, _, _] ++ F)) hs42 (perm_mid B40 [_, _, _] F)
  replace hs43 := (show St _ _ (_ :: _ :: _ :: (B40 ++ F)) from hs43)
  obtain ⟨aC, cC, rfl, hslC, hcC⟩ := own_rows (w0 := w0) (rows := crows (⟨3, 18⟩ :: m)) ho41 (by intro row h; obtain ⟨q, _, rfl⟩ := List.mem_map.1 h; rfl) (by simp [crows]; omega) (by simp [crows, Count.cells]) (by omega)
  refine w_pure want_none (y_build (ps := [(0, _), (1, _), (2, _)]) (pv := [(0, .slice _ _ _), (1, .slice _ _ _), (2, .slice _ _ _)]) rfl rfl (fun w => Try_S_fb12 _ _ _ _ _ _ _ _ _ w)) rfl ?_
  refine w_store (i := 2) (v := .agg #[.slice _ _ _, .slice _ _ _, .slice _ _ _]) (vs := [_, _, _]) want_none Try.sizeOf26 rfl rfl rfl rfl rfl (by simp [Value.oneCell']) hs43 rfl (Nat.le_of_ble_eq_true rfl) (fun w44 hs45 => ?_)
  refine w_nil ?_
  refine q_then (hK6 _ _ ?_)
  refine w_ret ?_
  refine q_ret (l := [.cell 2 26]) (vs := [_]) rfl ⟨⟨rfl, _, rfl, run_loadVarN (vs := [_, _, _]) Try.isAgg26 Try.sizeOf26 hs45 (ats_own (i := 2) (vs := [_, _, _]) rfl rfl)⟩, trivial⟩ ?_
  exact ⟨⟨_, 3, _, 4, aC, cC⟩, _ :: _ :: B40, by show _ = Value.agg #[_, _, .slice aC (exL m).counts.length cC]; rw [show (exL m).counts.length = 1 + m.length by simp [exL]; omega]; rfl, ex_lin hm hslC hcC, (St.perm (L := [_, _] ++ ([_] ++ (B40 ++ F))) hs45 (perm_mid [_, _] [_] _)).tail⟩

theorem c20 {w0 w : World} {F : List (Nat × Obj)}  (hs : St w0 w F) :
  Con Try.prog 20 [] w fun v w' => v = .bool true ∧ St w0 w' F := by
  refine con_of_wc (n := 162) Try.func20 rfl rfl (Nat.le_of_ble_eq_true rfl) ?_
  refine w_seq (fun K2 hK1 => ?_)
  refine w_region ?_
  refine w_pure want_none (y_assign (v := _) rfl rfl) rfl ?_
  refine w_nil ?_
  refine q_then (hK1 _ _ ?_)
  refine w_seq (fun K4 hK3 => ?_)
  refine w_region ?_
  refine w_call want_none Try.call36 rfl rfl rfl rfl (c36 none 0 [] (by decide) (Sl.nil _ _) (fun _ => rfl) hs) ?_
  rintro _ w6 ⟨p1, L1, rfl, hq1, hs7⟩
  replace hs7 := (show St _ _ (L1 ++ (F)) from hs7)
  refine w_pure want_none (y_build (ps := [(0, _), (1, _)]) (pv := [(0, .int _ _), (1, .int _ _)]) rfl rfl (fun w => Try_S_fb9 _ _ w)) rfl ?_
  refine w_bslice (ps := [(0, _)]) (pv := [(0, .agg #[.int _ _, .int _ _])]) (cs := [_, _]) want_none rfl rfl (fun w => Try_S_fb10 _ _ w) hs7 (fun b8 w9 hs10 => ?_)
  refine w_call want_none Try.call36 rfl rfl rfl rfl (c36 _ _ [⟨12, 13⟩] (by decide) (sl_own (i := 0) (rows := [[_, _]]) rfl (by simp) rfl) (by simp) hs10) ?_
  rintro _ w12 ⟨p2, L2, rfl, hq2, hs13⟩
  replace hs13 := (show St _ _ (L2 ++ (_ :: L1 ++ (F))) from hs13)
  refine w_pure want_none (y_build (ps := [(0, _), (1, _)]) (pv := [(0, .int _ _), (1, .int _ _)]) rfl rfl (fun w => Try_S_fb9 _ _ w)) rfl ?_
  refine w_bslice (ps := [(0, _)]) (pv := [(0, .agg #[.int _ _, .int _ _])]) (cs := [_, _]) want_none rfl rfl (fun w => Try_S_fb10 _ _ w) hs13 (fun b14 w15 hs16 => ?_)
  refine w_call want_none Try.call36 rfl rfl rfl rfl (c36 _ _ [⟨1, 8⟩] (by decide) (sl_own (i := 0) (rows := [[_, _]]) rfl (by simp) rfl) (by simp) hs16) ?_
  rintro _ w18 ⟨p3, L3, rfl, hq3, hs19⟩
  replace hs19 := (show St _ _ (L3 ++ (_ :: L2 ++ (_ :: L1 ++ (F)))) from hs19)
  refine w_alloc (cs := [_, _, _]) want_none Try.zeroValue26 rfl hs19 (fun b20 w21 hs22 => ?_)
  refine w_alloc (cs := [_, _, _]) want_none Try.zeroValue26 rfl hs22 (fun b23 w24 hs25 => ?_)
  refine w_alloc (cs := [_, _, _]) want_none Try.zeroValue26 rfl hs25 (fun b26 w27 hs28 => ?_)
  refine w_store (i := 2) (v := .agg #[.slice _ _ _, .slice _ _ _, .slice _ _ _]) (vs := [_, _, _]) want_none Try.sizeOf26 rfl rfl rfl rfl rfl (by simp [Value.oneCell']) hs28 rfl (Nat.le_of_ble_eq_true rfl) (fun w29 hs30 => ?_)
  refine w_store (i := 1) (v := .agg #[.slice _ _ _, .slice _ _ _, .slice _ _ _]) (vs := [_, _, _]) want_none Try.sizeOf26 rfl rfl rfl rfl rfl (by simp [Value.oneCell']) hs30 rfl (Nat.le_of_ble_eq_true rfl) (fun w31 hs32 => ?_)
  refine w_store (i := 0) (v := .agg #[.slice _ _ _, .slice _ _ _, .slice _ _ _]) (vs := [_, _, _]) want_none Try.sizeOf26 rfl rfl rfl rfl rfl (by simp [Value.oneCell']) hs32 rfl (Nat.le_of_ble_eq_true rfl) (fun w33 hs34 => ?_)
  refine w_nil ?_
  refine q_then (hK3 _ _ ?_)
  refine w_seq (fun K36 hK35 => ?_)
  obtain ⟨Z, hZ, hsZ⟩ := gen_Z hs34
  have hP1 : Ats w0 Z b20 0 ((exL []).cells p1) := by rw [hZ]; exact ats_own (i := 2) (vs := (exL []).cells p1) rfl rfl
  have hM1 : LIn w0 Z (exL []) p1 := by rw [hZ]; exact LIn.mono hq1 (fun w h => h.tail.tail.tail.drop.tail.drop.tail.front)
  have hP2 : Ats w0 Z b23 0 ((exL [⟨12, 13⟩]).cells p2) := by rw [hZ]; exact ats_own (i := 1) (vs := (exL [⟨12, 13⟩]).cells p2) rfl rfl
  have hM2 : LIn w0 Z (exL [⟨12, 13⟩]) p2 := by rw [hZ]; exact LIn.mono hq2 (fun w h => h.tail.tail.tail.drop.tail.front)
  have hP3 : Ats w0 Z b26 0 ((exL [⟨1, 8⟩]).cells p3) := by rw [hZ]; exact ats_own (i := 0) (vs := (exL [⟨1, 8⟩]).cells p3) rfl rfl
  have hM3 : LIn w0 Z (exL [⟨1, 8⟩]) p3 := by rw [hZ]; exact LIn.mono hq3 (fun w h => h.tail.tail.tail.front)
  refine w_region ?_
  refine w_pure want_none (y_loadN (vs := [_, _, _]) Try.isAgg26 Try.sizeOf26 hsZ rfl rfl hP1) rfl ?_
  refine w_call want_none Try.call21 rfl rfl rfl rfl ((c21 (exL []) p1 hM1 0 hsZ).mono (fun v w' h => by rw [ex_hands1] at h; exact h)) ?_
  rintro _ w38 ⟨rfl, hs39⟩
  refine w_pure want_none (y_move (v := .tuple _) rfl rfl) rfl ?_
  refine w_pure want_none (y_extract (v := .agg _) rfl rfl rfl) rfl ?_
  refine w_pure want_none (y_extract (v := .int _ _) rfl rfl rfl) rfl ?_
  refine w_alloc (cs := [_, _]) want_none Try.zeroValue34 rfl hs39 (fun b40 w41 hs42 => ?_)
  refine w_store (i := 0) (v := .agg #[.int _ _, .int _ _]) (vs := [_, _]) want_none Try.sizeOf34 rfl rfl rfl rfl rfl (by simp [Value.oneCell']) hs42 rfl (Nat.le_of_ble_eq_true rfl) (fun w43 hs44 => ?_)
  refine w_pure want_none (y_assign (v := .int _ _) rfl rfl) rfl ?_
  refine w_nil ?_
  refine q_then (hK35 _ _ ?_)
  refine w_seq (fun K46 hK45 => ?_)
  have hx4 := ats_of (i := 0) (vs := [_, _]) hs44 rfl rfl
  refine w_region ?_
  refine w_pure want_none (y_loadN (vs := [_, _, _]) Try.isAgg26 Try.sizeOf26 hs44.tail rfl rfl hP1) rfl ?_
  refine w_call want_none Try.call23 rfl rfl rfl rfl ((c23 (exL []) p1 hM1.cons 2 hs44).mono (fun v w' h => by rw [ex_grade1] at h; exact h)) ?_
  rintro _ w48 ⟨B1, a1, c1, rfl, hr1, hs49⟩
  replace hs49 := (show St _ _ (B1 ++ (_ :: Z)) from hs49)
  refine w_pure want_none (y_move (v := .tuple _) rfl rfl) rfl ?_
  refine w_pure want_none (y_extract (v := .slice _ _ _) rfl rfl rfl) rfl ?_
  refine w_pure want_none (y_extract (v := .int _ _) rfl rfl rfl) rfl ?_
  refine w_pure want_none (y_assign (v := .slice _ _ _) rfl rfl) rfl ?_
  refine w_pure want_none (y_assign (v := .int _ _) rfl rfl) rfl ?_
  refine w_nil ?_
  refine q_then (hK45 _ _ ?_)
  refine w_seq (fun K51 hK50 => ?_)
  refine w_region ?_
  refine w_pure want_none (y_loadN (vs := [_, _, _]) Try.isAgg26 Try.sizeOf26 hs49.drop.tail rfl rfl hP1) rfl ?_
  refine w_call want_none Try.call26 rfl rfl rfl rfl ((c26 (exL []) p1 hM1.cons.app 0 hs49).mono (fun v w' h => by rw [ex_total1] at h; exact h)) ?_
  rintro _ w53 ⟨rfl, hs54⟩
  refine w_pure want_none (y_move (v := .tuple _) rfl rfl) rfl ?_
  refine w_pure want_none (y_extract (v := .agg _) rfl rfl rfl) rfl ?_
  refine w_pure want_none (y_extract (v := .int _ _) rfl rfl rfl) rfl ?_
  refine w_alloc (cs := [_, _]) want_none Try.zeroValue34 rfl hs54 (fun b55 w56 hs57 => ?_)
  refine w_store (i := 0) (v := .agg #[.int _ _, .int _ _]) (vs := [_, _]) want_none Try.sizeOf34 rfl rfl rfl rfl rfl (by simp [Value.oneCell']) hs57 rfl (Nat.le_of_ble_eq_true rfl) (fun w58 hs59 => ?_)
  refine w_pure want_none (y_assign (v := .int _ _) rfl rfl) rfl ?_
  refine w_nil ?_
  refine q_then (hK50 _ _ ?_)
  refine w_seq (fun K61 hK60 => ?_)
  have hx8 := ats_of (i := 0) (vs := [_, _]) hs59 rfl rfl
  refine w_region ?_
  refine w_pure want_none (y_loadN (vs := [_, _, _]) Try.isAgg26 Try.sizeOf26 hs59.tail.drop.tail rfl rfl hP2) rfl ?_
  refine w_call want_none Try.call28 rfl rfl rfl rfl ((c28 (exL [⟨12, 13⟩]) p2 hM2.cons.app.cons hs59).mono (fun v w' h => by rw [ex_ref1] at h; exact h)) ?_
  rintro _ w63 ⟨B2, a2, c2, a3, c3, rfl, hr2, hr3, hs64⟩
  replace hs64 := (show St _ _ (B2 ++ (_ :: B1 ++ (_ :: Z))) from hs64)
  refine w_pure want_none (y_move (v := .tuple _) rfl rfl) rfl ?_
  refine w_pure want_none (y_extract (v := .slice _ _ _) rfl rfl rfl) rfl ?_
  refine w_pure want_none (y_extract (v := .slice _ _ _) rfl rfl rfl) rfl ?_
  refine w_pure want_none (y_extract (v := .int _ _) rfl rfl rfl) rfl ?_
  refine w_pure want_none (y_assign (v := .slice _ _ _) rfl rfl) rfl ?_
  refine w_pure want_none (y_assign (v := .slice _ _ _) rfl rfl) rfl ?_
  refine w_pure want_none (y_assign (v := .int _ _) rfl rfl) rfl ?_
  refine w_nil ?_
  refine q_then (hK60 _ _ ?_)
  refine w_seq (fun K66 hK65 => ?_)
  refine w_region ?_
  refine w_pure want_none (y_loadN (vs := [_, _, _]) Try.isAgg26 Try.sizeOf26 hs64.drop.tail.drop.tail rfl rfl hP1) rfl ?_
  refine w_call want_none Try.call30 rfl rfl rfl rfl ((c30 (exL []) p1 hM1.cons.app.cons.app 1 18 hs64).mono (fun v w' h => by rw [ex_pick1] at h; exact h)) ?_
  rintro _ w68 ⟨B4, a4, c4, rfl, hr4, hs69⟩
  replace hs69 := (show St _ _ (B4 ++ (B2 ++ (_ :: B1 ++ (_ :: Z)))) from hs69)
  refine w_pure want_none (y_move (v := .tuple _) rfl rfl) rfl ?_
  refine w_pure want_none (y_extract (v := .slice _ _ _) rfl rfl rfl) rfl ?_
  refine w_pure want_none (y_extract (v := .int _ _) rfl rfl rfl) rfl ?_
  refine w_pure want_none (y_assign (v := .slice _ _ _) rfl rfl) rfl ?_
  refine w_pure want_none (y_assign (v := .int _ _) rfl rfl) rfl ?_
  refine w_nil ?_
  refine q_then (hK65 _ _ ?_)
  refine w_seq (fun K71 hK70 => ?_)
  refine w_region ?_
  refine w_pure want_none (y_loadN (vs := [_, _, _]) Try.isAgg26 Try.sizeOf26 hs69.drop.drop.tail.drop.tail rfl rfl hP1) rfl ?_
  refine w_call want_none Try.call30 rfl rfl rfl rfl ((c30 (exL []) p1 hM1.cons.app.cons.app.app 1 19 hs69).mono (fun v w' h => by rw [ex_pick2] at h; exact h)) ?_
  rintro _ w73 ⟨B5, a5, c5, rfl, hr5, hs74⟩
  replace hs74 := (show St _ _ (B5 ++ (B4 ++ (B2 ++ (_ :: B1 ++ (_ :: Z))))) from hs74)
  refine w_pure want_none (y_move (v := .tuple _) rfl rfl) rfl ?_
  refine w_pure want_none (y_extract (v := .slice _ _ _) rfl rfl rfl) rfl ?_
  refine w_pure want_none (y_extract (v := .int _ _) rfl rfl rfl) rfl ?_
  refine w_pure want_none (y_assign (v := .slice _ _ _) rfl rfl) rfl ?_
  refine w_pure want_none (y_assign (v := .int _ _) rfl rfl) rfl ?_
  refine w_nil ?_
  refine q_then (hK70 _ _ ?_)
  refine w_seq (fun K76 hK75 => ?_)
  refine w_region ?_
  refine w_pure want_none (y_loadN (vs := [_, _, _]) Try.isAgg26 Try.sizeOf26 hs74.drop.drop.drop.tail.drop.tail rfl rfl hP1) rfl ?_
  refine w_call want_none Try.call32 rfl rfl rfl rfl ((c32 (exL []) p1 hM1.cons.app.cons.app.app.app hs74).mono (fun v w' h => by rw [ex_next1] at h; exact h)) ?_
  rintro _ w78 ⟨rfl, hs79⟩
  refine w_pure want_none (y_move (v := .tuple _) rfl rfl) rfl ?_
  refine w_pure want_none (y_extract (v := .int _ _) rfl rfl rfl) rfl ?_
  refine w_pure want_none (y_extract (v := .int _ _) rfl rfl rfl) rfl ?_
  refine w_pure want_none (y_extract (v := .int _ _) rfl rfl rfl) rfl ?_
  refine w_pure want_none (y_assign (v := .int _ _) rfl rfl) rfl ?_
  refine w_pure want_none (y_assign (v := .int _ _) rfl rfl) rfl ?_
  refine w_pure want_none (y_assign (v := .int _ _) rfl rfl) rfl ?_
  refine w_nil ?_
  refine q_then (hK75 _ _ ?_)
  refine w_seq (fun K81 hK80 => ?_)
  refine w_region ?_
  refine w_pure want_none (y_loadN (vs := [_, _, _]) Try.isAgg26 Try.sizeOf26 hs79.drop.drop.drop.tail.drop.tail rfl rfl hP3) rfl ?_
  refine w_call want_none Try.call34 rfl rfl rfl rfl ((c34 (exL [⟨1, 8⟩]) p3 hM3.cons.app.cons.app.app.app hs79).mono (fun v w' h => by rw [ex_wrong1] at h; exact h)) ?_
  rintro _ w83 ⟨B6, a6, c6, rfl, hr6, hs84⟩
  replace hs84 := (show St _ _ (B6 ++ (B5 ++ (B4 ++ (B2 ++ (_ :: B1 ++ (_ :: Z)))))) from hs84)
  refine w_pure want_none (y_move (v := .tuple _) rfl rfl) rfl ?_
  refine w_pure want_none (y_extract (v := .slice _ _ _) rfl rfl rfl) rfl ?_
  refine w_pure want_none (y_extract (v := .int _ _) rfl rfl rfl) rfl ?_
  refine w_pure want_none (y_assign (v := .slice _ _ _) rfl rfl) rfl ?_
  refine w_pure want_none (y_assign (v := .int _ _) rfl rfl) rfl ?_
  refine w_nil ?_
  refine q_then (hK80 _ _ ?_)
  refine w_seq (fun K86 hK85 => ?_)
  refine w_region ?_
  refine w_pure want_none (y_loadN (vs := [_, _, _]) Try.isAgg26 Try.sizeOf26 hs84.drop.drop.drop.drop.tail.drop.tail rfl rfl hP3) rfl ?_
  refine w_call want_none Try.call21 rfl rfl rfl rfl ((c21 (exL [⟨1, 8⟩]) p3 hM3.cons.app.cons.app.app.app.app 0 hs84).mono (fun v w' h => by rw [ex_hands2] at h; exact h)) ?_
  rintro _ w88 ⟨rfl, hs89⟩
  refine w_pure want_none (y_move (v := .tuple _) rfl rfl) rfl ?_
  refine w_pure want_none (y_extract (v := .agg _) rfl rfl rfl) rfl ?_
  refine w_pure want_none (y_extract (v := .int _ _) rfl rfl rfl) rfl ?_
  refine w_alloc (cs := [_, _]) want_none Try.zeroValue34 rfl hs89 (fun b90 w91 hs92 => ?_)
  refine w_store (i := 0) (v := .agg #[.int _ _, .int _ _]) (vs := [_, _]) want_none Try.sizeOf34 rfl rfl rfl rfl rfl (by simp [Value.oneCell']) hs92 rfl (Nat.le_of_ble_eq_true rfl) (fun w93 hs94 => ?_)
  refine w_pure want_none (y_assign (v := .int _ _) rfl rfl) rfl ?_
  refine w_nil ?_
  refine q_then (hK85 _ _ ?_)
  refine w_seq (fun K96 hK95 => ?_)
  refine w_draw [] [(0, 0), (1, 0), (2, 0), (3, 0), (4, 0), (5, 0), (6, 0), (7, 0), (8, 0), (9, 0), (10, 0), (11, 0), (12, 0), (13, 0), (14, 0), (15, 0), (16, 0), (17, 0), (18, 0), (19, 0), (20, 0), (21, 0), (22, 0), (23, 0), (24, 0), (25, 0), (26, 0), (27, 0), (28, 0), (29, 0), (30, 0), (31, 0), (32, 0), (33, 0), (34, 0), (35, 1), (36, 2), (37, 0), (38, 0), (39, 0), (40, 0), (41, 2), (42, 2), (43, 0), (44, 0), (45, 1), (46, 2), (47, 0), (48, 0), (49, 0), (50, 0), (51, 2), (52, 2), (53, 0), (54, 0), (55, 0), (56, 2), (57, 2), (58, 0), (59, 0), (60, 0), (61, 2), (62, 2), (63, 0), (64, 0), (65, 0), (66, 0), (67, 0), (68, 0), (69, 0), (70, 0), (71, 0), (72, 0), (73, 0), (74, 2), (75, 2), (76, 0), (77, 0), (78, 2), (79, 0), (80, 0), (81, 2), (82, 0), (83, 0), (84, 0)] Try_mo (drawOK_of (by kernel_rfl)) hs94 (fun w97 hs98 => ?_)
  refine d_any rfl want_none rfl (fun _ => (y_move (v := .int _ _) rfl rfl)) ?_
  refine d_any rfl want_none rfl (fun _ => (y_eql rfl rfl rfl rfl)) ?_
  refine d_any rfl want_none rfl (fun _ => (y_move (v := .bool _) rfl rfl)) ?_
  refine d_any rfl (want_yes rfl rfl rfl) rfl (fun _ => (y_move (v := .int _ _) rfl rfl)) ?_
  refine d_any rfl (want_yes rfl rfl rfl) rfl (fun _ => (y_eql rfl rfl rfl rfl)) ?_
  refine d_any rfl want_none rfl (fun _ => (y_pickT (v := .bool _) rfl rfl rfl rfl)) ?_
  refine d_any rfl want_none rfl (fun _ => (y_move (v := .bool _) rfl rfl)) ?_
  refine d_any rfl (want_yes rfl rfl rfl) rfl (fun _ => (y_move (v := .int _ _) rfl rfl)) ?_
  refine d_any rfl (want_yes rfl rfl rfl) rfl (fun _ => (y_eql rfl rfl rfl rfl)) ?_
  refine d_any rfl want_none rfl (fun _ => (y_pickT (v := .bool _) rfl rfl rfl rfl)) ?_
  refine d_any rfl want_none rfl (fun _ => (y_move (v := .bool _) rfl rfl)) ?_
  refine d_any rfl (want_yes rfl rfl rfl) rfl (fun _ => (y_move (v := .int _ _) rfl rfl)) ?_
  refine d_any rfl (want_yes rfl rfl rfl) rfl (fun _ => (y_eql rfl rfl rfl rfl)) ?_
  refine d_any rfl want_none rfl (fun _ => (y_pickT (v := .bool _) rfl rfl rfl rfl)) ?_
  refine d_any rfl want_none rfl (fun _ => (y_move (v := .bool _) rfl rfl)) ?_
  refine d_any rfl (want_yes rfl rfl rfl) rfl (fun _ => (y_move (v := .int _ _) rfl rfl)) ?_
  refine d_any rfl (want_yes rfl rfl rfl) rfl (fun _ => (y_eql rfl rfl rfl rfl)) ?_
  refine d_any rfl want_none rfl (fun _ => (y_pickT (v := .bool _) rfl rfl rfl rfl)) ?_
  refine d_any rfl want_none rfl (fun _ => (y_move (v := .bool _) rfl rfl)) ?_
  refine d_any rfl (want_yes rfl rfl rfl) rfl (fun _ => (y_move (v := .int _ _) rfl rfl)) ?_
  refine d_any rfl (want_yes rfl rfl rfl) rfl (fun _ => (y_eql rfl rfl rfl rfl)) ?_
  refine d_any rfl want_none rfl (fun _ => (y_pickT (v := .bool _) rfl rfl rfl rfl)) ?_
  refine d_any rfl want_none rfl (fun _ => (y_move (v := .bool _) rfl rfl)) ?_
  refine d_any rfl (want_yes rfl rfl rfl) rfl (fun _ => (y_move (v := .int _ _) rfl rfl)) ?_
  refine d_any rfl (want_yes rfl rfl rfl) rfl (fun _ => (y_eql rfl rfl rfl rfl)) ?_
  refine d_any rfl want_none rfl (fun _ => (y_pickT (v := .bool _) rfl rfl rfl rfl)) ?_
  refine d_any rfl want_none rfl (fun _ => (y_move (v := .bool _) rfl rfl)) ?_
  refine d_any rfl (want_yes rfl rfl rfl) rfl (fun _ => (y_move (v := .int _ _) rfl rfl)) ?_
  refine d_any rfl (want_yes rfl rfl rfl) rfl (fun _ => (y_eql rfl rfl rfl rfl)) ?_
  refine d_any rfl want_none rfl (fun _ => (y_pickT (v := .bool _) rfl rfl rfl rfl)) ?_
  refine d_any rfl want_none rfl (fun _ => (y_move (v := .bool _) rfl rfl)) ?_
  refine d_any rfl (want_yes rfl rfl rfl) rfl (fun _ => (y_move (v := .int _ _) rfl rfl)) ?_
  refine d_any rfl (want_yes rfl rfl rfl) rfl (fun _ => (y_eql rfl rfl rfl rfl)) ?_
  refine d_any rfl want_none rfl (fun _ => (y_pickT (v := .bool _) rfl rfl rfl rfl)) ?_
  refine d_any rfl want_none rfl (fun _ => (y_move (v := .bool _) rfl rfl)) ?_
  refine d_take rfl (want_yes rfl rfl rfl) rfl hs98 (fun _ hq => (y_loadN (vs := [_, _]) Try.isAgg34 Try.sizeOf34 hq.tail.drop.drop.drop.drop.tail.drop rfl rfl hx4)) ?_
  refine d_eff rfl ?_
  refine w_call (want_yes rfl rfl rfl) Try.call37 rfl rfl rfl rfl (c37 _ _ hs98) ?_
  rintro _ w100 ⟨rfl, hs101⟩
  refine w_nil ?_
  refine qn ⟨hs101, ?_⟩
  refine d_any rfl (want_yes rfl rfl rfl) rfl (fun _ => (y_eqFlat (l := [_, _]) (m := [_, _]) Try.eqGuardType34 Try_flat34 (by first | omega | rfl | (simp only [List.length_map, List.length_set, List.length_append, List.length_take, List.length_drop, List.length_replicate, List.length_cons, List.length_nil] <;> omega)) (by first | omega | rfl | (simp only [List.length_map, List.length_set, List.length_append, List.length_take, List.length_drop, List.length_replicate, List.length_cons, List.length_nil] <;> omega)) rfl rfl rfl rfl rfl rfl)) ?_
  refine d_any rfl want_none rfl (fun _ => (y_pickT (v := .bool _) rfl rfl rfl rfl)) ?_
  refine d_any rfl want_none rfl (fun _ => (y_move (v := .bool _) rfl rfl)) ?_
  refine d_split (fun h102 => ?_) (fun h102 => ?_)
  ·
   try simp only [Bool.not_eq_true', Bool.not_eq_false', decide_eq_true_eq, decide_eq_false_iff_not, Int.not_lt, Int.not_le] at h102
   refine d_any rfl (want_yes rfl rfl rfl) rfl (fun _ => (y_move (v := .slice _ _ _) rfl rfl)) ?_
   refine d_eff rfl ?_
   refine w_bslice (ps := [(0, _), (1, _), (2, _)]) (pv := [(0, .int _ _), (1, .int _ _), (2, .int _ _)]) (cs := [_, _, _]) (want_yes rfl rfl rfl) rfl rfl (fun w => Try_S_fb14 _ _ _ w) hs101 (fun b103 w104 hs105 => ?_)
   refine w_nil ?_
   refine qn ⟨hs105.tail, ?_⟩
   refine d_eff rfl ?_
   refine w_call (want_yes rfl rfl rfl) Try.call25 rfl rfl rfl rfl (con_true (c25 _ _ [-1, 1, 2] [-1, 1, 2] _ _ (by decide) hr1.top.cons.app.app.app.app.cons.cons (sl_own (i := 0) (rows := [[_], [_], [_]]) rfl (by simp) rfl) hs105) (by decide)) ?_
   rintro _ w107 ⟨rfl, hs108⟩
   refine w_nil ?_
   refine qn ⟨hs108.tail, ?_⟩
   refine d_any rfl want_none rfl (fun _ => (y_pickT (v := .bool _) rfl rfl rfl rfl)) ?_
   refine d_any rfl want_none rfl (fun _ => (y_move (v := .bool _) rfl rfl)) ?_
   refine d_take rfl (want_yes rfl rfl rfl) rfl hs108.tail (fun _ hq => (y_loadN (vs := [_, _]) Try.isAgg34 Try.sizeOf34 hq.tail.drop.drop.drop.drop rfl rfl hx8)) ?_
   refine d_eff rfl ?_
   refine w_call (want_yes rfl rfl rfl) Try.call37 rfl rfl rfl rfl (c37 _ _ hs108) ?_
   rintro _ w110 ⟨rfl, hs111⟩
   refine w_nil ?_
   refine qn ⟨hs111.tail, ?_⟩
   refine d_any rfl (want_yes rfl rfl rfl) rfl (fun _ => (y_eqFlat (l := [_, _]) (m := [_, _]) Try.eqGuardType34 Try_flat34 (by first | omega | rfl | (simp only [List.length_map, List.length_set, List.length_append, List.length_take, List.length_drop, List.length_replicate, List.length_cons, List.length_nil] <;> omega)) (by first | omega | rfl | (simp only [List.length_map, List.length_set, List.length_append, List.length_take, List.length_drop, List.length_replicate, List.length_cons, List.length_nil] <;> omega)) rfl rfl rfl rfl rfl rfl)) ?_
   refine d_any rfl want_none rfl (fun _ => (y_pickT (v := .bool _) rfl rfl rfl rfl)) ?_
   refine d_any rfl want_none rfl (fun _ => (y_move (v := .bool _) rfl rfl)) ?_
   refine d_split (fun h112 => ?_) (fun h112 => ?_)
   ·
    try simp only [Bool.not_eq_true', Bool.not_eq_false', decide_eq_true_eq, decide_eq_false_iff_not, Int.not_lt, Int.not_le] at h112
    refine d_any rfl (want_yes rfl rfl rfl) rfl (fun _ => (y_move (v := .slice _ _ _) rfl rfl)) ?_
    refine d_eff rfl ?_
    refine w_bslice (ps := [(0, _)]) (pv := [(0, .int _ _)]) (cs := [_]) (want_yes rfl rfl rfl) rfl rfl (fun w => Try_S_fb15 _ w) hs111 (fun b113 w114 hs115 => ?_)
    refine w_nil ?_
    refine qn ⟨hs115.tail.tail, ?_⟩
    refine d_eff rfl ?_
    refine w_call (want_yes rfl rfl rfl) Try.call25 rfl rfl rfl rfl (con_true (c25 _ _ [3] [3] _ _ (by decide) hr2.top.app.app.app.cons.cons.cons (sl_own (i := 0) (rows := [[_]]) rfl (by simp) rfl) hs115) (by decide)) ?_
    rintro _ w117 ⟨rfl, hs118⟩
    refine w_nil ?_
    refine qn ⟨hs118.tail.tail, ?_⟩
    refine d_any rfl want_none rfl (fun _ => (y_pickT (v := .bool _) rfl rfl rfl rfl)) ?_
    refine d_any rfl want_none rfl (fun _ => (y_move (v := .bool _) rfl rfl)) ?_
    refine d_any rfl (want_yes rfl rfl rfl) rfl (fun _ => (y_move (v := .slice _ _ _) rfl rfl)) ?_
    refine d_eff rfl ?_
    refine w_bslice (ps := [(0, _), (1, _)]) (pv := [(0, .int _ _), (1, .int _ _)]) (cs := [_, _]) (want_yes rfl rfl rfl) rfl rfl (fun w => Try_S_fb16 _ _ w) hs118 (fun b119 w120 hs121 => ?_)
    refine w_nil ?_
    refine qn ⟨hs121.tail.tail.tail, ?_⟩
    refine d_eff rfl ?_
    refine w_call (want_yes rfl rfl rfl) Try.call25 rfl rfl rfl rfl (con_true (c25 _ _ [2, 3] [2, 3] _ _ (by decide) hr3.top.app.app.app.cons.cons.cons.cons (sl_own (i := 0) (rows := [[_], [_]]) rfl (by simp) rfl) hs121) (by decide)) ?_
    rintro _ w123 ⟨rfl, hs124⟩
    refine w_nil ?_
    refine qn ⟨hs124.tail.tail.tail, ?_⟩
    refine d_any rfl want_none rfl (fun _ => (y_pickT (v := .bool _) rfl rfl rfl rfl)) ?_
    refine d_any rfl want_none rfl (fun _ => (y_move (v := .bool _) rfl rfl)) ?_
    refine d_any rfl (want_yes rfl rfl rfl) rfl (fun _ => (y_move (v := .slice _ _ _) rfl rfl)) ?_
    refine d_eff rfl ?_
    refine w_bslice (ps := [(0, _), (1, _)]) (pv := [(0, .int _ _), (1, .int _ _)]) (cs := [_, _]) (want_yes rfl rfl rfl) rfl rfl (fun w => Try_S_fb16 _ _ w) hs124 (fun b125 w126 hs127 => ?_)
    refine w_nil ?_
    refine qn ⟨hs127.tail.tail.tail.tail, ?_⟩
    refine d_eff rfl ?_
    refine w_call (want_yes rfl rfl rfl) Try.call25 rfl rfl rfl rfl (con_true (c25 _ _ [0, 1] [0, 1] _ _ (by decide) hr4.top.app.app.cons.cons.cons.cons.cons (sl_own (i := 0) (rows := [[_], [_]]) rfl (by simp) rfl) hs127) (by decide)) ?_
    rintro _ w129 ⟨rfl, hs130⟩
    refine w_nil ?_
    refine qn ⟨hs130.tail.tail.tail.tail, ?_⟩
    refine d_any rfl want_none rfl (fun _ => (y_pickT (v := .bool _) rfl rfl rfl rfl)) ?_
    refine d_any rfl want_none rfl (fun _ => (y_move (v := .bool _) rfl rfl)) ?_
    refine d_any rfl (want_yes rfl rfl rfl) rfl (fun _ => (y_move (v := .int _ _) rfl rfl)) ?_
    refine d_any rfl (want_yes rfl rfl rfl) rfl (fun _ => (y_eql rfl rfl rfl rfl)) ?_
    refine d_any rfl want_none rfl (fun _ => (y_pickT (v := .bool _) rfl rfl rfl rfl)) ?_
    refine d_any rfl want_none rfl (fun _ => (y_move (v := .bool _) rfl rfl)) ?_
    refine d_any rfl (want_yes rfl rfl rfl) rfl (fun _ => (y_move (v := .int _ _) rfl rfl)) ?_
    refine d_any rfl (want_yes rfl rfl rfl) rfl (fun _ => (y_eql rfl rfl rfl rfl)) ?_
    refine d_any rfl want_none rfl (fun _ => (y_pickT (v := .bool _) rfl rfl rfl rfl)) ?_
    refine d_any rfl want_none rfl (fun _ => (y_move (v := .bool _) rfl rfl)) ?_
    refine d_any rfl (want_yes rfl rfl rfl) rfl (fun _ => (y_move (v := .slice _ _ _) rfl rfl)) ?_
    refine d_eff rfl ?_
    refine w_bslice (ps := [(0, _)]) (pv := [(0, .int _ _)]) (cs := [_]) (want_yes rfl rfl rfl) rfl rfl (fun w => Try_S_fb15 _ w) hs130 (fun b131 w132 hs133 => ?_)
    refine w_nil ?_
    refine qn ⟨hs133.tail.tail.tail.tail.tail, ?_⟩
    refine d_eff rfl ?_
    refine w_call (want_yes rfl rfl rfl) Try.call25 rfl rfl rfl rfl (con_true (c25 _ _ [1] [1] _ _ (by decide) hr6.top.cons.cons.cons.cons.cons.cons (sl_own (i := 0) (rows := [[_]]) rfl (by simp) rfl) hs133) (by decide)) ?_
    rintro _ w135 ⟨rfl, hs136⟩
    refine w_nil ?_
    refine qn ⟨hs136.tail.tail.tail.tail.tail, ?_⟩
    refine d_any rfl want_none rfl (fun _ => (y_pickT (v := .bool _) rfl rfl rfl rfl)) ?_
    refine d_any rfl want_none rfl (fun _ => (y_move (v := .bool _) rfl rfl)) ?_
    refine d_eff rfl ?_
    refine w_call (want_yes rfl rfl rfl) Try.call18 rfl rfl rfl rfl (con_true (c18 _ (by decide) hs136) (by decide)) ?_
    rintro _ w138 ⟨rfl, hs139⟩
    refine w_nil ?_
    refine qn ⟨hs139.tail.tail.tail.tail.tail, ?_⟩
    refine d_any rfl want_none rfl (fun _ => (y_pickT (v := .bool _) rfl rfl rfl rfl)) ?_
    refine d_any rfl want_none rfl (fun _ => (y_move (v := .bool _) rfl rfl)) ?_
    refine d_eff rfl ?_
    refine w_call (want_yes rfl rfl rfl) Try.call18 rfl rfl rfl rfl (con_false (c18 _ (by decide) hs139) (by decide)) ?_
    rintro _ w141 ⟨rfl, hs142⟩
    refine w_nil ?_
    refine qn ⟨hs142.tail.tail.tail.tail.tail, ?_⟩
    refine d_any rfl (want_yes rfl rfl rfl) rfl (fun _ => (y_not rfl rfl)) ?_
    refine d_any rfl want_none rfl (fun _ => (y_pickT (v := .bool _) rfl rfl rfl rfl)) ?_
    refine d_any rfl want_none rfl (fun _ => (y_assign (v := .bool _) rfl rfl)) ?_
    refine d_nil ?_
    refine q_then (hK95 _ _ ?_)
    refine w_ret ?_
    refine q_ret (l := [.tmp 0]) (vs := [_]) rfl ⟨⟨rfl, show _ = (.bool _ : Value) from rfl⟩, trivial⟩ ?_
    exact ⟨rfl, (St.cast hZ hs142.tail.tail.tail.tail.tail.tail.drop.drop.drop.drop.tail.drop.tail).tail.tail.tail.drop.tail.drop.tail.drop⟩
   ·
    exfalso; simp at h112
  ·
   exfalso; simp at h102

end Go.Proofs
/- Walks of this seat, printed by gen.py over the engine: what each function returns, in whatever world. No conditions but those of each contract. -/
set_option linter.unusedVariables false
set_option linter.unusedSimpArgs false
set_option maxRecDepth 20000
namespace Go.Proofs
open Go.Rt Go.Rt.Ha
attribute [local irreducible] WL WC Con Yd At Ats Sl Agree DW
theorem Try_R_fb2 (x0 : ByteArray) (w : World) : (Instr.buildSlice 99 1 [(0, .string x0)].toArray).run Try.prog w = .ok (.slice (some ⟨w.heap.size, 0, none⟩) 1 1) (w.alloc (Go.Rt.blk 9 [.string x0])) := by kernel_rfl
theorem Try_info9 : Try.prog.info? 9 = some Try.t9 := by kernel_rfl
def gradeOwn (bf : List Grade) (g : Grade) : Int := if out 1 12 g.hands || out 0 9 g.scars then 7 else if notBelow bf g then 2 else 0
def freshE (s : ByteArray) (l : List ByteArray) : Int := if nmOk s = false then 6 else if has l s then 5 else 0
theorem gradeE_yes {bf : List Grade} {g : Grade} (h : freshE g.name (bf.map (·.name)) = 0) : gradeE bf g = gradeOwn bf g := by
  unfold gradeE gradeOwn nameE; unfold freshE at h
  cases h1 : nmOk g.name <;> cases h2 : has (bf.map (·.name)) g.name <;> simp [h1, h2] at h ⊢
theorem gradeE_no {bf : List Grade} {g : Grade} (h : ¬ freshE g.name (bf.map (·.name)) = 0) : gradeE bf g = freshE g.name (bf.map (·.name)) := by
  unfold gradeE nameE; unfold freshE at h ⊢
  cases h1 : nmOk g.name <;> cases h2 : has (bf.map (·.name)) g.name <;> simp [h1, h2] at h ⊢
theorem names_snocG {l : List Grade} {i : Nat} (hi : i < l.length) : ((l.take i).map (·.name)).map Value.string ++ [Value.string l[i].name] = ((l.take (i + 1)).map (·.name)).map Value.string := by
  rw [List.take_succ_eq_append_getElem hi]; simp only [List.map_append, List.map_cons, List.map_nil]
theorem names_lenG {l : List Grade} {i : Nat} (hi : i ≤ l.length) : ((l.take i).map (·.name)).length = i := by simp; omega
theorem out_no {lo hi n : Int} (h : lo ≤ n ∧ n ≤ hi) : out lo hi n = false := by unfold out; rw [Bool.or_eq_false_iff]; simp; omega
theorem out_yes {lo hi n : Int} (h : ¬ (lo ≤ n ∧ n ≤ hi)) : out lo hi n = true := by unfold out; rw [Bool.or_eq_true]; simp; omega
theorem chk_g0 {l : Lot} (h : ¬ (1 ≤ (l.grades.length : Int) ∧ (l.grades.length : Int) ≤ 4)) : check l = (1, 0, 3) := by unfold check failE; rw [out_yes h]; simp
theorem chk_g {l : Lot} {i e : Int} (h : 1 ≤ (l.grades.length : Int) ∧ (l.grades.length : Int) ≤ 4) (h1 : firstE gradeE [] 0 l.grades = (i, e)) (he : ¬ e = 0) : check l = (1, i, e) := by unfold check failE; rw [out_no h]; simp [h1, he]
theorem chk_b0 {l : Lot} (h : 1 ≤ (l.grades.length : Int) ∧ (l.grades.length : Int) ≤ 4) (h1 : firstE gradeE [] 0 l.grades = (0, 0)) (h2 : (6 : Int) < l.bunches.length) : check l = (2, 0, 3) := by unfold check failE; rw [out_no h, out_nat, decide_eq_true h2]; simp [h1]
theorem chk_b {l : Lot} {i e : Int} (h : 1 ≤ (l.grades.length : Int) ∧ (l.grades.length : Int) ≤ 4) (h1 : firstE gradeE [] 0 l.grades = (0, 0)) (h2 : (l.bunches.length : Int) ≤ 6) (h3 : firstE bunchE [] 0 l.bunches = (i, e)) (he : ¬ e = 0) : check l = (2, i, e) := by unfold check failE; rw [out_no h, out_nat, decide_eq_false (by omega)]; simp [h1, h3, he]
theorem chk_c0 {l : Lot} (h : 1 ≤ (l.grades.length : Int) ∧ (l.grades.length : Int) ≤ 4) (h1 : firstE gradeE [] 0 l.grades = (0, 0)) (h2 : (l.bunches.length : Int) ≤ 6) (h3 : firstE bunchE [] 0 l.bunches = (0, 0)) (h4 : (4 : Int) < l.counts.length) : check l = (3, 0, 3) := by unfold check failE; rw [out_no h, out_nat, decide_eq_false (by omega), out_nat, decide_eq_true h4]; simp [h1, h3]
theorem chk_c {l : Lot} {x : Int × Int} (h : 1 ≤ (l.grades.length : Int) ∧ (l.grades.length : Int) ≤ 4) (h1 : firstE gradeE [] 0 l.grades = (0, 0)) (h2 : (l.bunches.length : Int) ≤ 6) (h3 : firstE bunchE [] 0 l.bunches = (0, 0)) (h4 : (l.counts.length : Int) ≤ 4) (h5 : firstE (countE l.bunches.length) [] 0 l.counts = x) (he : ¬ x.2 = 0) : check l = (3, x.1, x.2) := by unfold check failE; rw [out_no h, out_nat, decide_eq_false (by omega), out_nat, decide_eq_false (by omega)]; simp [h1, h3, h5, he]
theorem chk_ok {l : Lot} (h : 1 ≤ (l.grades.length : Int) ∧ (l.grades.length : Int) ≤ 4) (h1 : firstE gradeE [] 0 l.grades = (0, 0)) (h2 : (l.bunches.length : Int) ≤ 6) (h3 : firstE bunchE [] 0 l.bunches = (0, 0)) (h4 : (l.counts.length : Int) ≤ 4) (h5 : firstE (countE l.bunches.length) [] 0 l.counts = (0, 0)) : check l = (0, 0, 0) := by unfold check failE; rw [out_no h, out_nat, decide_eq_false (by omega), out_nat, decide_eq_false (by omega)]; simp [h1, h3, h5]
theorem count_1 {n : Nat} {bf : List Count} {c : Count} (h : ¬ (1 ≤ c.bits ∧ c.bits ≤ allN n)) : countE n bf c = 4 := by rw [allN_eq] at h; unfold countE; rw [out_yes h]; rfl
theorem count_2 {n : Nat} {bf : List Count} {c : Count} (h : 1 ≤ c.bits ∧ c.bits ≤ allN n) (h2 : ¬ (0 ≤ c.hands ∧ c.hands ≤ 72)) : countE n bf c = 7 := by rw [allN_eq] at h; unfold countE; rw [out_no h, out_yes h2]; rfl
theorem count_3 {n : Nat} {bf : List Count} {c : Count} (h : 1 ≤ c.bits ∧ c.bits ≤ allN n) (h2 : 0 ≤ c.hands ∧ c.hands ≤ 72) : countE n bf c = 0 := by rw [allN_eq] at h; unfold countE; rw [out_no h, out_no h2]; rfl
theorem allN_in : ∀ n, n ≤ 6 → 0 ≤ allN n ∧ allN n ≤ 63 := by
  intro n h
  have := pow_le n h
  have h2 := pow64 h
  rw [allN_eq]
  have h3 : (1 : Int) ≤ 2 ^ n := by have h5 := pow_all h; omega
  omega
theorem ends_ok {a b lo hi : Int} (h : ends a b lo hi = 0) : lo ≤ a ∧ a ≤ hi ∧ lo ≤ b ∧ b ≤ hi ∧ a ≤ b := by
  unfold ends out at h
  split at h
  · cases h
  · rename_i h1
    simp only [Bool.or_eq_true, decide_eq_true_eq, not_or] at h1
    split at h
    · cases h
    · omega
theorem allN_succ (n : Nat) : allN (n + 1) = 2 * allN n + 1 := by simp only [allN]
theorem c66 {w0 w : World} {F : List (Nat × Obj)} (l : Lot) (p : At3) (hm : LIn w0 F l p) (i : Nat) (hi : i < l.grades.length) (hs : St w0 w F) :
  Con Try.prog 66 [.agg (l.cells p).toArray, .int .i64 (i : Int)] w fun v w' => v = .int .i64 (gradeOwn (l.grades.take i) l.grades[i]) ∧ St w0 w' F := by
  refine con_of_wc (n := 47) Try.func66 rfl rfl (Nat.le_of_ble_eq_true rfl) ?_
  obtain ⟨ag, cg, ab, cb, ac, cc⟩ := p
  have hlg := hm.lg
  obtain ⟨bx, ox, hbx, hx⟩ := sl_grows hm.g hi
  subst hbx
  refine w_seq (fun K2 hK1 => ?_)
  refine w_region ?_
  refine w_box (v := .agg #[.slice _ _ _, .slice _ _ _, .slice _ _ _]) (cs := [_, _, _]) want_none rfl rfl rfl hs (fun b3 w4 hs5 => ?_)
  refine w_pure want_none (y_assign (v := _) rfl rfl) rfl ?_
  refine w_nil ?_
  refine q_then (hK1 _ _ ?_)
  refine w_seq (fun K7 hK6 => ?_)
  refine w_region ?_
  refine w_pure want_none (y_fieldAddr (o := 0) (i := 0) Try.underlying26 rfl Try.sizeOf22 rfl rfl rfl) rfl ?_
  refine w_pure want_none (y_load1 Try.isAgg22 hs5 rfl rfl (ats_own (i := 0) (vs := [_]) rfl rfl)) rfl ?_
  refine w_pure want_none (y_move (v := .int _ _) rfl rfl) rfl ?_
  refine w_pure want_none (y_indexS Try.underlying22 Try.sizeOf79 rfl rfl rfl rfl (i := _) rfl (by omega)) rfl ?_
  refine w_pure want_none (y_loadN (vs := [_, _, _]) Try.isAgg79 Try.sizeOf79 hs5.tail rfl rfl hx) rfl ?_
  refine w_alloc (cs := [_, _, _]) want_none Try.zeroValue79 rfl hs5 (fun b8 w9 hs10 => ?_)
  refine w_store (i := 0) (v := .agg #[.string _, .int _ _, .int _ _]) (vs := [_, _, _]) want_none Try.sizeOf79 rfl rfl rfl rfl rfl (by simp [Value.oneCell']) hs10 rfl (Nat.le_of_ble_eq_true rfl) (fun w11 hs12 => ?_)
  refine w_nil ?_
  refine q_then (hK6 _ _ ?_)
  refine w_seq (fun K14 hK13 => ?_)
  refine w_seq (fun K16 hK15 => ?_)
  refine w_region ?_
  refine w_pure want_none (y_fieldAddr (o := 1) (i := 1) Try.underlying79 rfl Try.sizeOf3 rfl rfl rfl) rfl ?_
  refine w_pure want_none (y_load1 Try.isAgg3 hs12 rfl rfl (ats_own (i := 0) (vs := [_]) rfl rfl)) rfl ?_
  refine w_call want_none Try.call51 rfl rfl rfl rfl (c51 _ _ _ hs12) ?_
  rintro _ w18 ⟨rfl, hs19⟩
  refine w_pure want_none (y_not rfl rfl) rfl ?_
  refine w_pure want_none (y_move (v := .bool _) rfl rfl) rfl ?_
  refine w_split (fun h20 => ?_) (fun h20 => ?_)
  ·
   try simp only [Bool.not_eq_true', Bool.not_eq_false', decide_eq_true_eq, decide_eq_false_iff_not, Int.not_lt, Int.not_le] at h20
   refine w_skipop rfl rfl rfl ?_
   refine w_skipop rfl rfl rfl ?_
   refine w_skipop rfl rfl rfl ?_
   refine w_skipop rfl rfl rfl ?_
   refine w_pure want_none (y_pickT (v := _) rfl rfl rfl rfl) rfl ?_
   refine w_nil ?_
   refine q_then (hK15 _ _ ?_)
   refine w_condT rfl rfl ?_
   refine w_seq (fun K22 hK21 => ?_)
   refine w_region ?_
   refine w_pure want_none (y_assign (v := _) rfl rfl) rfl ?_
   refine w_nil ?_
   refine q_then (hK21 _ _ ?_)
   refine w_ret ?_
   refine q_then_ret ?_
   refine q_ret (l := [.tmp 4]) (vs := [_]) rfl ⟨⟨rfl, show _ = (.int _ _ : Value) from rfl⟩, trivial⟩ ?_
   first
     | exact ⟨congrArg (Value.int .i64) (by unfold gradeOwn; rw [out_yes (by assumption)]; simp), hs19.tail.tail⟩
     | exact ⟨congrArg (Value.int .i64) (by unfold gradeOwn; rw [out_yes (n := l.grades[i].scars) (by assumption)]; simp), hs19.tail.tail⟩
     | (have hi0 : i = 0 := by omega
        subst hi0
        exact ⟨congrArg (Value.int .i64) (by unfold gradeOwn; rw [out_no (by assumption), out_no (by assumption)]; rfl), hs19.tail.tail⟩)
     | (have hnb := notBelow_at h0 (show i ≤ l.grades.length by omega) l.grades[i]
        exact ⟨congrArg (Value.int .i64) (by unfold gradeOwn; rw [out_no (by assumption), out_no (by assumption), hnb]; simp [h20] <;> omega), hs19.tail.tail⟩)
  ·
   try simp only [Bool.not_eq_true', Bool.not_eq_false', decide_eq_true_eq, decide_eq_false_iff_not, Int.not_lt, Int.not_le] at h20
   refine w_pure (want_yes rfl rfl rfl) (y_fieldAddr (o := 2) (i := 2) Try.underlying79 rfl Try.sizeOf3 rfl rfl rfl) rfl ?_
   refine w_pure (want_yes rfl rfl rfl) (y_load1 Try.isAgg3 hs19 rfl rfl (ats_own (i := 0) (vs := [_]) rfl rfl)) rfl ?_
   refine w_call (want_yes rfl rfl rfl) Try.call51 rfl rfl rfl rfl (c51 _ _ _ hs19) ?_
   rintro _ w24 ⟨rfl, hs25⟩
   refine w_pure (want_yes rfl rfl rfl) (y_not rfl rfl) rfl ?_
   refine w_pure want_none (y_pickF (v := .bool _) rfl rfl rfl rfl) rfl ?_
   refine w_nil ?_
   refine q_then (hK15 _ _ ?_)
   refine w_cond rfl rfl (fun h26 => ?_) (fun h26 => ?_)
   ·
    try simp only [Bool.not_eq_true', Bool.not_eq_false', decide_eq_true_eq, decide_eq_false_iff_not, Int.not_lt, Int.not_le] at h26
    refine w_seq (fun K28 hK27 => ?_)
    refine w_region ?_
    refine w_pure want_none (y_assign (v := _) rfl rfl) rfl ?_
    refine w_nil ?_
    refine q_then (hK27 _ _ ?_)
    refine w_ret ?_
    refine q_then_ret ?_
    refine q_ret (l := [.tmp 4]) (vs := [_]) rfl ⟨⟨rfl, show _ = (.int _ _ : Value) from rfl⟩, trivial⟩ ?_
    first
      | exact ⟨congrArg (Value.int .i64) (by unfold gradeOwn; rw [out_yes (by assumption)]; simp), hs25.tail.tail⟩
      | exact ⟨congrArg (Value.int .i64) (by unfold gradeOwn; rw [out_yes (n := l.grades[i].scars) (by assumption)]; simp), hs25.tail.tail⟩
      | (have hi0 : i = 0 := by omega
         subst hi0
         exact ⟨congrArg (Value.int .i64) (by unfold gradeOwn; rw [out_no (by assumption), out_no (by assumption)]; rfl), hs25.tail.tail⟩)
      | (have hnb := notBelow_at h0 (show i ≤ l.grades.length by omega) l.grades[i]
         exact ⟨congrArg (Value.int .i64) (by unfold gradeOwn; rw [out_no (by assumption), out_no (by assumption), hnb]; simp [h20, h26] <;> omega), hs25.tail.tail⟩)
   ·
    try simp only [Bool.not_eq_true', Bool.not_eq_false', decide_eq_true_eq, decide_eq_false_iff_not, Int.not_lt, Int.not_le] at h26
    refine w_skip ?_
    refine q_then (hK13 _ _ ?_)
    refine w_seq (fun K30 hK29 => ?_)
    refine w_seq (fun K32 hK31 => ?_)
    refine w_draw [] [(0, 0), (1, 0), (2, 0), (3, 0), (4, 1), (5, 0), (6, 1), (7, 0), (8, 0), (9, 0), (10, 0), (11, 1), (12, 0), (13, 0), (14, 0), (15, 1), (16, 0), (17, 1), (18, 0), (19, 0), (20, 0), (21, 0), (22, 1), (23, 0), (24, 0), (25, 0)] Try_mo (by kernel_rfl) hs25 (fun w33 hs34 => ?_)
    refine d_any rfl want_none rfl (fun _ => (y_move (v := .int _ _) rfl rfl)) ?_
    refine d_any rfl want_none rfl (fun _ => (y_gtr rfl rfl rfl rfl)) ?_
    refine d_any rfl want_none rfl (fun _ => (y_move (v := .bool _) rfl rfl)) ?_
    refine d_split (fun h35 => ?_) (fun h35 => ?_)
    ·
     try simp only [Bool.not_eq_true', Bool.not_eq_false', decide_eq_true_eq, decide_eq_false_iff_not, Int.not_lt, Int.not_le] at h35
     have h0 : 0 < i := by omega
     obtain ⟨by_, oy, hby, hy⟩ := sl_grows hm.g (show i - 1 < l.grades.length by omega)
     cases hby
     refine d_any rfl (want_yes rfl rfl rfl) rfl (fun _ => (y_fieldAddr (o := 1) (i := 1) Try.underlying79 rfl Try.sizeOf3 rfl rfl rfl)) ?_
     refine d_take rfl (want_yes rfl rfl rfl) rfl hs34 (fun _ hq => (y_load1 Try.isAgg3 hq rfl rfl (ats_own (i := 0) (vs := [_]) rfl rfl))) ?_
     refine d_any rfl (want_yes rfl rfl rfl) rfl (fun _ => (y_fieldAddr (o := 0) (i := 0) Try.underlying26 rfl Try.sizeOf22 rfl rfl rfl)) ?_
     refine d_take rfl (want_yes rfl rfl rfl) rfl hs34 (fun _ hq => (y_load1 Try.isAgg22 hq rfl rfl (ats_own (i := 1) (vs := [_]) rfl rfl))) ?_
     refine d_any rfl (want_yes rfl rfl rfl) rfl (fun _ => (y_move (v := .int _ _) rfl rfl)) ?_
     refine d_any rfl (want_yes rfl rfl rfl) rfl (fun _ => (y_sub rfl rfl rfl rfl (by omega) (by omega))) ?_
     refine d_any rfl (want_yes rfl rfl rfl) rfl (fun _ => (y_indexS Try.underlying22 Try.sizeOf79 rfl rfl rfl rfl (i := i - 1) (by omega) (by omega))) ?_
     refine d_any rfl (want_yes rfl rfl rfl) rfl (fun _ => (y_fieldAddr (o := 1) (i := 1) Try.underlying79 rfl Try.sizeOf3 rfl rfl rfl)) ?_
     refine d_take rfl (want_yes rfl rfl rfl) rfl hs34 (fun _ hq => (y_load1 Try.isAgg3 hq.tail.tail rfl rfl (show Ats _ _ _ _ [_] from Ats.part hy 1 1))) ?_
     refine d_any rfl (want_yes rfl rfl rfl) rfl (fun _ => (y_geq rfl rfl rfl rfl)) ?_
     refine d_any rfl (want_yes rfl rfl rfl) rfl (fun _ => (y_move (v := .bool _) rfl rfl)) ?_
     refine d_split (fun h36 => ?_) (fun h36 => ?_)
     ·
      try simp only [Bool.not_eq_true', Bool.not_eq_false', decide_eq_true_eq, decide_eq_false_iff_not, Int.not_lt, Int.not_le] at h36
      refine d_skip rfl rfl rfl rfl ?_
      refine d_skip1 rfl rfl rfl rfl hs34 ?_
      refine d_skip rfl rfl rfl rfl ?_
      refine d_skip1 rfl rfl rfl rfl hs34 ?_
      refine d_skip rfl rfl rfl rfl ?_
      refine d_skip rfl rfl rfl rfl ?_
      refine d_skip rfl rfl rfl rfl ?_
      refine d_skip rfl rfl rfl rfl ?_
      refine d_skip1 rfl rfl rfl rfl hs34 ?_
      refine d_skip rfl rfl rfl rfl ?_
      refine d_any rfl (want_yes rfl rfl rfl) rfl (fun _ => (y_pickT (v := _) rfl rfl rfl rfl)) ?_
      refine d_any rfl want_none rfl (fun _ => (y_pickT (v := .bool _) rfl rfl rfl rfl)) ?_
      refine d_nil ?_
      refine q_then (hK31 _ _ ?_)
      refine w_condT rfl rfl ?_
      refine w_seq (fun K38 hK37 => ?_)
      refine w_region ?_
      refine w_pure want_none (y_assign (v := _) rfl rfl) rfl ?_
      refine w_nil ?_
      refine q_then (hK37 _ _ ?_)
      refine w_ret ?_
      refine q_then_ret ?_
      refine q_ret (l := [.tmp 4]) (vs := [_]) rfl ⟨⟨rfl, show _ = (.int _ _ : Value) from rfl⟩, trivial⟩ ?_
      first
        | exact ⟨congrArg (Value.int .i64) (by unfold gradeOwn; rw [out_yes (by assumption)]; simp), hs34.tail.tail⟩
        | exact ⟨congrArg (Value.int .i64) (by unfold gradeOwn; rw [out_yes (n := l.grades[i].scars) (by assumption)]; simp), hs34.tail.tail⟩
        | (have hi0 : i = 0 := by omega
           subst hi0
           exact ⟨congrArg (Value.int .i64) (by unfold gradeOwn; rw [out_no (by assumption), out_no (by assumption)]; rfl), hs34.tail.tail⟩)
        | (have hnb := notBelow_at h0 (show i ≤ l.grades.length by omega) l.grades[i]
           exact ⟨congrArg (Value.int .i64) (by unfold gradeOwn; rw [out_no (by assumption), out_no (by assumption), hnb]; simp [h20, h26, h35, h36] <;> omega), hs34.tail.tail⟩)
     ·
      try simp only [Bool.not_eq_true', Bool.not_eq_false', decide_eq_true_eq, decide_eq_false_iff_not, Int.not_lt, Int.not_le] at h36
      refine d_any rfl (want_yes rfl rfl rfl) rfl (fun _ => (y_fieldAddr (o := 2) (i := 2) Try.underlying79 rfl Try.sizeOf3 rfl rfl rfl)) ?_
      refine d_take rfl (want_yes rfl rfl rfl) rfl hs34 (fun _ hq => (y_load1 Try.isAgg3 hq rfl rfl (ats_own (i := 0) (vs := [_]) rfl rfl))) ?_
      refine d_any rfl (want_yes rfl rfl rfl) rfl (fun _ => (y_fieldAddr (o := 0) (i := 0) Try.underlying26 rfl Try.sizeOf22 rfl rfl rfl)) ?_
      refine d_take rfl (want_yes rfl rfl rfl) rfl hs34 (fun _ hq => (y_load1 Try.isAgg22 hq rfl rfl (ats_own (i := 1) (vs := [_]) rfl rfl))) ?_
      refine d_any rfl (want_yes rfl rfl rfl) rfl (fun _ => (y_move (v := .int _ _) rfl rfl)) ?_
      refine d_any rfl (want_yes rfl rfl rfl) rfl (fun _ => (y_sub rfl rfl rfl rfl (by omega) (by omega))) ?_
      refine d_any rfl (want_yes rfl rfl rfl) rfl (fun _ => (y_indexS Try.underlying22 Try.sizeOf79 rfl rfl rfl rfl (i := i - 1) (by omega) (by omega))) ?_
      refine d_any rfl (want_yes rfl rfl rfl) rfl (fun _ => (y_fieldAddr (o := 2) (i := 2) Try.underlying79 rfl Try.sizeOf3 rfl rfl rfl)) ?_
      refine d_take rfl (want_yes rfl rfl rfl) rfl hs34 (fun _ hq => (y_load1 Try.isAgg3 hq.tail.tail rfl rfl (show Ats _ _ _ _ [_] from Ats.part hy 2 1))) ?_
      refine d_any rfl (want_yes rfl rfl rfl) rfl (fun _ => (y_lss rfl rfl rfl rfl)) ?_
      refine d_any rfl (want_yes rfl rfl rfl) rfl (fun _ => (y_pickF (v := .bool _) rfl rfl rfl rfl)) ?_
      refine d_any rfl want_none rfl (fun _ => (y_pickT (v := .bool _) rfl rfl rfl rfl)) ?_
      refine d_nil ?_
      refine q_then (hK31 _ _ ?_)
      refine w_cond rfl rfl (fun h39 => ?_) (fun h39 => ?_)
      ·
       try simp only [Bool.not_eq_true', Bool.not_eq_false', decide_eq_true_eq, decide_eq_false_iff_not, Int.not_lt, Int.not_le] at h39
       refine w_seq (fun K41 hK40 => ?_)
       refine w_region ?_
       refine w_pure want_none (y_assign (v := _) rfl rfl) rfl ?_
       refine w_nil ?_
       refine q_then (hK40 _ _ ?_)
       refine w_ret ?_
       refine q_then_ret ?_
       refine q_ret (l := [.tmp 4]) (vs := [_]) rfl ⟨⟨rfl, show _ = (.int _ _ : Value) from rfl⟩, trivial⟩ ?_
       first
         | exact ⟨congrArg (Value.int .i64) (by unfold gradeOwn; rw [out_yes (by assumption)]; simp), hs34.tail.tail⟩
         | exact ⟨congrArg (Value.int .i64) (by unfold gradeOwn; rw [out_yes (n := l.grades[i].scars) (by assumption)]; simp), hs34.tail.tail⟩
         | (have hi0 : i = 0 := by omega
            subst hi0
            exact ⟨congrArg (Value.int .i64) (by unfold gradeOwn; rw [out_no (by assumption), out_no (by assumption)]; rfl), hs34.tail.tail⟩)
         | (have hnb := notBelow_at h0 (show i ≤ l.grades.length by omega) l.grades[i]
            exact ⟨congrArg (Value.int .i64) (by unfold gradeOwn; rw [out_no (by assumption), out_no (by assumption), hnb]; simp [h20, h26, h35, h36, h39] <;> omega), hs34.tail.tail⟩)
      ·
       try simp only [Bool.not_eq_true', Bool.not_eq_false', decide_eq_true_eq, decide_eq_false_iff_not, Int.not_lt, Int.not_le] at h39
       refine w_skip ?_
       refine q_then (hK29 _ _ ?_)
       refine w_seq (fun K43 hK42 => ?_)
       refine w_region ?_
       refine w_pure want_none (y_assign (v := _) rfl rfl) rfl ?_
       refine w_nil ?_
       refine q_then (hK42 _ _ ?_)
       refine w_ret ?_
       refine q_ret (l := [.tmp 4]) (vs := [_]) rfl ⟨⟨rfl, show _ = (.int _ _ : Value) from rfl⟩, trivial⟩ ?_
       first
         | exact ⟨congrArg (Value.int .i64) (by unfold gradeOwn; rw [out_yes (by assumption)]; simp), hs34.tail.tail⟩
         | exact ⟨congrArg (Value.int .i64) (by unfold gradeOwn; rw [out_yes (n := l.grades[i].scars) (by assumption)]; simp), hs34.tail.tail⟩
         | (have hi0 : i = 0 := by omega
            subst hi0
            exact ⟨congrArg (Value.int .i64) (by unfold gradeOwn; rw [out_no (by assumption), out_no (by assumption)]; rfl), hs34.tail.tail⟩)
         | (have hnb := notBelow_at h0 (show i ≤ l.grades.length by omega) l.grades[i]
            exact ⟨congrArg (Value.int .i64) (by unfold gradeOwn; rw [out_no (by assumption), out_no (by assumption), hnb]; simp [h20, h26, h35, h36, h39] <;> omega), hs34.tail.tail⟩)
    ·
     try simp only [Bool.not_eq_true', Bool.not_eq_false', decide_eq_true_eq, decide_eq_false_iff_not, Int.not_lt, Int.not_le] at h35
     refine d_skip rfl rfl rfl rfl ?_
     refine d_skip1 rfl rfl rfl rfl hs34 ?_
     refine d_skip rfl rfl rfl rfl ?_
     refine d_skip1 rfl rfl rfl rfl hs34 ?_
     refine d_skip rfl rfl rfl rfl ?_
     refine d_skip rfl rfl rfl rfl ?_
     refine d_skip rfl rfl rfl rfl ?_
     refine d_skip rfl rfl rfl rfl ?_
     refine d_skip1 rfl rfl rfl rfl hs34 ?_
     refine d_skip rfl rfl rfl rfl ?_
     refine d_skip rfl rfl rfl rfl ?_
     refine d_skip' rfl rfl rfl rfl ?_
     refine d_skip1' rfl rfl rfl rfl hs34 ?_
     refine d_skip' rfl rfl rfl rfl ?_
     refine d_skip1' rfl rfl rfl rfl hs34 ?_
     refine d_skip' rfl rfl rfl rfl ?_
     refine d_skip' rfl rfl rfl rfl ?_
     refine d_skip' rfl rfl rfl rfl ?_
     refine d_skip' rfl rfl rfl rfl ?_
     refine d_skip1' rfl rfl rfl rfl hs34 ?_
     refine d_skip' rfl rfl rfl rfl ?_
     refine d_skip rfl rfl rfl rfl ?_
     refine d_any rfl want_none rfl (fun _ => (y_pickF (v := _) rfl rfl rfl rfl)) ?_
     refine d_nil ?_
     refine q_then (hK31 _ _ ?_)
     refine w_condF rfl rfl ?_
     refine w_skip ?_
     refine q_then (hK29 _ _ ?_)
     refine w_seq (fun K45 hK44 => ?_)
     refine w_region ?_
     refine w_pure want_none (y_assign (v := _) rfl rfl) rfl ?_
     refine w_nil ?_
     refine q_then (hK44 _ _ ?_)
     refine w_ret ?_
     refine q_ret (l := [.tmp 4]) (vs := [_]) rfl ⟨⟨rfl, show _ = (.int _ _ : Value) from rfl⟩, trivial⟩ ?_
     first
       | exact ⟨congrArg (Value.int .i64) (by unfold gradeOwn; rw [out_yes (by assumption)]; simp), hs34.tail.tail⟩
       | exact ⟨congrArg (Value.int .i64) (by unfold gradeOwn; rw [out_yes (n := l.grades[i].scars) (by assumption)]; simp), hs34.tail.tail⟩
       | (have hi0 : i = 0 := by omega
          subst hi0
          exact ⟨congrArg (Value.int .i64) (by unfold gradeOwn; rw [out_no (by assumption), out_no (by assumption)]; rfl), hs34.tail.tail⟩)
       | (have hnb := notBelow_at h0 (show i ≤ l.grades.length by omega) l.grades[i]
          exact ⟨congrArg (Value.int .i64) (by unfold gradeOwn; rw [out_no (by assumption), out_no (by assumption), hnb]; simp [h20, h26, h35] <;> omega), hs34.tail.tail⟩)

theorem c67 {w0 w : World} {F : List (Nat × Obj)} (b : Bunch) (bf : List Bunch) (hs : St w0 w F) :
  Con Try.prog 67 [.agg b.cells.toArray] w fun v w' => v = .int .i64 (bunchE bf b) ∧ St w0 w' F := by
  refine con_of_wc (n := 33) Try.func67 rfl rfl (Nat.le_of_ble_eq_true rfl) ?_
  refine w_seq (fun K2 hK1 => ?_)
  refine w_region ?_
  refine w_box (v := .agg #[.int _ _, .int _ _, .int _ _, .int _ _]) (cs := [_, _, _, _]) want_none rfl rfl rfl hs (fun b3 w4 hs5 => ?_)
  refine w_pure want_none (y_assign (v := _) rfl rfl) rfl ?_
  refine w_nil ?_
  refine q_then (hK1 _ _ ?_)
  refine w_seq (fun K7 hK6 => ?_)
  refine w_draw [] [(0, 0), (1, 1), (3, 0), (4, 1), (2, 2), (5, 2), (6, 0), (7, 0)] Try_mo (by kernel_rfl) hs5 (fun w8 hs9 => ?_)
  refine d_any rfl want_none rfl (fun _ => (y_fieldAddr (o := 0) (i := 0) Try.underlying81 rfl Try.sizeOf34 rfl rfl rfl)) ?_
  refine d_take rfl want_none rfl hs9 (fun _ hq => (y_loadN (vs := [_, _]) Try.isAgg34 Try.sizeOf34 hq rfl rfl (ats_own (i := 0) (vs := [_, _]) rfl rfl))) ?_
  refine d_any rfl want_none rfl (fun _ => (y_fieldAddr (o := 2) (i := 1) Try.underlying81 rfl Try.sizeOf34 rfl rfl rfl)) ?_
  refine d_take rfl want_none rfl hs9 (fun _ hq => (y_loadN (vs := [_, _]) Try.isAgg34 Try.sizeOf34 hq rfl rfl (ats_own (i := 0) (vs := [_, _]) rfl rfl))) ?_
  refine d_eff rfl ?_
  refine w_call want_none Try.call104 rfl rfl rfl rfl (c104 _ _ _ _ hs9) ?_
  rintro _ w11 ⟨rfl, hs12⟩
  refine w_nil ?_
  refine qn ⟨hs12, ?_⟩
  refine d_eff rfl ?_
  refine w_call want_none Try.call104 rfl rfl rfl rfl (c104 _ _ _ _ hs12) ?_
  rintro _ w14 ⟨rfl, hs15⟩
  refine w_nil ?_
  refine qn ⟨hs15, ?_⟩
  refine d_any rfl want_none rfl (fun _ => (y_assign (v := .int _ _) rfl rfl)) ?_
  refine d_any rfl want_none rfl (fun _ => (y_assign (v := .int _ _) rfl rfl)) ?_
  refine d_nil ?_
  refine q_then (hK6 _ _ ?_)
  refine w_seq (fun K17 hK16 => ?_)
  refine w_seq (fun K19 hK18 => ?_)
  refine w_region ?_
  refine w_pure want_none (y_move (v := .int _ _) rfl rfl) rfl ?_
  refine w_pure want_none (y_eql rfl rfl rfl rfl) rfl ?_
  refine w_pure want_none (y_move (v := .bool _) rfl rfl) rfl ?_
  refine w_split (fun h20 => ?_) (fun h20 => ?_)
  ·
   try simp only [Bool.not_eq_true', Bool.not_eq_false', decide_eq_true_eq, decide_eq_false_iff_not, Int.not_lt, Int.not_le] at h20
   refine w_skipop rfl rfl rfl ?_
   refine w_skipop rfl rfl rfl ?_
   refine w_pure want_none (y_pickT (v := _) rfl rfl rfl rfl) rfl ?_
   refine w_nil ?_
   refine q_then (hK18 _ _ ?_)
   refine w_condT rfl rfl ?_
   refine w_seq (fun K22 hK21 => ?_)
   refine w_region ?_
   refine w_pure want_none (y_assign (v := _) rfl rfl) rfl ?_
   refine w_nil ?_
   refine q_then (hK21 _ _ ?_)
   refine w_ret ?_
   refine q_then_ret ?_
   refine q_ret (l := [.tmp 2]) (vs := [_]) rfl ⟨⟨rfl, show _ = (.int _ _ : Value) from rfl⟩, trivial⟩ ?_
   exact ⟨congrArg (Value.int .i64) (by rw [← bunch_same bf b]; unfold bunchR; simp [h20] <;> omega), hs15.tail⟩
  ·
   try simp only [Bool.not_eq_true', Bool.not_eq_false', decide_eq_true_eq, decide_eq_false_iff_not, Int.not_lt, Int.not_le] at h20
   refine w_pure (want_yes rfl rfl rfl) (y_move (v := .int _ _) rfl rfl) rfl ?_
   refine w_pure (want_yes rfl rfl rfl) (y_eql rfl rfl rfl rfl) rfl ?_
   refine w_pure want_none (y_pickF (v := .bool _) rfl rfl rfl rfl) rfl ?_
   refine w_nil ?_
   refine q_then (hK18 _ _ ?_)
   refine w_cond rfl rfl (fun h23 => ?_) (fun h23 => ?_)
   ·
    try simp only [Bool.not_eq_true', Bool.not_eq_false', decide_eq_true_eq, decide_eq_false_iff_not, Int.not_lt, Int.not_le] at h23
    refine w_seq (fun K25 hK24 => ?_)
    refine w_region ?_
    refine w_pure want_none (y_assign (v := _) rfl rfl) rfl ?_
    refine w_nil ?_
    refine q_then (hK24 _ _ ?_)
    refine w_ret ?_
    refine q_then_ret ?_
    refine q_ret (l := [.tmp 2]) (vs := [_]) rfl ⟨⟨rfl, show _ = (.int _ _ : Value) from rfl⟩, trivial⟩ ?_
    exact ⟨congrArg (Value.int .i64) (by rw [← bunch_same bf b]; unfold bunchR; simp [h20, h23] <;> omega), hs15.tail⟩
   ·
    try simp only [Bool.not_eq_true', Bool.not_eq_false', decide_eq_true_eq, decide_eq_false_iff_not, Int.not_lt, Int.not_le] at h23
    refine w_skip ?_
    refine q_then (hK16 _ _ ?_)
    refine w_seq (fun K27 hK26 => ?_)
    refine w_seq (fun K29 hK28 => ?_)
    refine w_region ?_
    refine w_pure want_none (y_move (v := .int _ _) rfl rfl) rfl ?_
    refine w_pure want_none (y_neq rfl rfl rfl rfl) rfl ?_
    refine w_pure want_none (y_move (v := .bool _) rfl rfl) rfl ?_
    refine w_split (fun h30 => ?_) (fun h30 => ?_)
    ·
     try simp only [Bool.not_eq_true', Bool.not_eq_false', decide_eq_true_eq, decide_eq_false_iff_not, Int.not_lt, Int.not_le] at h30
     refine w_skipop rfl rfl rfl ?_
     refine w_skipop rfl rfl rfl ?_
     refine w_pure want_none (y_pickT (v := _) rfl rfl rfl rfl) rfl ?_
     refine w_pure want_none (y_move (v := .bool _) rfl rfl) rfl ?_
     refine w_skipop rfl rfl rfl ?_
     refine w_skipop rfl rfl rfl ?_
     refine w_skipop rfl rfl rfl ?_
     refine w_skipop rfl rfl rfl ?_
     refine w_skipop rfl rfl rfl ?_
     refine w_skipop rfl rfl rfl ?_
     refine w_skipop rfl rfl rfl ?_
     refine w_skipop rfl rfl rfl ?_
     refine w_pure want_none (y_pickT (v := _) rfl rfl rfl rfl) rfl ?_
     refine w_nil ?_
     refine q_then (hK28 _ _ ?_)
     refine w_condT rfl rfl ?_
     refine w_seq (fun K32 hK31 => ?_)
     refine w_region ?_
     refine w_pure want_none (y_assign (v := _) rfl rfl) rfl ?_
     refine w_nil ?_
     refine q_then (hK31 _ _ ?_)
     refine w_ret ?_
     refine q_then_ret ?_
     refine q_ret (l := [.tmp 2]) (vs := [_]) rfl ⟨⟨rfl, show _ = (.int _ _ : Value) from rfl⟩, trivial⟩ ?_
     exact ⟨congrArg (Value.int .i64) (by rw [← bunch_same bf b]; unfold bunchR; simp [h20, h23, h30] <;> omega), hs15.tail⟩
    ·
     try simp only [Bool.not_eq_true', Bool.not_eq_false', decide_eq_true_eq, decide_eq_false_iff_not, Int.not_lt, Int.not_le] at h30
     refine w_pure (want_yes rfl rfl rfl) (y_move (v := .int _ _) rfl rfl) rfl ?_
     refine w_pure (want_yes rfl rfl rfl) (y_neq rfl rfl rfl rfl) rfl ?_
     refine w_pure want_none (y_pickF (v := .bool _) rfl rfl rfl rfl) rfl ?_
     refine w_pure want_none (y_move (v := .bool _) rfl rfl) rfl ?_
     refine w_split (fun h33 => ?_) (fun h33 => ?_)
     ·
      try simp only [Bool.not_eq_true', Bool.not_eq_false', decide_eq_true_eq, decide_eq_false_iff_not, Int.not_lt, Int.not_le] at h33
      refine w_skipop rfl rfl rfl ?_
      refine w_skipop rfl rfl rfl ?_
      refine w_skipop rfl rfl rfl ?_
      refine w_skipop rfl rfl rfl ?_
      refine w_skipop rfl rfl rfl ?_
      refine w_skipop rfl rfl rfl ?_
      refine w_skipop rfl rfl rfl ?_
      refine w_skipop rfl rfl rfl ?_
      refine w_pure want_none (y_pickT (v := _) rfl rfl rfl rfl) rfl ?_
      refine w_nil ?_
      refine q_then (hK28 _ _ ?_)
      refine w_condT rfl rfl ?_
      refine w_seq (fun K35 hK34 => ?_)
      refine w_region ?_
      refine w_pure want_none (y_assign (v := _) rfl rfl) rfl ?_
      refine w_nil ?_
      refine q_then (hK34 _ _ ?_)
      refine w_ret ?_
      refine q_then_ret ?_
      refine q_ret (l := [.tmp 2]) (vs := [_]) rfl ⟨⟨rfl, show _ = (.int _ _ : Value) from rfl⟩, trivial⟩ ?_
      exact ⟨congrArg (Value.int .i64) (by rw [← bunch_same bf b]; unfold bunchR; simp [h20, h23, h30, h33] <;> omega), hs15.tail⟩
     ·
      try simp only [Bool.not_eq_true', Bool.not_eq_false', decide_eq_true_eq, decide_eq_false_iff_not, Int.not_lt, Int.not_le] at h33
      refine w_pure (want_yes rfl rfl rfl) (y_fieldAddr (o := 0) (i := 0) Try.underlying81 rfl Try.sizeOf34 rfl rfl rfl) rfl ?_
      refine w_pure (want_yes rfl rfl rfl) (y_fieldAddr (o := 1) (i := 1) Try.underlying34 rfl Try.sizeOf3 rfl rfl rfl) rfl ?_
      refine w_pure (want_yes rfl rfl rfl) (y_load1 Try.isAgg3 hs15 rfl rfl (ats_own (i := 0) (vs := [_]) rfl rfl)) rfl ?_
      refine w_pure (want_yes rfl rfl rfl) (y_fieldAddr (o := 0) (i := 0) Try.underlying81 rfl Try.sizeOf34 rfl rfl rfl) rfl ?_
      refine w_pure (want_yes rfl rfl rfl) (y_fieldAddr (o := 0) (i := 0) Try.underlying34 rfl Try.sizeOf3 rfl rfl rfl) rfl ?_
      refine w_pure (want_yes rfl rfl rfl) (y_load1 Try.isAgg3 hs15 rfl rfl (ats_own (i := 0) (vs := [_]) rfl rfl)) rfl ?_
      have he1 := ends_ok (by assumption : ends b.lo b.hi 1 12 = 0)
      refine w_pure (want_yes rfl rfl rfl) (y_sub rfl rfl rfl rfl (by omega) (by omega)) rfl ?_
      refine w_pure (want_yes rfl rfl rfl) (y_gtr rfl rfl rfl rfl) rfl ?_
      refine w_pure want_none (y_pickF (v := .bool _) rfl rfl rfl rfl) rfl ?_
      refine w_nil ?_
      refine q_then (hK28 _ _ ?_)
      refine w_cond rfl rfl (fun h36 => ?_) (fun h36 => ?_)
      ·
       try simp only [Bool.not_eq_true', Bool.not_eq_false', decide_eq_true_eq, decide_eq_false_iff_not, Int.not_lt, Int.not_le] at h36
       refine w_seq (fun K38 hK37 => ?_)
       refine w_region ?_
       refine w_pure want_none (y_assign (v := _) rfl rfl) rfl ?_
       refine w_nil ?_
       refine q_then (hK37 _ _ ?_)
       refine w_ret ?_
       refine q_then_ret ?_
       refine q_ret (l := [.tmp 2]) (vs := [_]) rfl ⟨⟨rfl, show _ = (.int _ _ : Value) from rfl⟩, trivial⟩ ?_
       exact ⟨congrArg (Value.int .i64) (by rw [← bunch_same bf b]; unfold bunchR; simp [h20, h23, h30, h33, h36] <;> omega), hs15.tail⟩
      ·
       try simp only [Bool.not_eq_true', Bool.not_eq_false', decide_eq_true_eq, decide_eq_false_iff_not, Int.not_lt, Int.not_le] at h36
       refine w_skip ?_
       refine q_then (hK26 _ _ ?_)
       refine w_seq (fun K40 hK39 => ?_)
       refine w_region ?_
       refine w_pure want_none (y_assign (v := _) rfl rfl) rfl ?_
       refine w_nil ?_
       refine q_then (hK39 _ _ ?_)
       refine w_ret ?_
       refine q_ret (l := [.tmp 2]) (vs := [_]) rfl ⟨⟨rfl, show _ = (.int _ _ : Value) from rfl⟩, trivial⟩ ?_
       exact ⟨congrArg (Value.int .i64) (by rw [← bunch_same bf b]; unfold bunchR; simp [h20, h23, h30, h33, h36] <;> omega), hs15.tail⟩

theorem c68 {w0 w : World} {F : List (Nat × Obj)} (n : Nat) (hn : n ≤ 6) (hs : St w0 w F) :
  Con Try.prog 68 [.int .i64 (n : Int)] w fun v w' => v = .int .i64 (allN n) ∧ St w0 w' F := by
  refine con_of_wc (n := 14) Try.func68 rfl rfl (Nat.le_of_ble_eq_true rfl) ?_
  refine w_seq (fun K2 hK1 => ?_)
  refine w_region ?_
  refine w_pure want_none (y_assign (v := _) rfl rfl) rfl ?_
  refine w_nil ?_
  refine q_then (hK1 _ _ ?_)
  refine w_seq (fun K4 hK3 => ?_)
  refine w_region ?_
  refine w_pure want_none (y_assign (v := _) rfl rfl) rfl ?_
  refine w_nil ?_
  refine q_then (hK3 _ _ ?_)
  refine w_seq (fun K6 hK5 => ?_)
  refine w_seq (fun K8 hK7 => ?_)
  refine w_region ?_
  refine w_pure want_none (y_assign (v := _) rfl rfl) rfl ?_
  refine w_nil ?_
  refine q_then (hK7 _ _ ?_)
  refine w_block ?_
  refine w_loop [3, 4, 5, 6, 7, 8, 9, 10, 11, 12] [3, 4] (fun k vs w => ∃ (i : Nat), vs = [.int .i64 (allN i), .int .i64 i] ∧ i ≤ n ∧ k = n - i ∧ St w0 w F) (n) ?_ ?_
  ·
   exact ⟨0, rfl, by omega, by omega, hs⟩
  ·
   intro k vs μ w11 hI K10 hN9
   obtain ⟨i, rfl, hia, rfl, hs⟩ := hI
   have hai := allN_in i (by omega)
   refine w_seq (fun K13 hK12 => ?_)
   refine w_seq (fun K15 hK14 => ?_)
   refine w_region ?_
   refine w_pure want_none (y_move (v := .int _ _) rfl rfl) rfl ?_
   refine w_pure want_none (y_move (v := .int _ _) rfl rfl) rfl ?_
   refine w_pure want_none (y_lss rfl rfl rfl rfl) rfl ?_
   refine w_nil ?_
   refine q_then (hK14 _ _ ?_)
   refine w_cond rfl rfl (fun h16 => ?_) (fun h16 => ?_)
   ·
    try simp only [Bool.not_eq_true', Bool.not_eq_false', decide_eq_true_eq, decide_eq_false_iff_not, Int.not_lt, Int.not_le] at h16
    refine w_skip ?_
    refine q_then (hK12 _ _ ?_)
    refine w_seq (fun K18 hK17 => ?_)
    refine w_block ?_
    refine w_region ?_
    refine w_pure want_none (y_move (v := .int _ _) rfl rfl) rfl ?_
    refine w_pure want_none (y_mul rfl rfl rfl rfl (by omega) (by omega)) rfl ?_
    refine w_pure want_none (y_add rfl rfl rfl rfl (by omega) (by omega)) rfl ?_
    refine w_pure want_none (y_assign (v := .int _ _) rfl rfl) rfl ?_
    refine w_nil ?_
    refine q_blk_normal ?_
    refine q_then (hK17 _ _ ?_)
    refine w_region ?_
    refine w_pure want_none (y_move (v := .int _ _) rfl rfl) rfl ?_
    refine w_pure want_none (y_add rfl rfl rfl rfl (by omega) (by omega)) rfl ?_
    refine w_pure want_none (y_assign (v := .int _ _) rfl rfl) rfl ?_
    refine w_nil ?_
    refine q_then (hN9 _ _ (Nx.intro (n - (i + 1)) (by omega) (by repeat (first | exact agree_mix | refine agree_upd rfl ?_ | refine agree_updL rfl ?_ _ | refine agree_mixin rfl ?_)) ?_))
    exact ⟨i + 1, iv2 (by rw [allN_succ]) rfl, by omega, rfl, hs⟩
   ·
    try simp only [Bool.not_eq_true', Bool.not_eq_false', decide_eq_true_eq, decide_eq_false_iff_not, Int.not_lt, Int.not_le] at h16
    refine w_exit ?_
    refine q_then_exit ?_
    refine q_then_exit ?_
    refine q_blk_this ?_
    refine q_then (hK5 _ _ ?_)
    refine w_seq (fun K20 hK19 => ?_)
    refine w_region ?_
    refine w_pure want_none (y_move (v := .int _ _) rfl rfl) rfl ?_
    refine w_pure want_none (y_assign (v := .int _ _) rfl rfl) rfl ?_
    refine w_nil ?_
    refine q_then (hK19 _ _ ?_)
    refine w_ret ?_
    refine q_ret (l := [.tmp 2]) (vs := [_]) rfl ⟨⟨rfl, show _ = (.int _ _ : Value) from rfl⟩, trivial⟩ ?_
    have hin : i = n := by omega
    subst hin
    exact ⟨rfl, hs⟩

theorem c17 {w0 w : World} {F : List (Nat × Obj)} (l : Lot) (p : At3) (hm : LIn w0 F l p)  (hs : St w0 w F) :
  Con Try.prog 17 [.agg (l.cells p).toArray] w fun v w' => v = .tuple #[.int .i64 (check l).1, .int .i64 (check l).2.1, .int .i64 (check l).2.2] ∧ St w0 w' F := by
  refine con_of_wc (n := 103) Try.func17 rfl rfl (Nat.le_of_ble_eq_true rfl) ?_
  obtain ⟨ag, cg, ab, cb, ac, cc⟩ := p
  have hlg := hm.lg
  have hlb := hm.lb
  have hlc := hm.lc
  refine w_seq (fun K2 hK1 => ?_)
  refine w_region ?_
  refine w_box (v := .agg #[.slice _ _ _, .slice _ _ _, .slice _ _ _]) (cs := [_, _, _]) want_none rfl rfl rfl hs (fun b3 w4 hs5 => ?_)
  refine w_pure want_none (y_assign (v := _) rfl rfl) rfl ?_
  refine w_pure want_none (y_assign (v := _) rfl rfl) rfl ?_
  refine w_pure want_none (y_assign (v := _) rfl rfl) rfl ?_
  refine w_nil ?_
  refine q_then (hK1 _ _ ?_)
  refine w_seq (fun K7 hK6 => ?_)
  refine w_seq (fun K9 hK8 => ?_)
  refine w_region ?_
  refine w_pure want_none (y_fieldAddr (o := 0) (i := 0) Try.underlying26 rfl Try.sizeOf22 rfl rfl rfl) rfl ?_
  refine w_pure want_none (y_load1 Try.isAgg22 hs5 rfl rfl (ats_own (i := 0) (vs := [_]) rfl rfl)) rfl ?_
  refine w_pure want_none (y_lenS Try.underlying22 rfl rfl) rfl ?_
  refine w_call want_none Try.call51 rfl rfl rfl rfl (c51 _ _ _ hs5) ?_
  rintro _ w11 ⟨rfl, hs12⟩
  refine w_pure want_none (y_not rfl rfl) rfl ?_
  refine w_nil ?_
  refine q_then (hK8 _ _ ?_)
  refine w_cond rfl rfl (fun h13 => ?_) (fun h13 => ?_)
  ·
   try simp only [Bool.not_eq_true', Bool.not_eq_false', decide_eq_true_eq, decide_eq_false_iff_not, Int.not_lt, Int.not_le] at h13
   refine w_seq (fun K15 hK14 => ?_)
   refine w_region ?_
   refine w_pure want_none (y_assign (v := _) rfl rfl) rfl ?_
   refine w_pure want_none (y_assign (v := _) rfl rfl) rfl ?_
   refine w_pure want_none (y_assign (v := _) rfl rfl) rfl ?_
   refine w_nil ?_
   refine q_then (hK14 _ _ ?_)
   refine w_ret ?_
   refine q_then_ret ?_
   refine q_ret (l := [.tmp 2, .tmp 3, .tmp 4]) (vs := [_, _, _]) rfl ⟨⟨rfl, show _ = (.int _ _ : Value) from rfl⟩, ⟨rfl, show _ = (.int _ _ : Value) from rfl⟩, ⟨rfl, show _ = (.int _ _ : Value) from rfl⟩, trivial⟩ ?_
   first
     | contradiction
     | exact ⟨tup3 (chk_g0 (by assumption)), hs12.tail⟩
     | (refine ⟨tup3 (chk_g (by assumption) (hinv.trans ((firstE_stop hi2 ?_).trans ?_)) ?_), hs12.tail⟩
        · rw [gradeE_no (by assumption)]; assumption
        · rw [gradeE_no (by assumption)]
        · assumption)
     | (refine ⟨tup3 (chk_g (by assumption) (hinv.trans ((firstE_stop hi2 ?_).trans ?_)) ?_), hs12.tail⟩
        · rw [gradeE_yes (by assumption)]; assumption
        · rw [gradeE_yes (by assumption)]
        · assumption)
     | exact ⟨tup3 (chk_b0 (by assumption) hge (by assumption)), hs12.tail⟩
     | exact ⟨tup3 (chk_b (by assumption) hge (by assumption) (hinv.trans (firstE_stop hi2 (by assumption))) (by assumption)), hs12.tail⟩
     | exact ⟨tup3 (chk_c0 (by assumption) hge (by assumption) hbe (by assumption)), hs12.tail⟩
     | (have hce := count_1 (bf := l.counts.take i) (by assumption : ¬ (1 ≤ l.counts[i].bits ∧ l.counts[i].bits ≤ allN l.bunches.length))
        exact ⟨tup3 (chk_c (x := ((i : Int), 4)) (by assumption) hge (by assumption) hbe (by assumption) (hinv.trans ((firstE_stop hi2 (by rw [hce]; decide)).trans (by rw [hce]))) (by show ¬ (4 : Int) = 0; decide)), hs12.tail⟩)
     | (have hce := count_2 (bf := l.counts.take i) (by assumption : 1 ≤ l.counts[i].bits ∧ l.counts[i].bits ≤ allN l.bunches.length) (by assumption)
        exact ⟨tup3 (chk_c (x := ((i : Int), 7)) (by assumption) hge (by assumption) hbe (by assumption) (hinv.trans ((firstE_stop hi2 (by rw [hce]; decide)).trans (by rw [hce]))) (by show ¬ (7 : Int) = 0; decide)), hs12.tail⟩)
     | exact ⟨tup3 (chk_ok (by assumption) hge (by assumption) hbe (by assumption) (hinv.trans (firstE_end (by omega) _))), hs12.tail⟩
  ·
   try simp only [Bool.not_eq_true', Bool.not_eq_false', decide_eq_true_eq, decide_eq_false_iff_not, Int.not_lt, Int.not_le] at h13
   refine w_skip ?_
   refine q_then (hK6 _ _ ?_)
   refine w_seq (fun K17 hK16 => ?_)
   refine w_region ?_
   refine w_pure want_none (y_assign (v := _) rfl rfl) rfl ?_
   refine w_nil ?_
   refine q_then (hK16 _ _ ?_)
   refine w_seq (fun K19 hK18 => ?_)
   refine w_seq (fun K21 hK20 => ?_)
   refine w_region ?_
   refine w_pure want_none (y_assign (v := _) rfl rfl) rfl ?_
   refine w_nil ?_
   refine q_then (hK20 _ _ ?_)
   refine w_block ?_
   refine w_loop [2, 3, 4, 5, 6, 7, 16, 17, 18, 19, 20, 21, 22, 23, 24, 25, 26, 27, 28, 29, 30, 31, 32, 33, 34, 35, 36, 37, 38, 39, 40, 41, 42, 43, 44, 45, 46, 47, 48] [5, 6] (fun k vs w => ∃ (i : Nat) (v : Value) (B : List (Nat × Obj)), vs = [v, .int .i64 i] ∧ i ≤ l.grades.length ∧ k = l.grades.length - i ∧ firstE gradeE [] 0 l.grades = firstE gradeE (l.grades.take i) i (l.grades.drop i) ∧ Rt.Own v 9 1 i (((l.grades.take i).map (·.name)).map Value.string) B ∧ St w0 w ((b3, blk 26 (l.cells ⟨ag, cg, ab, cb, ac, cc⟩)) :: (B ++ F))) (l.grades.length) ?_ ?_
   ·
    exact ⟨0, _, [], rfl, by omega, by omega, rfl, own_nil 9 1, hs12⟩
   ·
    intro k vs μ w24 hI K23 hN22
    obtain ⟨i, v, B, rfl, hia, rfl, hinv, hown, hs⟩ := hI
    refine w_seq (fun K26 hK25 => ?_)
    refine w_seq (fun K28 hK27 => ?_)
    refine w_region ?_
    refine w_pure want_none (y_move (v := .int _ _) rfl rfl) rfl ?_
    refine w_pure want_none (y_fieldAddr (o := 0) (i := 0) Try.underlying26 rfl Try.sizeOf22 rfl rfl rfl) rfl ?_
    refine w_pure want_none (y_load1 Try.isAgg22 hs rfl rfl (ats_own (i := 0) (vs := [_]) rfl rfl)) rfl ?_
    refine w_pure want_none (y_lenS Try.underlying22 rfl rfl) rfl ?_
    refine w_pure want_none (y_lss rfl rfl rfl rfl) rfl ?_
    refine w_nil ?_
    refine q_then (hK27 _ _ ?_)
    refine w_cond rfl rfl (fun h29 => ?_) (fun h29 => ?_)
    ·
     try simp only [Bool.not_eq_true', Bool.not_eq_false', decide_eq_true_eq, decide_eq_false_iff_not, Int.not_lt, Int.not_le] at h29
     refine w_skip ?_
     refine q_then (hK25 _ _ ?_)
     refine w_seq (fun K31 hK30 => ?_)
     refine w_block ?_
     refine w_seq (fun K33 hK32 => ?_)
     have hi2 : i < l.grades.length := by omega
     have hn2 := names_lenG hia
     obtain ⟨bx, ox, rfl, hx⟩ := sl_grows hm.g hi2
     obtain ⟨an, cn, rfl, hsn⟩ := own_sl_map (w0 := w0) hown hn2 F
     have hnl : ((l.grades.take i).map (·.name)).length ≤ 1000000 := by omega
     refine w_region ?_
     refine w_pure want_none (y_fieldAddr (o := 0) (i := 0) Try.underlying26 rfl Try.sizeOf22 rfl rfl rfl) rfl ?_
     refine w_pure want_none (y_load1 Try.isAgg22 hs rfl rfl (ats_own (i := 0) (vs := [_]) rfl rfl)) rfl ?_
     refine w_pure want_none (y_move (v := .int _ _) rfl rfl) rfl ?_
     refine w_pure want_none (y_indexS Try.underlying22 Try.sizeOf79 rfl rfl rfl rfl (i := _) rfl (by omega)) rfl ?_
     refine w_pure want_none (y_fieldAddr (o := 0) (i := 0) Try.underlying79 rfl Try.sizeOf9 rfl rfl rfl) rfl ?_
     refine w_pure want_none (y_load1 Try.isAgg9 hs.tail.drop rfl rfl (show Ats _ _ _ _ [_] from Ats.part hx 0 1)) rfl ?_
     refine w_pure want_none (y_move (v := .slice _ _ _) rfl rfl) rfl ?_
     refine w_call want_none Try.call65 rfl rfl rfl rfl ((c65 _ _ _ _ (hm.ng _ (List.getElem_mem hi2)) (by omega) hsn.cons hs).mono (fun v w2 h => (show v = .int .i64 (freshE l.grades[i].name ((l.grades.take i).map (·.name))) ∧ _ from h))) ?_
     rintro _ w35 ⟨rfl, hs36⟩
     refine w_pure want_none (y_assign (v := .int _ _) rfl rfl) rfl ?_
     refine w_nil ?_
     refine q_then (hK32 _ _ ?_)
     refine w_seq (fun K38 hK37 => ?_)
     refine w_region ?_
     refine w_pure want_none (y_move (v := .slice _ _ _) rfl rfl) rfl ?_
     refine w_pure want_none (y_fieldAddr (o := 0) (i := 0) Try.underlying26 rfl Try.sizeOf22 rfl rfl rfl) rfl ?_
     refine w_pure want_none (y_load1 Try.isAgg22 hs36 rfl rfl (ats_own (i := 0) (vs := [_]) rfl rfl)) rfl ?_
     refine w_pure want_none (y_move (v := .int _ _) rfl rfl) rfl ?_
     refine w_pure want_none (y_indexS Try.underlying22 Try.sizeOf79 rfl rfl rfl rfl (i := _) rfl (by omega)) rfl ?_
     refine w_pure want_none (y_fieldAddr (o := 0) (i := 0) Try.underlying79 rfl Try.sizeOf9 rfl rfl rfl) rfl ?_
     refine w_pure want_none (y_load1 Try.isAgg9 hs36.tail.drop rfl rfl (show Ats _ _ _ _ [_] from Ats.part hx 0 1)) rfl ?_
     refine w_bslice (ps := [(0, _)]) (pv := [(0, .string _)]) (cs := [_]) want_none rfl rfl (fun w => Try_R_fb2 _ w) hs36 (fun b39 w40 hs41 => ?_)
     refine w_append (X := (_ :: _ :: [])) (B := B) (rows := [[_]]) (sz := 1) (bytes := 16) want_none Try.underlying99 Try_info9 rfl rfl rfl rfl rfl rfl rfl rfl rfl hs41 hown (sl_own (i := 0) rfl (by simp) rfl) rfl (by simp) (by simp [Value.oneCell']) (by simp only [maxLen]; omega) (by omega) (fun v42 w43 B44 ho45 hs46 => ?_)
     replace hs46 := (show St _ _ (_ :: _ :: B44 ++ (F)) from hs46)
     refine w_pure want_none (y_assign (v := v42) rfl rfl) rfl ?_
     refine w_nil ?_
     refine q_then (hK37 _ _ ?_)
     refine w_seq (fun K48 hK47 => ?_)
     refine w_seq (fun K50 hK49 => ?_)
     refine w_region ?_
     refine w_pure want_none (y_move (v := .int _ _) rfl rfl) rfl ?_
     refine w_pure want_none (y_eql rfl rfl rfl rfl) rfl ?_
     refine w_nil ?_
     refine q_then (hK49 _ _ ?_)
     refine w_cond rfl rfl (fun h51 => ?_) (fun h51 => ?_)
     ·
      try simp only [Bool.not_eq_true', Bool.not_eq_false', decide_eq_true_eq, decide_eq_false_iff_not, Int.not_lt, Int.not_le] at h51
      refine w_region ?_
      refine w_pure want_none (y_loadN (vs := [_, _, _]) Try.isAgg26 Try.sizeOf26 hs46 rfl rfl (ats_own (i := 1) (vs := [_, _, _]) rfl rfl)) rfl ?_
      refine w_pure want_none (y_move (v := .int _ _) rfl rfl) rfl ?_
      refine w_call want_none Try.call66 rfl rfl rfl rfl (c66 l ⟨_, _, _, _, _, _⟩ hm.app.cons.cons i hi2 hs46) ?_
      rintro _ w53 ⟨rfl, hs54⟩
      refine w_pure want_none (y_assign (v := .int _ _) rfl rfl) rfl ?_
      refine w_nil ?_
      refine q_then (hK47 _ _ ?_)
      refine w_seq (fun K56 hK55 => ?_)
      refine w_region ?_
      refine w_pure want_none (y_move (v := .int _ _) rfl rfl) rfl ?_
      refine w_pure want_none (y_neq rfl rfl rfl rfl) rfl ?_
      refine w_nil ?_
      refine q_then (hK55 _ _ ?_)
      refine w_cond rfl rfl (fun h57 => ?_) (fun h57 => ?_)
      ·
       try simp only [Bool.not_eq_true', Bool.not_eq_false', decide_eq_true_eq, decide_eq_false_iff_not, Int.not_lt, Int.not_le] at h57
       refine w_seq (fun K59 hK58 => ?_)
       refine w_region ?_
       refine w_pure want_none (y_move (v := .int _ _) rfl rfl) rfl ?_
       refine w_pure want_none (y_move (v := .int _ _) rfl rfl) rfl ?_
       refine w_pure want_none (y_assign (v := _) rfl rfl) rfl ?_
       refine w_pure want_none (y_assign (v := .int _ _) rfl rfl) rfl ?_
       refine w_pure want_none (y_assign (v := .int _ _) rfl rfl) rfl ?_
       refine w_nil ?_
       refine q_then (hK58 _ _ ?_)
       refine w_ret ?_
       refine q_blk_ret ?_
       refine q_then_ret ?_
       refine q_then_ret ?_
       refine q_blk_ret ?_
       refine q_then_ret ?_
       refine q_ret (l := [.tmp 2, .tmp 3, .tmp 4]) (vs := [_, _, _]) rfl ⟨⟨rfl, show _ = (.int _ _ : Value) from rfl⟩, ⟨rfl, show _ = (.int _ _ : Value) from rfl⟩, ⟨rfl, show _ = (.int _ _ : Value) from rfl⟩, trivial⟩ ?_
       first
         | contradiction
         | exact ⟨tup3 (chk_g0 (by assumption)), hs54.tail.tail.drop⟩
         | (refine ⟨tup3 (chk_g (by assumption) (hinv.trans ((firstE_stop hi2 ?_).trans ?_)) ?_), hs54.tail.tail.drop⟩
            · rw [gradeE_no (by assumption)]; assumption
            · rw [gradeE_no (by assumption)]
            · assumption)
         | (refine ⟨tup3 (chk_g (by assumption) (hinv.trans ((firstE_stop hi2 ?_).trans ?_)) ?_), hs54.tail.tail.drop⟩
            · rw [gradeE_yes (by assumption)]; assumption
            · rw [gradeE_yes (by assumption)]
            · assumption)
         | exact ⟨tup3 (chk_b0 (by assumption) hge (by assumption)), hs54.tail.tail.drop⟩
         | exact ⟨tup3 (chk_b (by assumption) hge (by assumption) (hinv.trans (firstE_stop hi2 (by assumption))) (by assumption)), hs54.tail.tail.drop⟩
         | exact ⟨tup3 (chk_c0 (by assumption) hge (by assumption) hbe (by assumption)), hs54.tail.tail.drop⟩
         | (have hce := count_1 (bf := l.counts.take i) (by assumption : ¬ (1 ≤ l.counts[i].bits ∧ l.counts[i].bits ≤ allN l.bunches.length))
            exact ⟨tup3 (chk_c (x := ((i : Int), 4)) (by assumption) hge (by assumption) hbe (by assumption) (hinv.trans ((firstE_stop hi2 (by rw [hce]; decide)).trans (by rw [hce]))) (by show ¬ (4 : Int) = 0; decide)), hs54.tail.tail.drop⟩)
         | (have hce := count_2 (bf := l.counts.take i) (by assumption : 1 ≤ l.counts[i].bits ∧ l.counts[i].bits ≤ allN l.bunches.length) (by assumption)
            exact ⟨tup3 (chk_c (x := ((i : Int), 7)) (by assumption) hge (by assumption) hbe (by assumption) (hinv.trans ((firstE_stop hi2 (by rw [hce]; decide)).trans (by rw [hce]))) (by show ¬ (7 : Int) = 0; decide)), hs54.tail.tail.drop⟩)
         | exact ⟨tup3 (chk_ok (by assumption) hge (by assumption) hbe (by assumption) (hinv.trans (firstE_end (by omega) _))), hs54.tail.tail.drop⟩
      ·
       try simp only [Bool.not_eq_true', Bool.not_eq_false', decide_eq_true_eq, decide_eq_false_iff_not, Int.not_lt, Int.not_le] at h57
       refine w_skip ?_
       refine q_blk_normal ?_
       refine q_then (hK30 _ _ ?_)
       refine w_region ?_
       refine w_pure want_none (y_move (v := .int _ _) rfl rfl) rfl ?_
       refine w_pure want_none (y_add rfl rfl rfl rfl (by omega) (by omega)) rfl ?_
       refine w_pure want_none (y_assign (v := .int _ _) rfl rfl) rfl ?_
       refine w_nil ?_
       refine q_then (hN22 _ _ (Nx.intro (l.grades.length - (i + 1)) (by omega) (by repeat (first | exact agree_mix | refine agree_upd rfl ?_ | refine agree_updL rfl ?_ _ | refine agree_mixin rfl ?_)) ?_))
       first
         | contradiction
         | exact ⟨i + 1, _, _, rfl, by omega, rfl, hinv.trans (firstE_step hi2 (by rw [gradeE_yes (by assumption)]; assumption)), by rw [← names_snocG hi2]; exact ho45, hs54.tail⟩
     ·
      try simp only [Bool.not_eq_true', Bool.not_eq_false', decide_eq_true_eq, decide_eq_false_iff_not, Int.not_lt, Int.not_le] at h51
      refine w_skip ?_
      refine q_then (hK47 _ _ ?_)
      refine w_seq (fun K61 hK60 => ?_)
      refine w_region ?_
      refine w_pure want_none (y_move (v := .int _ _) rfl rfl) rfl ?_
      refine w_pure want_none (y_neq rfl rfl rfl rfl) rfl ?_
      refine w_nil ?_
      refine q_then (hK60 _ _ ?_)
      refine w_cond rfl rfl (fun h62 => ?_) (fun h62 => ?_)
      ·
       try simp only [Bool.not_eq_true', Bool.not_eq_false', decide_eq_true_eq, decide_eq_false_iff_not, Int.not_lt, Int.not_le] at h62
       refine w_seq (fun K64 hK63 => ?_)
       refine w_region ?_
       refine w_pure want_none (y_move (v := .int _ _) rfl rfl) rfl ?_
       refine w_pure want_none (y_move (v := .int _ _) rfl rfl) rfl ?_
       refine w_pure want_none (y_assign (v := _) rfl rfl) rfl ?_
       refine w_pure want_none (y_assign (v := .int _ _) rfl rfl) rfl ?_
       refine w_pure want_none (y_assign (v := .int _ _) rfl rfl) rfl ?_
       refine w_nil ?_
       refine q_then (hK63 _ _ ?_)
       refine w_ret ?_
       refine q_blk_ret ?_
       refine q_then_ret ?_
       refine q_then_ret ?_
       refine q_blk_ret ?_
       refine q_then_ret ?_
       refine q_ret (l := [.tmp 2, .tmp 3, .tmp 4]) (vs := [_, _, _]) rfl ⟨⟨rfl, show _ = (.int _ _ : Value) from rfl⟩, ⟨rfl, show _ = (.int _ _ : Value) from rfl⟩, ⟨rfl, show _ = (.int _ _ : Value) from rfl⟩, trivial⟩ ?_
       first
         | contradiction
         | exact ⟨tup3 (chk_g0 (by assumption)), hs46.tail.tail.drop⟩
         | (refine ⟨tup3 (chk_g (by assumption) (hinv.trans ((firstE_stop hi2 ?_).trans ?_)) ?_), hs46.tail.tail.drop⟩
            · rw [gradeE_no (by assumption)]; assumption
            · rw [gradeE_no (by assumption)]
            · assumption)
         | (refine ⟨tup3 (chk_g (by assumption) (hinv.trans ((firstE_stop hi2 ?_).trans ?_)) ?_), hs46.tail.tail.drop⟩
            · rw [gradeE_yes (by assumption)]; assumption
            · rw [gradeE_yes (by assumption)]
            · assumption)
         | exact ⟨tup3 (chk_b0 (by assumption) hge (by assumption)), hs46.tail.tail.drop⟩
         | exact ⟨tup3 (chk_b (by assumption) hge (by assumption) (hinv.trans (firstE_stop hi2 (by assumption))) (by assumption)), hs46.tail.tail.drop⟩
         | exact ⟨tup3 (chk_c0 (by assumption) hge (by assumption) hbe (by assumption)), hs46.tail.tail.drop⟩
         | (have hce := count_1 (bf := l.counts.take i) (by assumption : ¬ (1 ≤ l.counts[i].bits ∧ l.counts[i].bits ≤ allN l.bunches.length))
            exact ⟨tup3 (chk_c (x := ((i : Int), 4)) (by assumption) hge (by assumption) hbe (by assumption) (hinv.trans ((firstE_stop hi2 (by rw [hce]; decide)).trans (by rw [hce]))) (by show ¬ (4 : Int) = 0; decide)), hs46.tail.tail.drop⟩)
         | (have hce := count_2 (bf := l.counts.take i) (by assumption : 1 ≤ l.counts[i].bits ∧ l.counts[i].bits ≤ allN l.bunches.length) (by assumption)
            exact ⟨tup3 (chk_c (x := ((i : Int), 7)) (by assumption) hge (by assumption) hbe (by assumption) (hinv.trans ((firstE_stop hi2 (by rw [hce]; decide)).trans (by rw [hce]))) (by show ¬ (7 : Int) = 0; decide)), hs46.tail.tail.drop⟩)
         | exact ⟨tup3 (chk_ok (by assumption) hge (by assumption) hbe (by assumption) (hinv.trans (firstE_end (by omega) _))), hs46.tail.tail.drop⟩
      ·
       try simp only [Bool.not_eq_true', Bool.not_eq_false', decide_eq_true_eq, decide_eq_false_iff_not, Int.not_lt, Int.not_le] at h62
       refine w_skip ?_
       refine q_blk_normal ?_
       refine q_then (hK30 _ _ ?_)
       refine w_region ?_
       refine w_pure want_none (y_move (v := .int _ _) rfl rfl) rfl ?_
       refine w_pure want_none (y_add rfl rfl rfl rfl (by omega) (by omega)) rfl ?_
       refine w_pure want_none (y_assign (v := .int _ _) rfl rfl) rfl ?_
       refine w_nil ?_
       refine q_then (hN22 _ _ (Nx.intro (l.grades.length - (i + 1)) (by omega) (by repeat (first | exact agree_mix | refine agree_upd rfl ?_ | refine agree_updL rfl ?_ _ | refine agree_mixin rfl ?_)) ?_))
       first
         | contradiction
         | exact ⟨i + 1, _, _, rfl, by omega, rfl, hinv.trans (firstE_step hi2 (by rw [gradeE_yes (by assumption)]; assumption)), by rw [← names_snocG hi2]; exact ho45, hs46.tail⟩
    ·
     try simp only [Bool.not_eq_true', Bool.not_eq_false', decide_eq_true_eq, decide_eq_false_iff_not, Int.not_lt, Int.not_le] at h29
     refine w_exit ?_
     refine q_then_exit ?_
     refine q_then_exit ?_
     refine q_blk_this ?_
     refine q_then (hK18 _ _ ?_)
     refine w_seq (fun K66 hK65 => ?_)
     refine w_seq (fun K68 hK67 => ?_)
     have hge : firstE gradeE [] 0 l.grades = (0, 0) := hinv.trans (firstE_end (by omega) _)
     clear hinv hown
     refine w_region ?_
     refine w_pure want_none (y_fieldAddr (o := 1) (i := 1) Try.underlying26 rfl Try.sizeOf23 rfl rfl rfl) rfl ?_
     refine w_pure want_none (y_load1 Try.isAgg23 hs rfl rfl (ats_own (i := 0) (vs := [_]) rfl rfl)) rfl ?_
     refine w_pure want_none (y_lenS Try.underlying23 rfl rfl) rfl ?_
     refine w_pure want_none (y_gtr rfl rfl rfl rfl) rfl ?_
     refine w_nil ?_
     refine q_then (hK67 _ _ ?_)
     refine w_cond rfl rfl (fun h69 => ?_) (fun h69 => ?_)
     ·
      try simp only [Bool.not_eq_true', Bool.not_eq_false', decide_eq_true_eq, decide_eq_false_iff_not, Int.not_lt, Int.not_le] at h69
      refine w_seq (fun K71 hK70 => ?_)
      refine w_region ?_
      refine w_pure want_none (y_assign (v := _) rfl rfl) rfl ?_
      refine w_pure want_none (y_assign (v := _) rfl rfl) rfl ?_
      refine w_pure want_none (y_assign (v := _) rfl rfl) rfl ?_
      refine w_nil ?_
      refine q_then (hK70 _ _ ?_)
      refine w_ret ?_
      refine q_then_ret ?_
      refine q_ret (l := [.tmp 2, .tmp 3, .tmp 4]) (vs := [_, _, _]) rfl ⟨⟨rfl, show _ = (.int _ _ : Value) from rfl⟩, ⟨rfl, show _ = (.int _ _ : Value) from rfl⟩, ⟨rfl, show _ = (.int _ _ : Value) from rfl⟩, trivial⟩ ?_
      first
        | contradiction
        | exact ⟨tup3 (chk_g0 (by assumption)), hs.tail.drop⟩
        | (refine ⟨tup3 (chk_g (by assumption) (hinv.trans ((firstE_stop hi2 ?_).trans ?_)) ?_), hs.tail.drop⟩
           · rw [gradeE_no (by assumption)]; assumption
           · rw [gradeE_no (by assumption)]
           · assumption)
        | (refine ⟨tup3 (chk_g (by assumption) (hinv.trans ((firstE_stop hi2 ?_).trans ?_)) ?_), hs.tail.drop⟩
           · rw [gradeE_yes (by assumption)]; assumption
           · rw [gradeE_yes (by assumption)]
           · assumption)
        | exact ⟨tup3 (chk_b0 (by assumption) hge (by assumption)), hs.tail.drop⟩
        | exact ⟨tup3 (chk_b (by assumption) hge (by assumption) (hinv.trans (firstE_stop hi2 (by assumption))) (by assumption)), hs.tail.drop⟩
        | exact ⟨tup3 (chk_c0 (by assumption) hge (by assumption) hbe (by assumption)), hs.tail.drop⟩
        | (have hce := count_1 (bf := l.counts.take i) (by assumption : ¬ (1 ≤ l.counts[i].bits ∧ l.counts[i].bits ≤ allN l.bunches.length))
           exact ⟨tup3 (chk_c (x := ((i : Int), 4)) (by assumption) hge (by assumption) hbe (by assumption) (hinv.trans ((firstE_stop hi2 (by rw [hce]; decide)).trans (by rw [hce]))) (by show ¬ (4 : Int) = 0; decide)), hs.tail.drop⟩)
        | (have hce := count_2 (bf := l.counts.take i) (by assumption : 1 ≤ l.counts[i].bits ∧ l.counts[i].bits ≤ allN l.bunches.length) (by assumption)
           exact ⟨tup3 (chk_c (x := ((i : Int), 7)) (by assumption) hge (by assumption) hbe (by assumption) (hinv.trans ((firstE_stop hi2 (by rw [hce]; decide)).trans (by rw [hce]))) (by show ¬ (7 : Int) = 0; decide)), hs.tail.drop⟩)
        | exact ⟨tup3 (chk_ok (by assumption) hge (by assumption) hbe (by assumption) (hinv.trans (firstE_end (by omega) _))), hs.tail.drop⟩
     ·
      try simp only [Bool.not_eq_true', Bool.not_eq_false', decide_eq_true_eq, decide_eq_false_iff_not, Int.not_lt, Int.not_le] at h69
      refine w_skip ?_
      refine q_then (hK65 _ _ ?_)
      refine w_seq (fun K73 hK72 => ?_)
      refine w_seq (fun K75 hK74 => ?_)
      refine w_region ?_
      refine w_pure want_none (y_assign (v := _) rfl rfl) rfl ?_
      refine w_nil ?_
      refine q_then (hK74 _ _ ?_)
      refine w_block ?_
      refine w_loop [2, 3, 4, 8, 9, 53, 54, 55, 56, 57, 58, 59, 60, 61, 62, 63, 64, 65, 66, 67, 68, 69] [8] (fun k vs w => ∃ (i : Nat), vs = [.int .i64 i] ∧ i ≤ l.bunches.length ∧ k = l.bunches.length - i ∧ firstE bunchE [] 0 l.bunches = firstE bunchE (l.bunches.take i) i (l.bunches.drop i) ∧ St w0 w ((b3, blk 26 (l.cells ⟨ag, cg, ab, cb, ac, cc⟩)) :: F)) (l.bunches.length) ?_ ?_
      ·
       exact ⟨0, rfl, by omega, by omega, rfl, (kp_opq hs)⟩
      ·
       intro k vs μ w78 hI K77 hN76
       clear hia
       obtain ⟨i, rfl, hia, rfl, hinv, hs⟩ := hI
       refine w_seq (fun K80 hK79 => ?_)
       refine w_seq (fun K82 hK81 => ?_)
       refine w_region ?_
       refine w_pure want_none (y_move (v := .int _ _) rfl rfl) rfl ?_
       refine w_pure want_none (y_fieldAddr (o := 1) (i := 1) Try.underlying26 rfl Try.sizeOf23 rfl rfl rfl) rfl ?_
       refine w_pure want_none (y_load1 Try.isAgg23 hs rfl rfl (ats_own (i := 0) (vs := [_]) rfl rfl)) rfl ?_
       refine w_pure want_none (y_lenS Try.underlying23 rfl rfl) rfl ?_
       refine w_pure want_none (y_lss rfl rfl rfl rfl) rfl ?_
       refine w_nil ?_
       refine q_then (hK81 _ _ ?_)
       refine w_cond rfl rfl (fun h83 => ?_) (fun h83 => ?_)
       ·
        try simp only [Bool.not_eq_true', Bool.not_eq_false', decide_eq_true_eq, decide_eq_false_iff_not, Int.not_lt, Int.not_le] at h83
        refine w_skip ?_
        refine q_then (hK79 _ _ ?_)
        refine w_seq (fun K85 hK84 => ?_)
        refine w_block ?_
        refine w_seq (fun K87 hK86 => ?_)
        have hi2 : i < l.bunches.length := by omega
        obtain ⟨bx, ox, rfl, hx⟩ := sl_brows hm.b hi2
        refine w_region ?_
        refine w_pure want_none (y_fieldAddr (o := 1) (i := 1) Try.underlying26 rfl Try.sizeOf23 rfl rfl rfl) rfl ?_
        refine w_pure want_none (y_load1 Try.isAgg23 hs rfl rfl (ats_own (i := 0) (vs := [_]) rfl rfl)) rfl ?_
        refine w_pure want_none (y_move (v := .int _ _) rfl rfl) rfl ?_
        refine w_pure want_none (y_indexS Try.underlying23 Try.sizeOf81 rfl rfl rfl rfl (i := _) rfl (by omega)) rfl ?_
        refine w_pure want_none (y_loadN (vs := [_, _, _, _]) Try.isAgg81 Try.sizeOf81 hs.tail rfl rfl hx) rfl ?_
        refine w_call want_none Try.call67 rfl rfl rfl rfl (c67 l.bunches[i] (l.bunches.take i) hs) ?_
        rintro _ w89 ⟨rfl, hs90⟩
        refine w_pure want_none (y_assign (v := .int _ _) rfl rfl) rfl ?_
        refine w_nil ?_
        refine q_then (hK86 _ _ ?_)
        refine w_seq (fun K92 hK91 => ?_)
        refine w_region ?_
        refine w_pure want_none (y_move (v := .int _ _) rfl rfl) rfl ?_
        refine w_pure want_none (y_neq rfl rfl rfl rfl) rfl ?_
        refine w_nil ?_
        refine q_then (hK91 _ _ ?_)
        refine w_cond rfl rfl (fun h93 => ?_) (fun h93 => ?_)
        ·
         try simp only [Bool.not_eq_true', Bool.not_eq_false', decide_eq_true_eq, decide_eq_false_iff_not, Int.not_lt, Int.not_le] at h93
         refine w_seq (fun K95 hK94 => ?_)
         refine w_region ?_
         refine w_pure want_none (y_move (v := .int _ _) rfl rfl) rfl ?_
         refine w_pure want_none (y_move (v := .int _ _) rfl rfl) rfl ?_
         refine w_pure want_none (y_assign (v := _) rfl rfl) rfl ?_
         refine w_pure want_none (y_assign (v := .int _ _) rfl rfl) rfl ?_
         refine w_pure want_none (y_assign (v := .int _ _) rfl rfl) rfl ?_
         refine w_nil ?_
         refine q_then (hK94 _ _ ?_)
         refine w_ret ?_
         refine q_blk_ret ?_
         refine q_then_ret ?_
         refine q_then_ret ?_
         refine q_blk_ret ?_
         refine q_then_ret ?_
         refine q_ret (l := [.tmp 2, .tmp 3, .tmp 4]) (vs := [_, _, _]) rfl ⟨⟨rfl, show _ = (.int _ _ : Value) from rfl⟩, ⟨rfl, show _ = (.int _ _ : Value) from rfl⟩, ⟨rfl, show _ = (.int _ _ : Value) from rfl⟩, trivial⟩ ?_
         first
           | contradiction
           | exact ⟨tup3 (chk_g0 (by assumption)), hs90.tail⟩
           | (refine ⟨tup3 (chk_g (by assumption) (hinv.trans ((firstE_stop hi2 ?_).trans ?_)) ?_), hs90.tail⟩
              · rw [gradeE_no (by assumption)]; assumption
              · rw [gradeE_no (by assumption)]
              · assumption)
           | (refine ⟨tup3 (chk_g (by assumption) (hinv.trans ((firstE_stop hi2 ?_).trans ?_)) ?_), hs90.tail⟩
              · rw [gradeE_yes (by assumption)]; assumption
              · rw [gradeE_yes (by assumption)]
              · assumption)
           | exact ⟨tup3 (chk_b0 (by assumption) hge (by assumption)), hs90.tail⟩
           | exact ⟨tup3 (chk_b (by assumption) hge (by assumption) (hinv.trans (firstE_stop hi2 (by assumption))) (by assumption)), hs90.tail⟩
           | exact ⟨tup3 (chk_c0 (by assumption) hge (by assumption) hbe (by assumption)), hs90.tail⟩
           | (have hce := count_1 (bf := l.counts.take i) (by assumption : ¬ (1 ≤ l.counts[i].bits ∧ l.counts[i].bits ≤ allN l.bunches.length))
              exact ⟨tup3 (chk_c (x := ((i : Int), 4)) (by assumption) hge (by assumption) hbe (by assumption) (hinv.trans ((firstE_stop hi2 (by rw [hce]; decide)).trans (by rw [hce]))) (by show ¬ (4 : Int) = 0; decide)), hs90.tail⟩)
           | (have hce := count_2 (bf := l.counts.take i) (by assumption : 1 ≤ l.counts[i].bits ∧ l.counts[i].bits ≤ allN l.bunches.length) (by assumption)
              exact ⟨tup3 (chk_c (x := ((i : Int), 7)) (by assumption) hge (by assumption) hbe (by assumption) (hinv.trans ((firstE_stop hi2 (by rw [hce]; decide)).trans (by rw [hce]))) (by show ¬ (7 : Int) = 0; decide)), hs90.tail⟩)
           | exact ⟨tup3 (chk_ok (by assumption) hge (by assumption) hbe (by assumption) (hinv.trans (firstE_end (by omega) _))), hs90.tail⟩
        ·
         try simp only [Bool.not_eq_true', Bool.not_eq_false', decide_eq_true_eq, decide_eq_false_iff_not, Int.not_lt, Int.not_le] at h93
         refine w_skip ?_
         refine q_blk_normal ?_
         refine q_then (hK84 _ _ ?_)
         refine w_region ?_
         refine w_pure want_none (y_move (v := .int _ _) rfl rfl) rfl ?_
         refine w_pure want_none (y_add rfl rfl rfl rfl (by omega) (by omega)) rfl ?_
         refine w_pure want_none (y_assign (v := .int _ _) rfl rfl) rfl ?_
         refine w_nil ?_
         refine q_then (hN76 _ _ (Nx.intro (l.bunches.length - (i + 1)) (by omega) (by repeat (first | exact agree_mix | refine agree_upd rfl ?_ | refine agree_updL rfl ?_ _ | refine agree_mixin rfl ?_)) ?_))
         exact ⟨i + 1, rfl, by omega, rfl, hinv.trans (firstE_step hi2 (by assumption)), hs90⟩
       ·
        try simp only [Bool.not_eq_true', Bool.not_eq_false', decide_eq_true_eq, decide_eq_false_iff_not, Int.not_lt, Int.not_le] at h83
        refine w_exit ?_
        refine q_then_exit ?_
        refine q_then_exit ?_
        refine q_blk_this ?_
        refine q_then (hK72 _ _ ?_)
        refine w_seq (fun K97 hK96 => ?_)
        refine w_seq (fun K99 hK98 => ?_)
        have hbe : firstE bunchE [] 0 l.bunches = (0, 0) := hinv.trans (firstE_end (by omega) _)
        clear hinv
        refine w_region ?_
        refine w_pure want_none (y_fieldAddr (o := 2) (i := 2) Try.underlying26 rfl Try.sizeOf24 rfl rfl rfl) rfl ?_
        refine w_pure want_none (y_load1 Try.isAgg24 hs rfl rfl (ats_own (i := 0) (vs := [_]) rfl rfl)) rfl ?_
        refine w_pure want_none (y_lenS Try.underlying24 rfl rfl) rfl ?_
        refine w_pure want_none (y_gtr rfl rfl rfl rfl) rfl ?_
        refine w_nil ?_
        refine q_then (hK98 _ _ ?_)
        refine w_cond rfl rfl (fun h100 => ?_) (fun h100 => ?_)
        ·
         try simp only [Bool.not_eq_true', Bool.not_eq_false', decide_eq_true_eq, decide_eq_false_iff_not, Int.not_lt, Int.not_le] at h100
         refine w_seq (fun K102 hK101 => ?_)
         refine w_region ?_
         refine w_pure want_none (y_assign (v := _) rfl rfl) rfl ?_
         refine w_pure want_none (y_assign (v := _) rfl rfl) rfl ?_
         refine w_pure want_none (y_assign (v := _) rfl rfl) rfl ?_
         refine w_nil ?_
         refine q_then (hK101 _ _ ?_)
         refine w_ret ?_
         refine q_then_ret ?_
         refine q_ret (l := [.tmp 2, .tmp 3, .tmp 4]) (vs := [_, _, _]) rfl ⟨⟨rfl, show _ = (.int _ _ : Value) from rfl⟩, ⟨rfl, show _ = (.int _ _ : Value) from rfl⟩, ⟨rfl, show _ = (.int _ _ : Value) from rfl⟩, trivial⟩ ?_
         first
           | contradiction
           | exact ⟨tup3 (chk_g0 (by assumption)), hs.tail⟩
           | (refine ⟨tup3 (chk_g (by assumption) (hinv.trans ((firstE_stop hi2 ?_).trans ?_)) ?_), hs.tail⟩
              · rw [gradeE_no (by assumption)]; assumption
              · rw [gradeE_no (by assumption)]
              · assumption)
           | (refine ⟨tup3 (chk_g (by assumption) (hinv.trans ((firstE_stop hi2 ?_).trans ?_)) ?_), hs.tail⟩
              · rw [gradeE_yes (by assumption)]; assumption
              · rw [gradeE_yes (by assumption)]
              · assumption)
           | exact ⟨tup3 (chk_b0 (by assumption) hge (by assumption)), hs.tail⟩
           | exact ⟨tup3 (chk_b (by assumption) hge (by assumption) (hinv.trans (firstE_stop hi2 (by assumption))) (by assumption)), hs.tail⟩
           | exact ⟨tup3 (chk_c0 (by assumption) hge (by assumption) hbe (by assumption)), hs.tail⟩
           | (have hce := count_1 (bf := l.counts.take i) (by assumption : ¬ (1 ≤ l.counts[i].bits ∧ l.counts[i].bits ≤ allN l.bunches.length))
              exact ⟨tup3 (chk_c (x := ((i : Int), 4)) (by assumption) hge (by assumption) hbe (by assumption) (hinv.trans ((firstE_stop hi2 (by rw [hce]; decide)).trans (by rw [hce]))) (by show ¬ (4 : Int) = 0; decide)), hs.tail⟩)
           | (have hce := count_2 (bf := l.counts.take i) (by assumption : 1 ≤ l.counts[i].bits ∧ l.counts[i].bits ≤ allN l.bunches.length) (by assumption)
              exact ⟨tup3 (chk_c (x := ((i : Int), 7)) (by assumption) hge (by assumption) hbe (by assumption) (hinv.trans ((firstE_stop hi2 (by rw [hce]; decide)).trans (by rw [hce]))) (by show ¬ (7 : Int) = 0; decide)), hs.tail⟩)
           | exact ⟨tup3 (chk_ok (by assumption) hge (by assumption) hbe (by assumption) (hinv.trans (firstE_end (by omega) _))), hs.tail⟩
        ·
         try simp only [Bool.not_eq_true', Bool.not_eq_false', decide_eq_true_eq, decide_eq_false_iff_not, Int.not_lt, Int.not_le] at h100
         refine w_skip ?_
         refine q_then (hK96 _ _ ?_)
         refine w_seq (fun K104 hK103 => ?_)
         refine w_seq (fun K106 hK105 => ?_)
         refine w_region ?_
         refine w_pure want_none (y_assign (v := _) rfl rfl) rfl ?_
         refine w_nil ?_
         refine q_then (hK105 _ _ ?_)
         refine w_block ?_
         refine w_loop [2, 3, 4, 10, 74, 75, 76, 77, 78, 79, 80, 81, 82, 83, 84, 85, 86, 87, 88, 89, 90, 91, 92, 93, 94, 95, 96, 97, 98, 99, 100, 101, 102] [10] (fun k vs w => ∃ (i : Nat), vs = [.int .i64 i] ∧ i ≤ l.counts.length ∧ k = l.counts.length - i ∧ firstE (countE l.bunches.length) [] 0 l.counts = firstE (countE l.bunches.length) (l.counts.take i) i (l.counts.drop i) ∧ St w0 w ((b3, blk 26 (l.cells ⟨ag, cg, ab, cb, ac, cc⟩)) :: F)) (l.counts.length) ?_ ?_
         ·
          exact ⟨0, rfl, by omega, by omega, rfl, hs⟩
         ·
          intro k vs μ w109 hI K108 hN107
          clear hia
          obtain ⟨i, rfl, hia, rfl, hinv, hs⟩ := hI
          refine w_seq (fun K111 hK110 => ?_)
          refine w_seq (fun K113 hK112 => ?_)
          refine w_region ?_
          refine w_pure want_none (y_move (v := .int _ _) rfl rfl) rfl ?_
          refine w_pure want_none (y_fieldAddr (o := 2) (i := 2) Try.underlying26 rfl Try.sizeOf24 rfl rfl rfl) rfl ?_
          refine w_pure want_none (y_load1 Try.isAgg24 hs rfl rfl (ats_own (i := 0) (vs := [_]) rfl rfl)) rfl ?_
          refine w_pure want_none (y_lenS Try.underlying24 rfl rfl) rfl ?_
          refine w_pure want_none (y_lss rfl rfl rfl rfl) rfl ?_
          refine w_nil ?_
          refine q_then (hK112 _ _ ?_)
          refine w_cond rfl rfl (fun h114 => ?_) (fun h114 => ?_)
          ·
           try simp only [Bool.not_eq_true', Bool.not_eq_false', decide_eq_true_eq, decide_eq_false_iff_not, Int.not_lt, Int.not_le] at h114
           refine w_skip ?_
           refine q_then (hK110 _ _ ?_)
           refine w_seq (fun K116 hK115 => ?_)
           refine w_block ?_
           refine w_seq (fun K118 hK117 => ?_)
           refine w_seq (fun K120 hK119 => ?_)
           have hi2 : i < l.counts.length := by omega
           obtain ⟨bx, ox, rfl, hx⟩ := sl_crows hm.c hi2
           refine w_draw [] [(0, 0), (1, 1), (2, 0), (3, 0), (4, 0), (5, 1), (6, 0), (7, 1), (8, 0), (9, 2), (10, 2), (11, 0)] Try_mo (by kernel_rfl) hs (fun w121 hs122 => ?_)
           refine d_any rfl want_none rfl (fun _ => (y_fieldAddr (o := 2) (i := 2) Try.underlying26 rfl Try.sizeOf24 rfl rfl rfl)) ?_
           refine d_take rfl want_none rfl hs122 (fun _ hq => (y_load1 Try.isAgg24 hq rfl rfl (ats_own (i := 0) (vs := [_]) rfl rfl))) ?_
           refine d_any rfl want_none rfl (fun _ => (y_move (v := .int _ _) rfl rfl)) ?_
           refine d_any rfl want_none rfl (fun _ => (y_indexS Try.underlying24 Try.sizeOf51 rfl rfl rfl rfl (i := _) rfl (by omega))) ?_
           refine d_any rfl want_none rfl (fun _ => (y_fieldAddr (o := 0) (i := 0) Try.underlying51 rfl Try.sizeOf3 rfl rfl rfl)) ?_
           refine d_take rfl want_none rfl hs122 (fun _ hq => (y_load1 Try.isAgg3 hq.tail rfl rfl (show Ats _ _ _ _ [_] from Ats.part hx 0 1))) ?_
           refine d_any rfl want_none rfl (fun _ => (y_fieldAddr (o := 1) (i := 1) Try.underlying26 rfl Try.sizeOf23 rfl rfl rfl)) ?_
           refine d_take rfl want_none rfl hs122 (fun _ hq => (y_load1 Try.isAgg23 hq rfl rfl (ats_own (i := 0) (vs := [_]) rfl rfl))) ?_
           refine d_any rfl want_none rfl (fun _ => (y_lenS Try.underlying23 rfl rfl)) ?_
           refine d_eff rfl ?_
           refine w_call want_none Try.call68 rfl rfl rfl rfl (c68 _ (by omega) hs122) ?_
           rintro _ w124 ⟨rfl, hs125⟩
           refine w_nil ?_
           refine qn ⟨hs125, ?_⟩
           refine d_eff rfl ?_
           refine w_call want_none Try.call51 rfl rfl rfl rfl (c51 _ _ _ hs125) ?_
           rintro _ w127 ⟨rfl, hs128⟩
           refine w_nil ?_
           refine qn ⟨hs128, ?_⟩
           refine d_any rfl want_none rfl (fun _ => (y_not rfl rfl)) ?_
           refine d_nil ?_
           refine q_then (hK119 _ _ ?_)
           refine w_cond rfl rfl (fun h129 => ?_) (fun h129 => ?_)
           ·
            try simp only [Bool.not_eq_true', Bool.not_eq_false', decide_eq_true_eq, decide_eq_false_iff_not, Int.not_lt, Int.not_le] at h129
            refine w_seq (fun K131 hK130 => ?_)
            refine w_region ?_
            refine w_pure want_none (y_move (v := .int _ _) rfl rfl) rfl ?_
            refine w_pure want_none (y_assign (v := _) rfl rfl) rfl ?_
            refine w_pure want_none (y_assign (v := .int _ _) rfl rfl) rfl ?_
            refine w_pure want_none (y_assign (v := _) rfl rfl) rfl ?_
            refine w_nil ?_
            refine q_then (hK130 _ _ ?_)
            refine w_ret ?_
            refine q_then_ret ?_
            refine q_blk_ret ?_
            refine q_then_ret ?_
            refine q_then_ret ?_
            refine q_blk_ret ?_
            refine q_then_ret ?_
            refine q_ret (l := [.tmp 2, .tmp 3, .tmp 4]) (vs := [_, _, _]) rfl ⟨⟨rfl, show _ = (.int _ _ : Value) from rfl⟩, ⟨rfl, show _ = (.int _ _ : Value) from rfl⟩, ⟨rfl, show _ = (.int _ _ : Value) from rfl⟩, trivial⟩ ?_
            first
              | contradiction
              | exact ⟨tup3 (chk_g0 (by assumption)), hs128.tail⟩
              | (refine ⟨tup3 (chk_g (by assumption) (hinv.trans ((firstE_stop hi2 ?_).trans ?_)) ?_), hs128.tail⟩
                 · rw [gradeE_no (by assumption)]; assumption
                 · rw [gradeE_no (by assumption)]
                 · assumption)
              | (refine ⟨tup3 (chk_g (by assumption) (hinv.trans ((firstE_stop hi2 ?_).trans ?_)) ?_), hs128.tail⟩
                 · rw [gradeE_yes (by assumption)]; assumption
                 · rw [gradeE_yes (by assumption)]
                 · assumption)
              | exact ⟨tup3 (chk_b0 (by assumption) hge (by assumption)), hs128.tail⟩
              | exact ⟨tup3 (chk_b (by assumption) hge (by assumption) (hinv.trans (firstE_stop hi2 (by assumption))) (by assumption)), hs128.tail⟩
              | exact ⟨tup3 (chk_c0 (by assumption) hge (by assumption) hbe (by assumption)), hs128.tail⟩
              | (have hce := count_1 (bf := l.counts.take i) (by assumption : ¬ (1 ≤ l.counts[i].bits ∧ l.counts[i].bits ≤ allN l.bunches.length))
                 exact ⟨tup3 (chk_c (x := ((i : Int), 4)) (by assumption) hge (by assumption) hbe (by assumption) (hinv.trans ((firstE_stop hi2 (by rw [hce]; decide)).trans (by rw [hce]))) (by show ¬ (4 : Int) = 0; decide)), hs128.tail⟩)
              | (have hce := count_2 (bf := l.counts.take i) (by assumption : 1 ≤ l.counts[i].bits ∧ l.counts[i].bits ≤ allN l.bunches.length) (by assumption)
                 exact ⟨tup3 (chk_c (x := ((i : Int), 7)) (by assumption) hge (by assumption) hbe (by assumption) (hinv.trans ((firstE_stop hi2 (by rw [hce]; decide)).trans (by rw [hce]))) (by show ¬ (7 : Int) = 0; decide)), hs128.tail⟩)
              | exact ⟨tup3 (chk_ok (by assumption) hge (by assumption) hbe (by assumption) (hinv.trans (firstE_end (by omega) _))), hs128.tail⟩
           ·
            try simp only [Bool.not_eq_true', Bool.not_eq_false', decide_eq_true_eq, decide_eq_false_iff_not, Int.not_lt, Int.not_le] at h129
            refine w_skip ?_
            refine q_then (hK117 _ _ ?_)
            refine w_seq (fun K133 hK132 => ?_)
            refine w_region ?_
            refine w_pure want_none (y_fieldAddr (o := 2) (i := 2) Try.underlying26 rfl Try.sizeOf24 rfl rfl rfl) rfl ?_
            refine w_pure want_none (y_load1 Try.isAgg24 hs128 rfl rfl (ats_own (i := 0) (vs := [_]) rfl rfl)) rfl ?_
            refine w_pure want_none (y_move (v := .int _ _) rfl rfl) rfl ?_
            refine w_pure want_none (y_indexS Try.underlying24 Try.sizeOf51 rfl rfl rfl rfl (i := _) rfl (by omega)) rfl ?_
            refine w_pure want_none (y_fieldAddr (o := 1) (i := 1) Try.underlying51 rfl Try.sizeOf3 rfl rfl rfl) rfl ?_
            refine w_pure want_none (y_load1 Try.isAgg3 hs128.tail rfl rfl (show Ats _ _ _ _ [_] from Ats.part hx 1 1)) rfl ?_
            refine w_call want_none Try.call51 rfl rfl rfl rfl (c51 _ _ _ hs128) ?_
            rintro _ w135 ⟨rfl, hs136⟩
            refine w_pure want_none (y_not rfl rfl) rfl ?_
            refine w_nil ?_
            refine q_then (hK132 _ _ ?_)
            refine w_cond rfl rfl (fun h137 => ?_) (fun h137 => ?_)
            ·
             try simp only [Bool.not_eq_true', Bool.not_eq_false', decide_eq_true_eq, decide_eq_false_iff_not, Int.not_lt, Int.not_le] at h137
             refine w_seq (fun K139 hK138 => ?_)
             refine w_region ?_
             refine w_pure want_none (y_move (v := .int _ _) rfl rfl) rfl ?_
             refine w_pure want_none (y_assign (v := _) rfl rfl) rfl ?_
             refine w_pure want_none (y_assign (v := .int _ _) rfl rfl) rfl ?_
             refine w_pure want_none (y_assign (v := _) rfl rfl) rfl ?_
             refine w_nil ?_
             refine q_then (hK138 _ _ ?_)
             refine w_ret ?_
             refine q_blk_ret ?_
             refine q_then_ret ?_
             refine q_then_ret ?_
             refine q_blk_ret ?_
             refine q_then_ret ?_
             refine q_ret (l := [.tmp 2, .tmp 3, .tmp 4]) (vs := [_, _, _]) rfl ⟨⟨rfl, show _ = (.int _ _ : Value) from rfl⟩, ⟨rfl, show _ = (.int _ _ : Value) from rfl⟩, ⟨rfl, show _ = (.int _ _ : Value) from rfl⟩, trivial⟩ ?_
             first
               | contradiction
               | exact ⟨tup3 (chk_g0 (by assumption)), hs136.tail⟩
               | (refine ⟨tup3 (chk_g (by assumption) (hinv.trans ((firstE_stop hi2 ?_).trans ?_)) ?_), hs136.tail⟩
                  · rw [gradeE_no (by assumption)]; assumption
                  · rw [gradeE_no (by assumption)]
                  · assumption)
               | (refine ⟨tup3 (chk_g (by assumption) (hinv.trans ((firstE_stop hi2 ?_).trans ?_)) ?_), hs136.tail⟩
                  · rw [gradeE_yes (by assumption)]; assumption
                  · rw [gradeE_yes (by assumption)]
                  · assumption)
               | exact ⟨tup3 (chk_b0 (by assumption) hge (by assumption)), hs136.tail⟩
               | exact ⟨tup3 (chk_b (by assumption) hge (by assumption) (hinv.trans (firstE_stop hi2 (by assumption))) (by assumption)), hs136.tail⟩
               | exact ⟨tup3 (chk_c0 (by assumption) hge (by assumption) hbe (by assumption)), hs136.tail⟩
               | (have hce := count_1 (bf := l.counts.take i) (by assumption : ¬ (1 ≤ l.counts[i].bits ∧ l.counts[i].bits ≤ allN l.bunches.length))
                  exact ⟨tup3 (chk_c (x := ((i : Int), 4)) (by assumption) hge (by assumption) hbe (by assumption) (hinv.trans ((firstE_stop hi2 (by rw [hce]; decide)).trans (by rw [hce]))) (by show ¬ (4 : Int) = 0; decide)), hs136.tail⟩)
               | (have hce := count_2 (bf := l.counts.take i) (by assumption : 1 ≤ l.counts[i].bits ∧ l.counts[i].bits ≤ allN l.bunches.length) (by assumption)
                  exact ⟨tup3 (chk_c (x := ((i : Int), 7)) (by assumption) hge (by assumption) hbe (by assumption) (hinv.trans ((firstE_stop hi2 (by rw [hce]; decide)).trans (by rw [hce]))) (by show ¬ (7 : Int) = 0; decide)), hs136.tail⟩)
               | exact ⟨tup3 (chk_ok (by assumption) hge (by assumption) hbe (by assumption) (hinv.trans (firstE_end (by omega) _))), hs136.tail⟩
            ·
             try simp only [Bool.not_eq_true', Bool.not_eq_false', decide_eq_true_eq, decide_eq_false_iff_not, Int.not_lt, Int.not_le] at h137
             refine w_skip ?_
             refine q_blk_normal ?_
             refine q_then (hK115 _ _ ?_)
             refine w_region ?_
             refine w_pure want_none (y_move (v := .int _ _) rfl rfl) rfl ?_
             refine w_pure want_none (y_add rfl rfl rfl rfl (by omega) (by omega)) rfl ?_
             refine w_pure want_none (y_assign (v := .int _ _) rfl rfl) rfl ?_
             refine w_nil ?_
             refine q_then (hN107 _ _ (Nx.intro (l.counts.length - (i + 1)) (by omega) (by repeat (first | exact agree_mix | refine agree_upd rfl ?_ | refine agree_updL rfl ?_ _ | refine agree_mixin rfl ?_)) ?_))
             exact ⟨i + 1, rfl, by omega, rfl, hinv.trans (firstE_step hi2 (count_3 (by assumption) (by assumption))), hs136⟩
          ·
           try simp only [Bool.not_eq_true', Bool.not_eq_false', decide_eq_true_eq, decide_eq_false_iff_not, Int.not_lt, Int.not_le] at h114
           refine w_exit ?_
           refine q_then_exit ?_
           refine q_then_exit ?_
           refine q_blk_this ?_
           refine q_then (hK103 _ _ ?_)
           refine w_seq (fun K141 hK140 => ?_)
           refine w_region ?_
           refine w_pure want_none (y_assign (v := _) rfl rfl) rfl ?_
           refine w_pure want_none (y_assign (v := _) rfl rfl) rfl ?_
           refine w_pure want_none (y_assign (v := _) rfl rfl) rfl ?_
           refine w_nil ?_
           refine q_then (hK140 _ _ ?_)
           refine w_ret ?_
           refine q_ret (l := [.tmp 2, .tmp 3, .tmp 4]) (vs := [_, _, _]) rfl ⟨⟨rfl, show _ = (.int _ _ : Value) from rfl⟩, ⟨rfl, show _ = (.int _ _ : Value) from rfl⟩, ⟨rfl, show _ = (.int _ _ : Value) from rfl⟩, trivial⟩ ?_
           first
             | contradiction
             | exact ⟨tup3 (chk_g0 (by assumption)), hs.tail⟩
             | (refine ⟨tup3 (chk_g (by assumption) (hinv.trans ((firstE_stop hi2 ?_).trans ?_)) ?_), hs.tail⟩
                · rw [gradeE_no (by assumption)]; assumption
                · rw [gradeE_no (by assumption)]
                · assumption)
             | (refine ⟨tup3 (chk_g (by assumption) (hinv.trans ((firstE_stop hi2 ?_).trans ?_)) ?_), hs.tail⟩
                · rw [gradeE_yes (by assumption)]; assumption
                · rw [gradeE_yes (by assumption)]
                · assumption)
             | exact ⟨tup3 (chk_b0 (by assumption) hge (by assumption)), hs.tail⟩
             | exact ⟨tup3 (chk_b (by assumption) hge (by assumption) (hinv.trans (firstE_stop hi2 (by assumption))) (by assumption)), hs.tail⟩
             | exact ⟨tup3 (chk_c0 (by assumption) hge (by assumption) hbe (by assumption)), hs.tail⟩
             | (have hce := count_1 (bf := l.counts.take i) (by assumption : ¬ (1 ≤ l.counts[i].bits ∧ l.counts[i].bits ≤ allN l.bunches.length))
                exact ⟨tup3 (chk_c (x := ((i : Int), 4)) (by assumption) hge (by assumption) hbe (by assumption) (hinv.trans ((firstE_stop hi2 (by rw [hce]; decide)).trans (by rw [hce]))) (by show ¬ (4 : Int) = 0; decide)), hs.tail⟩)
             | (have hce := count_2 (bf := l.counts.take i) (by assumption : 1 ≤ l.counts[i].bits ∧ l.counts[i].bits ≤ allN l.bunches.length) (by assumption)
                exact ⟨tup3 (chk_c (x := ((i : Int), 7)) (by assumption) hge (by assumption) hbe (by assumption) (hinv.trans ((firstE_stop hi2 (by rw [hce]; decide)).trans (by rw [hce]))) (by show ¬ (7 : Int) = 0; decide)), hs.tail⟩)
             | exact ⟨tup3 (chk_ok (by assumption) hge (by assumption) hbe (by assumption) (hinv.trans (firstE_end (by omega) _))), hs.tail⟩

end Go.Proofs
/- Plain words of the hand layer: what the document's functions do, step by step. No conditions. -/
set_option linter.unusedSimpArgs false
set_option linter.unusedVariables false
namespace Go.Rt.Ha
theorem gradesL_snoc (gs : List Grade) (h s : Int) (l : List Int) : gradesL gs h (l ++ [s]) = gStep gs h (gradesL gs h l) s := by unfold gradesL; rw [List.foldl_append]; rfl
theorem gradesL_yes {gs : List Grade} {h lo : Int} {q : Nat} (hh : hasI (gradesL gs h (upto lo q)) (ofG gs 0 h (lo + q)) = true) : gradesL gs h (upto lo (q + 1)) = gradesL gs h (upto lo q) := by
  rw [upto_snoc, gradesL_snoc]; unfold gStep; rw [if_pos hh]
theorem gradesL_no {gs : List Grade} {h lo : Int} {q : Nat} (hh : hasI (gradesL gs h (upto lo q)) (ofG gs 0 h (lo + q)) = false) : gradesL gs h (upto lo (q + 1)) = gradesL gs h (upto lo q) ++ [ofG gs 0 h (lo + q)] := by
  rw [upto_snoc, gradesL_snoc]; unfold gStep; rw [if_neg (by simp [hh])]
theorem gradesL_len (gs : List Grade) (h lo : Int) : ∀ q, (gradesL gs h (upto lo q)).length ≤ q
  | 0 => by simp [gradesL, upto]
  | q + 1 => by
    have ih := gradesL_len gs h lo q
    rw [upto_snoc, gradesL_snoc]; unfold gStep
    split
    · omega
    · simp; omega
theorem of_step {gs : List Grade} {h s : Int} {i : Nat} (hi : i < gs.length) (hn : ¬ (gs[i].hands ≤ h ∧ s ≤ gs[i].scars)) : ofG (gs.drop i) i h s = ofG (gs.drop (i + 1)) (i + 1 : Nat) h s := by
  rw [List.drop_eq_getElem_cons hi]; simp only [ofG]; rw [if_neg hn]; rfl
theorem of_here {gs : List Grade} {h s : Int} {i : Nat} (hi : i < gs.length) (hn : gs[i].hands ≤ h ∧ s ≤ gs[i].scars) : ofG (gs.drop i) i h s = i := by
  rw [List.drop_eq_getElem_cons hi]; simp only [ofG]; rw [if_pos hn]
theorem of_end {gs : List Grade} {h s : Int} {i : Nat} (hi : gs.length ≤ i) : ofG (gs.drop i) i h s = -1 := by rw [List.drop_of_length_le hi]; rfl
theorem bit_dec (b n : Nat) : decide ((((b >>> n : Nat) : Int)) % 2 = 1) = decide (bit b n = 1) := by
  unfold bit
  rw [Nat.and_one_is_mod, Bool.eq_iff_iff]
  simp only [decide_eq_true_eq]; omega
theorem counted_yes {bits : Nat} {h : List Int} {i : Nat} (hi : i < h.length) (hb : bit bits i = 1) : counted bits 0 (h.take (i + 1)) = counted bits 0 (h.take i) + h[i] := by rw [counted_take hi, hb]; simp
theorem counted_no {bits : Nat} {h : List Int} {i : Nat} (hi : i < h.length) (hb : ¬ bit bits i = 1) : counted bits 0 (h.take (i + 1)) = counted bits 0 (h.take i) := by
  have := bit01 bits i
  rw [counted_take hi, show bit bits i = 0 by omega]; simp
theorem soR_snoc (but h : List Int) (c : Count) : ∀ (cs : List Count) (i : Nat), soR but h i (cs ++ [c]) = (soR but h i cs && (hasI but ((i + cs.length : Nat) : Int) || decide (counted c.bits.toNat 0 h = c.hands)))
  | [], i => by simp [soR]
  | x :: cs, i => by
    simp only [List.cons_append, soR, soR_snoc but h c cs (i + 1), List.length_cons, Bool.and_assoc]
    rw [show i + 1 + cs.length = i + (cs.length + 1) by omega]
theorem soR_take {but h : List Int} {cs : List Count} {k : Nat} (hk : k < cs.length) : soR but h 0 (cs.take (k + 1)) = (soR but h 0 (cs.take k) && (hasI but (k : Int) || decide (counted cs[k].bits.toNat 0 h = cs[k].hands))) := by
  rw [List.take_succ_eq_append_getElem hk, soR_snoc, Nat.zero_add, List.length_take, Nat.min_eq_left (by omega)]
theorem filt_yes {ws : List (List Int)} {p : List Int → Bool} {i : Nat} (hi : i < ws.length) (h : p ws[i] = true) : (ws.take (i + 1)).filter p = (ws.take i).filter p ++ [ws[i]] := by
  rw [List.take_succ_eq_append_getElem hi, List.filter_append]; simp [h]
theorem filt_no {ws : List (List Int)} {p : List Int → Bool} {i : Nat} (hi : i < ws.length) (h : p ws[i] = false) : (ws.take (i + 1)).filter p = (ws.take i).filter p := by
  rw [List.take_succ_eq_append_getElem hi, List.filter_append]; simp [h]
theorem listL_zero : ∀ n, listL 0 n = []
  | 0 => rfl
  | n + 1 => by rw [listL, listL_zero n]; simp [bit]
theorem waysR_nil (l : Lot) : waysR l [] = ways l 0 := by rw [← ways_same l 0, listL_zero]
/-! ### All numbers, step by step -/
def feltTo (l : Lot) (i : Nat) : List (List Int) := felt (l.bunches.take i)
def fNext (b : Bunch) (h : List Int) : List (List Int) := (spanL b.lo b.hi).map fun n => h ++ [n]
def fTo (b : Bunch) (ws : List (List Int)) (k : Nat) : List (List Int) := (ws.take k).flatMap (fNext b)
theorem felt_zero (l : Lot) : feltTo l 0 = [[]] := rfl
theorem felt_step {l : Lot} {i : Nat} (hi : i < l.bunches.length) : fTo l.bunches[i] (feltTo l i) (feltTo l i).length = feltTo l (i + 1) := by
  unfold fTo feltTo
  rw [List.take_length, List.take_succ_eq_append_getElem hi, felt_snoc]; rfl
theorem fTo_succ {b : Bunch} {ws : List (List Int)} {k : Nat} (hk : k < ws.length) : fTo b ws (k + 1) = fTo b ws k ++ fNext b ws[k] := by
  unfold fTo; rw [List.take_succ_eq_append_getElem hk, List.flatMap_append]; simp
def fPart (b : Bunch) (h : List Int) (q : Nat) : List (List Int) := (upto b.lo q).map fun n => h ++ [n]
theorem fPart_succ (b : Bunch) (h : List Int) (q : Nat) : fPart b h (q + 1) = fPart b h q ++ [h ++ [b.lo + q]] := by unfold fPart; rw [upto_snoc, List.map_append]; rfl
theorem fPart_all {b : Bunch} {h : List Int} {q : Nat} (hq : q = (b.hi + 1 - b.lo).toNat) : fPart b h q = fNext b h := by subst hq; rfl
theorem upto_len : ∀ (n : Nat) (lo : Int), (upto lo n).length = n
  | 0, _ => rfl
  | n + 1, lo => by simp [upto, upto_len n]
theorem fPart_len (b : Bunch) (h : List Int) (q : Nat) : (fPart b h q).length = q := by simp [fPart, upto_len]
theorem fTo_len {b : Bunch} {ws : List (List Int)} (hb : b.hi + 1 - b.lo ≤ 4) (k : Nat) : (fTo b ws k).length ≤ 4 * ws.length := by
  have h1 : (fTo b ws k).length ≤ (ws.take k).length * 4 := flat_le _ fun x _ => by unfold fNext spanL; rw [List.length_map, upto_len]; omega
  have h2 : (ws.take k).length ≤ ws.length := by rw [List.length_take]; omega
  have h3 : (ws.take k).length * 4 ≤ ws.length * 4 := Nat.mul_le_mul_right 4 h2
  omega
theorem feltTo_len {l : Lot} (hok : l.Ok) {i : Nat} (hi : i ≤ l.bunches.length) : (feltTo l i).length ≤ 4096 := by
  have h1 := felt_len (bs := l.bunches.take i) (fun b hb => by have := hok.bunch b (List.mem_of_mem_take hb); omega)
  have h2 : (l.bunches.take i).length ≤ 6 := by have := hok.lb; rw [List.length_take]; omega
  have h3 : 4 ^ (l.bunches.take i).length ≤ 4 ^ 6 := Nat.pow_le_pow_right (by omega) h2
  have h4 := ways_max
  unfold feltTo; omega
theorem feltTo_in {l : Lot} {i : Nat} (hi : i ≤ l.bunches.length) {h : List Int} (hh : h ∈ feltTo l i) : h.length = i := by
  have := ((felt_in _ _).1 hh).1
  rw [List.length_take, Nat.min_eq_left hi] at this; exact this
theorem feltTo_all (l : Lot) : feltTo l l.bunches.length = felt l.bunches := by unfold feltTo; rw [List.take_length]
/-! ### Errors -/
def kE (l : Lot) (e : Int) : Int := if e ≠ 0 then e else if ways l 0 = [] then 8 else 0
def idxC (l : Lot) (n : Int) (b : Nat) : Int := if (check l).2.2 = 0 then idxE n b else (check l).2.2
theorem kE_zero {l : Lot} {e : Int} (h : kE l e = 0) : e = 0 ∧ ways l 0 ≠ [] := by
  unfold kE at h
  split at h
  · rename_i h1; exact absurd h h1
  · rename_i h1
    split at h
    · cases h
    · rename_i h2; exact ⟨by omega, h2⟩
theorem kE_enter (l : Lot) (e : Int) : kE l (if (check l).2.2 = 0 then e else (check l).2.2) = enterE l e := by
  unfold kE enterE
  by_cases h : (check l).2.2 = 0
  · rw [if_pos h, if_neg (show ¬ (check l).2.2 ≠ 0 by simp [h])]
  · rw [if_neg h, if_pos h, if_pos h]
theorem idxC_ok {l : Lot} {n : Int} {b : Nat} (h : idxC l n b = 0) : (check l).2.2 = 0 := by
  unfold idxC at h
  split at h
  · assumption
  · exact h
theorem kE_1 {l : Lot} {e : Int} (h : e ≠ 0) : kE l e = e := by unfold kE; rw [if_pos h]
theorem kE_2 {l : Lot} {e : Int} (h : e = 0) (hw : ways l 0 = []) : kE l e = 8 := by unfold kE; rw [if_neg (by simp [h]), if_pos hw]
theorem kE_3 {l : Lot} {e : Int} (h : e = 0) (hw : ways l 0 ≠ []) : kE l e = 0 := by unfold kE; rw [if_neg (by simp [h]), if_neg hw]
end Go.Rt.Ha
/- Plain words that laws of all layers share: numbers by turns, bits. No conditions. -/
set_option linter.unusedSimpArgs false
set_option linter.unusedVariables false
namespace Go.Rt
def turnOf (x : List Int) (n : Nat) : Int := if x.length = 0 then 0 else x.getD (n % x.length) 0
theorem turn_in {x : List Int} (h : ∀ z ∈ x, 0 ≤ z ∧ z ≤ 255) (n : Nat) : 0 ≤ turnOf x n ∧ turnOf x n ≤ 255 := by
  unfold turnOf
  split
  · omega
  · rename_i h0
    have hl : n % x.length < x.length := Nat.mod_lt _ (by omega)
    simp only [List.getD, List.getElem?_eq_getElem hl, Option.getD_some]
    exact h _ (List.getElem_mem hl)
theorem turn_at {x : List Int} {n : Nat} (h : 0 < x.length) : x[n % x.length]'(Nat.mod_lt _ h) = turnOf x n := by
  unfold turnOf
  rw [if_neg (by omega)]
  simp [List.getD, Nat.mod_lt _ h]
theorem shr_half (b i : Nat) : (b >>> i : Nat) / 2 = b >>> (i + 1) := by rw [Nat.shiftRight_succ]
theorem shr_le (b i : Nat) : b >>> i ≤ b := by rw [Nat.shiftRight_eq_div_pow]; exact Nat.div_le_self _ _
end Go.Rt
