/- Own texts of this claim, joined. No conditions. -/
import Derived.Test.YtiemgahjdgajmaaHHandKnowna
import Derived.Test.YtiemgahjdgajmaaHHandKnownb
import Derived.Test.YtiemgahjdgajmaaHHandKnownc
import Derived.Test.YtiemgahjdgajmaaHHandKnownd
import Derived.Test.YtiemgahjdgajmaaHHandKnowne
/- Walks of this seat, printed by gen.py over the engine: what each function returns, in whatever world. No conditions but those of each contract. -/
set_option linter.unusedVariables false
set_option linter.unusedSimpArgs false
set_option maxRecDepth 20000
namespace Go.Proofs
open Go.Rt Go.Rt.Ha
attribute [local irreducible] WL WC Con Yd At Ats Sl Agree DW

theorem next_yes {ws : List (List Int)} {k : Nat} (h : leftW k ws < ws.length) (h2 : (Ha.nextTo ws k).1 < 0 ∨ leftW k ws < (Ha.nextTo ws k).2) : Ha.nextTo ws (k + 1) = ((k : Int), leftW k ws) := by simp only [Ha.nextTo]; rw [if_pos ⟨h, h2⟩]
theorem next_no {ws : List (List Int)} {k : Nat} (h : ¬ leftW k ws < ws.length ∨ (¬ (Ha.nextTo ws k).1 < 0 ∧ ¬ leftW k ws < (Ha.nextTo ws k).2)) : Ha.nextTo ws (k + 1) = Ha.nextTo ws k := by simp only [Ha.nextTo]; rw [if_neg (by rintro ⟨h1, h2⟩; omega)]
theorem left_max (b : Nat) (ws : List (List Int)) : maxTo (oftL b ws) ((oftL b ws).length - 1) = leftW b ws := by
  rw [oft_len]
  have key : ∀ n, n < 13 → maxTo (oftL b ws) n = mostTo b ws (n + 1) := by
    intro n
    induction n with
    | zero => intro _; simp only [maxTo, mostTo]; rw [oft_get (by omega)]; have := (often_in b ((0 : Nat) : Int) ws).1; omega
    | succ n ih => intro h; simp only [maxTo]; rw [ih (by omega), oft_get (by omega)]; rfl
  exact key 12 (by omega)
theorem left_in (b : Nat) (ws : List (List Int)) : 0 ≤ leftW b ws ∧ leftW b ws ≤ ws.length := by
  have key : ∀ n, 0 ≤ mostTo b ws n ∧ mostTo b ws n ≤ ws.length := by
    intro n
    induction n with
    | zero => simp [mostTo]
    | succ n ih => have := often_in b (n : Int) ws; simp only [mostTo]; omega
  exact key 13
theorem oft_cells {b8 b7 : Nat} {x y : Int} {l m : List Int} (h : x = y) (h2 : l = m) : [(b8, blk 3 [.int .i64 x]), (b7, blk 131 (iv l))] = ([(b8, blk 3 [.int .i64 y]), (b7, blk 131 (iv m))] : List (Nat × Obj)) := by subst h h2; rfl
theorem next_back {w0 w : World} {bd : Nat} {bs : List Nat} {R : List (Nat × Obj)} {a b c d : Nat × Obj} (h : St w0 w ((bd, .deferred (some [])) :: a :: b :: c :: d :: (dfs bs ++ R))) : St w0 w (dfs (bd :: bs) ++ R) := kp_own (kp_own (kp_own (kp_own h)))
theorem c32 {w0 w : World} {F : List (Nat × Obj)} (l : Lot) (p : At3) (hm : LIn w0 F l p)  (hs : St w0 w F) :
  Con Try.prog 32 [.agg (l.cells p).toArray] w fun v w' => v = .tuple #[.int .i64 (nextP l).1, .int .i64 (nextP l).2.1, .int .i64 (nextP l).2.2] ∧ St w0 w' F := by
  refine con_of_wcM (n := 58) Try.func32 rfl rfl (Nat.le_of_ble_eq_true rfl) ?_
  have hlb0 := hm.lb
  refine w_seq (fun K2 hK1 => ?_)
  refine w_region ?_
  refine w_box (v := .agg #[.slice _ _ _, .slice _ _ _, .slice _ _ _]) (cs := [_, _, _]) want_none rfl rfl rfl hs (fun b3 w4 hs5 => ?_)
  refine w_pure want_none (y_assign (v := _) rfl rfl) rfl ?_
  refine w_pure want_none (y_assign (v := _) rfl rfl) rfl ?_
  refine w_pure want_none (y_assign (v := _) rfl rfl) rfl ?_
  refine w_nil ?_
  refine q_then (hK1 _ _ ?_)
  refine w_seq (fun K7 hK6 => ?_)
  refine w_region ?_
  refine w_pure want_none (y_loadN (vs := [_, _, _]) Try.isAgg26 Try.sizeOf26 hs5 rfl rfl (ats_own (i := 0) (vs := [_, _, _]) rfl rfl)) rfl ?_
  refine w_call want_none Try.call69 rfl rfl rfl rfl (c69 l p hm.cons (.func (.func 82) #[] #[]) 0 (fun X w hs => fcon_fn Try.call82 (c82 hs)) hs5) ?_
  rintro _ w9 (⟨hee, rfl, hs10⟩ | ⟨hee, lb, mm, M, rfl, hM, hs10⟩)
  ·
   refine w_pure want_none (y_move (v := .tuple _) rfl rfl) rfl ?_
   refine w_pure want_none (y_extract (v := .pointer _) rfl rfl rfl) rfl ?_
   refine w_pure want_none (y_extract (v := .int _ _) rfl rfl rfl) rfl ?_
   refine w_pure want_none (y_assign (v := .pointer _) rfl rfl) rfl ?_
   refine w_pure want_none (y_assign (v := .int _ _) rfl rfl) rfl ?_
   refine w_nil ?_
   refine q_then (hK6 _ _ ?_)
   refine w_seq (fun K12 hK11 => ?_)
   refine w_seq (fun K14 hK13 => ?_)
   refine w_region ?_
   refine w_pure want_none (y_move (v := .int _ _) rfl rfl) rfl ?_
   refine w_pure want_none (y_neq rfl rfl rfl rfl) rfl ?_
   refine w_nil ?_
   refine q_then (hK13 _ _ ?_)
   refine w_cond rfl rfl (fun h15 => ?_) (fun h15 => ?_)
   ·
    try simp only [Bool.not_eq_true', Bool.not_eq_false', decide_eq_true_eq, decide_eq_false_iff_not, Int.not_lt, Int.not_le] at h15
    refine w_seq (fun K17 hK16 => ?_)
    refine w_region ?_
    refine w_pure want_none (y_move (v := .int _ _) rfl rfl) rfl ?_
    refine w_pure want_none (y_assign (v := _) rfl rfl) rfl ?_
    refine w_pure want_none (y_assign (v := _) rfl rfl) rfl ?_
    refine w_pure want_none (y_assign (v := .int _ _) rfl rfl) rfl ?_
    refine w_nil ?_
    refine q_then (hK16 _ _ ?_)
    refine w_ret ?_
    refine q_then_ret ?_
    refine q_retM0 (l := [.tmp 2, .tmp 3, .tmp 4]) (vs := [_, _, _]) rfl ⟨⟨rfl, show _ = (.int _ _ : Value) from rfl⟩, ⟨rfl, show _ = (.int _ _ : Value) from rfl⟩, ⟨rfl, show _ = (.int _ _ : Value) from rfl⟩, trivial⟩ ?_
    exact ⟨by unfold nextP; rw [if_pos hee]; rfl, hs10.tail⟩
   ·
    exfalso
    try simp only [Bool.not_eq_true', Bool.not_eq_false', decide_eq_true_eq, decide_eq_false_iff_not, Int.not_lt, Int.not_le] at h15
    first | exact hee h15 | exact h15 hee
  ·
   replace hs10 := (show St _ _ (M ++ (_ :: _ :: F)) from hs10)
   have hk := lk_new hs10 hm.cons (enterE_zero hee).1
   have hew := enterE_zero hee
   have hbt := hk.bt
   have hlg := hk.ok.lg
   have hlb := hk.ok.lb
   have hlc := hk.ok.lc
   refine w_pure want_none (y_move (v := .tuple _) rfl rfl) rfl ?_
   refine w_pure want_none (y_extract (v := .pointer _) rfl rfl rfl) rfl ?_
   refine w_pure want_none (y_extract (v := .int _ _) rfl rfl rfl) rfl ?_
   refine w_pure want_none (y_assign (v := .pointer _) rfl rfl) rfl ?_
   refine w_pure want_none (y_assign (v := .int _ _) rfl rfl) rfl ?_
   refine w_nil ?_
   refine q_then (hK6 _ _ ?_)
   refine w_seq (fun K19 hK18 => ?_)
   refine w_seq (fun K21 hK20 => ?_)
   refine w_region ?_
   refine w_pure want_none (y_move (v := .int _ _) rfl rfl) rfl ?_
   refine w_pure want_none (y_neq rfl rfl rfl rfl) rfl ?_
   refine w_nil ?_
   refine q_then (hK20 _ _ ?_)
   refine w_condF rfl rfl ?_
   refine w_skip ?_
   refine q_then (hK18 _ _ ?_)
   refine w_seq (fun K23 hK22 => ?_)
   refine w_region ?_
   refine w_pure want_none (y_assign (v := _) rfl rfl) rfl ?_
   refine w_nil ?_
   refine q_then (hK22 _ _ ?_)
   refine w_seq (fun K25 hK24 => ?_)
   refine w_seq (fun K27 hK26 => ?_)
   have hx1 : Ats w0 ((lb, blk 145 [.slice p.ag l.grades.length p.cg, .slice p.ab l.bunches.length p.cb, .slice p.ac l.counts.length p.cc, .int .i64 ((0 : Nat) : Int), .map (some mm)]) :: (b3, blk 26 (l.cells p)) :: F) b3 0 (l.cells p) := ats_own (i := 1) rfl rfl
   have hwl := ways_len hk.ok 0
   refine w_region ?_
   refine w_pure want_none (y_fieldAddr (o := 1) (i := 1) Try.underlying26 rfl Try.sizeOf23 rfl rfl rfl) rfl ?_
   refine w_pure want_none (y_load1 Try.isAgg23 hs10.drop rfl rfl (show Ats _ _ _ _ [_] from Ats.part hx1 1 1)) rfl ?_
   refine w_pure want_none (y_lenS Try.underlying23 rfl rfl) rfl ?_
   refine w_pure want_none (y_move (v := _) rfl rfl) rfl ?_
   refine w_nil ?_
   refine q_then (hK26 _ _ ?_)
   refine w_block ?_
   refine w_loopD [2, 3, 6, 7, 8, 10, 22, 23, 24, 25, 26, 37, 38, 39, 40, 41, 42, 43, 44, 45, 46, 47, 48, 49, 50, 51, 52, 53] [2, 3, 22] (fun k vs bs w => ∃ (q : Nat), vs = [.int .i64 (Ha.nextTo (Ha.ways l 0) q).1, .int .i64 (Ha.nextTo (Ha.ways l 0) q).2, .int .i64 q] ∧ q ≤ l.bunches.length ∧ k = l.bunches.length - q ∧ St w0 w (dfs bs ++ (M ++ ((lb, blk 145 [.slice p.ag l.grades.length p.cg, .slice p.ab l.bunches.length p.cb, .slice p.ac l.counts.length p.cc, .int .i64 ((0 : Nat) : Int), .map (some mm)]) :: (b3, blk 26 (l.cells p)) :: F)))) (l.bunches.length) [] ?_ ?_
   ·
    exact ⟨0, rfl, by omega, by omega, hs10⟩
   ·
    intro k vs μ bs w30 hI K29 hN28
    obtain ⟨q, rfl, hqa, rfl, hs⟩ := hI
    refine w_seq (fun K32 hK31 => ?_)
    refine w_region ?_
    refine w_pure want_none (y_lss rfl rfl rfl rfl) rfl ?_
    refine w_nil ?_
    refine q_then (hK31 _ _ ?_)
    refine w_seq (fun K34 hK33 => ?_)
    refine w_cond rfl rfl (fun h35 => ?_) (fun h35 => ?_)
    ·
     try simp only [Bool.not_eq_true', Bool.not_eq_false', decide_eq_true_eq, decide_eq_false_iff_not, Int.not_lt, Int.not_le] at h35
     refine w_skip ?_
     refine q_then (hK33 _ _ ?_)
     refine w_seq (fun K37 hK36 => ?_)
     refine w_block ?_
     refine w_seq (fun K39 hK38 => ?_)
     have hq2 : q < l.bunches.length := by omega
     have hli := left_in q (Ha.ways l 0)
     refine w_region ?_
     refine w_pure want_none (y_move (v := .int _ _) rfl rfl) rfl ?_
     refine w_alloc (cs := [_]) want_none Try.zeroValue3 rfl hs (fun b40 w41 hs42 => ?_)
     refine w_store (i := 0) (v := .int _ _) (vs := [_]) want_none Try.sizeOf3 rfl rfl rfl rfl rfl (by simp [Value.oneCell']) hs42 rfl (Nat.le_of_ble_eq_true rfl) (fun w43 hs44 => ?_)
     refine w_nil ?_
     refine q_then (hK38 _ _ ?_)
     refine w_seq (fun K46 hK45 => ?_)
     refine w_region ?_
     refine w_alloc (cs := iv [0, 0, 0, 0, 0, 0, 0, 0, 0, 0, 0, 0, 0]) want_none Try.zeroValue131 rfl hs44 (fun b47 w48 hs49 => ?_)
     refine w_nil ?_
     refine q_then (hK45 _ _ ?_)
     refine w_seq (fun K51 hK50 => ?_)
     refine w_region ?_
     refine w_alloc (cs := [_]) want_none Try.zeroValue3 rfl hs49 (fun b52 w53 hs54 => ?_)
     refine w_store (i := 0) (v := .int _ _) (vs := [_]) want_none Try.sizeOf3 rfl rfl rfl rfl rfl (by simp [Value.oneCell']) hs54 rfl (Nat.le_of_ble_eq_true rfl) (fun w55 hs56 => ?_)
     refine w_nil ?_
     refine q_then (hK50 _ _ ?_)
     refine w_seq (fun K58 hK57 => ?_)
     refine w_seq (fun K60 hK59 => ?_)
     refine w_region ?_
     refine w_pure want_none (y_move (v := .pointer _) rfl rfl) rfl ?_
     refine w_call want_none Try.call78 rfl rfl rfl rfl (c78 _ hs56) ?_
     rintro _ w62 ⟨bp, rfl, hs63⟩
     refine w_nil ?_
     refine q_then (hK59 _ _ ?_)
     refine w_block ?_
     refine w_range ([_, _]) (fun i Bx => Bx = [(b52, blk 3 [.int .i64 (i : Int)]), (b47, blk 131 (iv (oftL q ((Ha.ways l 0).take i))))]) (fun _ _ => False) rfl rfl rfl Try.call106 (ways_iter l p 0 lb mm hk.app.app.cons.cons bp (ats_own (i := 0) (vs := [_]) rfl rfl)) hs63 (perm_mid [_] [_, _] _) rfl ?_ ?_ ?_
     ·
      intro lp i hi Bx Xr Xr2 w65 hJ hs K hK64
      subst hJ
      have hi2 : i < (Ha.ways l 0).length := by simpa using hi
      rw [List.getElem_map, List.getElem_map]
      have hpl := padw_len hk.ok (List.mem_map.2 ⟨_, List.getElem_mem hi2, rfl⟩)
      have hat := pad6_at (Ha.ways l 0)[i] q
      have hwi := way_in hk.ok (List.getElem_mem hi2) q
      obtain ⟨h, hh⟩ : ∃ h, h = pad6 (Ha.ways l 0)[i] := ⟨_, rfl⟩
      rw [← hh] at hpl hat ⊢
      rw [← hat] at hwi
      have hh6 := hpl.1
      have hol := oft_len q ((Ha.ways l 0).take i)
      have hog := often_in q ((h.getD q 0).toNat : Int) ((Ha.ways l 0).take i)
      have hol2 : ((Ha.ways l 0).take i).length ≤ 4096 := by rw [List.length_take]; omega
      rw [← oft_get (by omega)] at hog
      have hx6 : Ats w0 ((bp, blk 104 [.pointer (some ⟨lb, 0, none⟩)]) :: (b40, blk 3 [.int .i64 (q : Int)]) :: ((dfs bs) ++ (M ++ ((lb, blk 145 [.slice p.ag l.grades.length p.cg, .slice p.ab l.bunches.length p.cb, .slice p.ac l.counts.length p.cc, .int .i64 ((0 : Nat) : Int), .map (some mm)]) :: (b3, blk 26 (l.cells p)) :: F)))) b40 0 [.int .i64 (q : Int)] := ats_own (i := 1) rfl rfl
      replace hs := (show St _ _ (_ :: _ :: (Xr ++ (_ :: _ :: (dfs bs ++ (M ++ (_ :: _ :: F)))))) from hs)
      refine w_region ?_
      refine w_alloc (cs := iv [0, 0, 0, 0, 0, 0]) want_none Try.zeroValue121 rfl hs (fun b66 w67 hs68 => ?_)
      refine w_storeI (i := 0) (l := _) want_none Try.sizeOf121 (by first | omega | rfl | (simp only [hh6, hol, oft_len, List.length_map, List.length_set, List.length_append, List.length_take, List.length_drop, List.length_replicate, List.length_cons, List.length_nil] <;> omega)) rfl rfl rfl rfl rfl hs68 rfl (by first | omega | rfl | (simp only [hh6, hol, oft_len, List.length_map, List.length_set, List.length_append, List.length_take, List.length_drop, List.length_replicate, List.length_cons, List.length_nil] <;> omega)) (fun w69 hs70 => ?_)
      refine w_nil ?_
      refine q_then (hK64 _ _ (_ :: _ :: _ :: []) hs70 (fun w71 hs72 => ?_))
      replace hs72 := (show St _ _ (_ :: _ :: _ :: Xr2 ++ (_ :: _ :: (dfs bs) ++ (M ++ (_ :: _ :: F)))) from hs72)
      refine w_block ?_
      refine w_seq (fun K74 hK73 => ?_)
      refine w_region ?_
      refine w_pure want_none (y_load1 Try.isAgg3 hs72.tail.tail.tail.drop rfl rfl hx6) rfl ?_
      refine w_pure want_none (y_indexA Try.underlying121 Try.sizeOf3 rfl rfl rfl rfl (i := q) (by first | rfl | omega) (by omega)) rfl ?_
      refine w_pure want_none (y_load1 Try.isAgg3 hs72 rfl rfl (ats_ints (i := 0) (j := q) rfl (by first | omega | rfl | (simp only [hh6, hol, oft_len, List.length_map, List.length_set, List.length_append, List.length_take, List.length_drop, List.length_replicate, List.length_cons, List.length_nil] <;> omega)))) rfl ?_
      refine w_pure want_none (y_indexA Try.underlying131 Try.sizeOf3 rfl rfl rfl rfl (i := (h.getD q 0).toNat) (by first | rfl | omega) (by omega)) rfl ?_
      refine w_pure want_none (y_load1 Try.isAgg3 hs72 rfl rfl (ats_ints (i := 2) (j := (h.getD q 0).toNat) rfl (by first | omega | rfl | (simp only [hh6, hol, oft_len, List.length_map, List.length_set, List.length_append, List.length_take, List.length_drop, List.length_replicate, List.length_cons, List.length_nil] <;> omega)))) rfl ?_
      refine w_pure want_none (y_add rfl rfl rfl rfl (by omega) (by omega)) rfl ?_
      refine w_pure want_none (y_indexA Try.underlying131 Try.sizeOf3 rfl rfl rfl rfl (i := (h.getD q 0).toNat) (by first | rfl | omega) (by omega)) rfl ?_
      refine w_storeAtI (i := 2) (j := (h.getD q 0).toNat) want_none Try.sizeOf3 rfl rfl rfl rfl hs72 rfl (by first | omega | rfl | (simp only [hh6, hol, oft_len, List.length_map, List.length_set, List.length_append, List.length_take, List.length_drop, List.length_replicate, List.length_cons, List.length_nil] <;> omega)) (fun w75 hs76 => ?_)
      refine w_nil ?_
      refine q_then (hK73 _ _ ?_)
      refine w_region ?_
      refine w_pure want_none (y_load1 Try.isAgg3 hs76 rfl rfl (ats_own (i := 1) (vs := [_]) rfl rfl)) rfl ?_
      refine w_pure want_none (y_add rfl rfl rfl rfl (by omega) (by omega)) rfl ?_
      refine w_store (i := 1) (v := .int _ _) (vs := [_]) want_none Try.sizeOf3 rfl rfl rfl rfl rfl (by simp [Value.oneCell']) hs76 rfl (Nat.le_of_ble_eq_true rfl) (fun w77 hs78 => ?_)
      refine w_nil ?_
      refine q_blk_normal ?_
      refine rd_normal (_ :: _ :: []) hs78.tail ?_
      exact oft_cells (by omega) (oft_take hi2 (by rw [← hat]; omega) (by omega))
     ·
      intro bd Bx w79 hJ hs
      subst hJ
      rw [List.length_map, List.length_map, List.take_length] at hs
      replace hs := (show St _ _ (_ :: _ :: _ :: _ :: _ :: (dfs bs ++ (M ++ (_ :: _ :: F)))) from hs)
      refine q_blk_normal ?_
      refine q_then (hK57 _ _ ?_)
      refine w_seq (fun K81 hK80 => ?_)
      refine w_region ?_
      refine w_pure want_none (y_sliceA Try.underlying131 Try.sizeOf3 rfl rfl) rfl ?_
      refine w_call want_none Try.call88 rfl rfl rfl rfl ((by have h := c88 _ (oftL q (Ha.ways l 0)) 13 (by rw [oft_len]; omega) (by rw [oft_len]; omega) (sl_ints_own (i := 2) rfl) hs; rw [left_max, oft_len] at h; exact h)) ?_
      rintro _ w83 ⟨rfl, hs84⟩
      refine w_pure want_none (y_assign (v := .int _ _) rfl rfl) rfl ?_
      refine w_nil ?_
      refine q_then (hK80 _ _ ?_)
      refine w_seq (fun K86 hK85 => ?_)
      refine w_region ?_
      refine w_pure want_none (y_move (v := .int _ _) rfl rfl) rfl ?_
      refine w_pure want_none (y_load1 Try.isAgg3 hs84 rfl rfl (ats_own (i := 1) (vs := [_]) rfl rfl)) rfl ?_
      refine w_pure want_none (y_lss rfl rfl rfl rfl) rfl ?_
      refine w_pure want_none (y_move (v := .bool _) rfl rfl) rfl ?_
      refine w_split (fun h87 => ?_) (fun h87 => ?_)
      ·
       try simp only [Bool.not_eq_true', Bool.not_eq_false', decide_eq_true_eq, decide_eq_false_iff_not, Int.not_lt, Int.not_le] at h87
       refine w_pure (want_yes rfl rfl rfl) (y_move (v := .int _ _) rfl rfl) rfl ?_
       refine w_pure (want_yes rfl rfl rfl) (y_lss rfl rfl rfl rfl) rfl ?_
       refine w_pure (want_yes rfl rfl rfl) (y_move (v := .bool _) rfl rfl) rfl ?_
       refine w_split (fun h88 => ?_) (fun h88 => ?_)
       ·
        try simp only [Bool.not_eq_true', Bool.not_eq_false', decide_eq_true_eq, decide_eq_false_iff_not, Int.not_lt, Int.not_le] at h88
        refine w_skipop rfl rfl rfl ?_
        refine w_skipop rfl rfl rfl ?_
        refine w_skipop rfl rfl rfl ?_
        refine w_pure (want_yes rfl rfl rfl) (y_pickT (v := _) rfl rfl rfl rfl) rfl ?_
        refine w_pure want_none (y_pickT (v := .bool _) rfl rfl rfl rfl) rfl ?_
        refine w_nil ?_
        refine q_then (hK85 _ _ ?_)
        refine w_condT rfl rfl ?_
        refine w_region ?_
        refine w_pure want_none (y_load1 Try.isAgg3 hs84 rfl rfl (ats_own (i := 4) (vs := [_]) rfl rfl)) rfl ?_
        refine w_pure want_none (y_move (v := .int _ _) rfl rfl) rfl ?_
        refine w_pure want_none (y_assign (v := .int _ _) rfl rfl) rfl ?_
        refine w_pure want_none (y_assign (v := .int _ _) rfl rfl) rfl ?_
        refine w_nil ?_
        refine q_blk_normal ?_
        refine q_then (hK36 _ _ ?_)
        refine w_region ?_
        refine w_pure want_none (y_add rfl rfl rfl rfl (by omega) (by omega)) rfl ?_
        refine w_pure want_none (y_move (v := .int _ _) rfl rfl) rfl ?_
        refine w_nil ?_
        refine q_then (hN28 _ _ (NxD.intro (bd :: bs) (l.bunches.length - (q + 1)) (by omega) (by repeat (first | exact agree_mix | refine agree_upd rfl ?_ | refine agree_updL rfl ?_ _ | refine agree_mixin rfl ?_)) ?_))
        first
          | (have hn := next_yes (ws := (Ha.ways l 0)) (k := q) (by omega) (by omega)
             exact ⟨q + 1, iv3 (by rw [hn]) (by rw [hn]) rfl, by omega, rfl, next_back hs84⟩)
          | (have hn := next_no (ws := (Ha.ways l 0)) (k := q) (by omega)
             exact ⟨q + 1, iv3 (by rw [hn]) (by rw [hn]) rfl, by omega, rfl, next_back hs84⟩)
       ·
        try simp only [Bool.not_eq_true', Bool.not_eq_false', decide_eq_true_eq, decide_eq_false_iff_not, Int.not_lt, Int.not_le] at h88
        refine w_pure (want_yes rfl rfl rfl) (y_move (v := .int _ _) rfl rfl) rfl ?_
        refine w_pure (want_yes rfl rfl rfl) (y_move (v := .int _ _) rfl rfl) rfl ?_
        refine w_pure (want_yes rfl rfl rfl) (y_lss rfl rfl rfl rfl) rfl ?_
        refine w_pure (want_yes rfl rfl rfl) (y_pickF (v := .bool _) rfl rfl rfl rfl) rfl ?_
        refine w_pure want_none (y_pickT (v := .bool _) rfl rfl rfl rfl) rfl ?_
        refine w_nil ?_
        refine q_then (hK85 _ _ ?_)
        refine w_cond rfl rfl (fun h89 => ?_) (fun h89 => ?_)
        ·
         try simp only [Bool.not_eq_true', Bool.not_eq_false', decide_eq_true_eq, decide_eq_false_iff_not, Int.not_lt, Int.not_le] at h89
         refine w_region ?_
         refine w_pure want_none (y_load1 Try.isAgg3 hs84 rfl rfl (ats_own (i := 4) (vs := [_]) rfl rfl)) rfl ?_
         refine w_pure want_none (y_move (v := .int _ _) rfl rfl) rfl ?_
         refine w_pure want_none (y_assign (v := .int _ _) rfl rfl) rfl ?_
         refine w_pure want_none (y_assign (v := .int _ _) rfl rfl) rfl ?_
         refine w_nil ?_
         refine q_blk_normal ?_
         refine q_then (hK36 _ _ ?_)
         refine w_region ?_
         refine w_pure want_none (y_add rfl rfl rfl rfl (by omega) (by omega)) rfl ?_
         refine w_pure want_none (y_move (v := .int _ _) rfl rfl) rfl ?_
         refine w_nil ?_
         refine q_then (hN28 _ _ (NxD.intro (bd :: bs) (l.bunches.length - (q + 1)) (by omega) (by repeat (first | exact agree_mix | refine agree_upd rfl ?_ | refine agree_updL rfl ?_ _ | refine agree_mixin rfl ?_)) ?_))
         first
           | (have hn := next_yes (ws := (Ha.ways l 0)) (k := q) (by omega) (by omega)
              exact ⟨q + 1, iv3 (by rw [hn]) (by rw [hn]) rfl, by omega, rfl, next_back hs84⟩)
           | (have hn := next_no (ws := (Ha.ways l 0)) (k := q) (by omega)
              exact ⟨q + 1, iv3 (by rw [hn]) (by rw [hn]) rfl, by omega, rfl, next_back hs84⟩)
        ·
         try simp only [Bool.not_eq_true', Bool.not_eq_false', decide_eq_true_eq, decide_eq_false_iff_not, Int.not_lt, Int.not_le] at h89
         refine w_skip ?_
         refine q_blk_normal ?_
         refine q_then (hK36 _ _ ?_)
         refine w_region ?_
         refine w_pure want_none (y_add rfl rfl rfl rfl (by omega) (by omega)) rfl ?_
         refine w_pure want_none (y_move (v := .int _ _) rfl rfl) rfl ?_
         refine w_nil ?_
         refine q_then (hN28 _ _ (NxD.intro (bd :: bs) (l.bunches.length - (q + 1)) (by omega) (by repeat (first | exact agree_mix | refine agree_upd rfl ?_ | refine agree_updL rfl ?_ _ | refine agree_mixin rfl ?_)) ?_))
         first
           | (have hn := next_yes (ws := (Ha.ways l 0)) (k := q) (by omega) (by omega)
              exact ⟨q + 1, iv3 (by rw [hn]) (by rw [hn]) rfl, by omega, rfl, next_back hs84⟩)
           | (have hn := next_no (ws := (Ha.ways l 0)) (k := q) (by omega)
              exact ⟨q + 1, iv3 (by rw [hn]) (by rw [hn]) rfl, by omega, rfl, next_back hs84⟩)
      ·
       try simp only [Bool.not_eq_true', Bool.not_eq_false', decide_eq_true_eq, decide_eq_false_iff_not, Int.not_lt, Int.not_le] at h87
       refine w_skipop rfl rfl rfl ?_
       refine w_skipop rfl rfl rfl ?_
       refine w_skipop rfl rfl rfl ?_
       refine w_skipop' rfl rfl rfl ?_
       refine w_skipop' rfl rfl rfl ?_
       refine w_skipop' rfl rfl rfl ?_
       refine w_skipop rfl rfl rfl ?_
       refine w_pure want_none (y_pickF (v := _) rfl rfl rfl rfl) rfl ?_
       refine w_nil ?_
       refine q_then (hK85 _ _ ?_)
       refine w_condF rfl rfl ?_
       refine w_skip ?_
       refine q_blk_normal ?_
       refine q_then (hK36 _ _ ?_)
       refine w_region ?_
       refine w_pure want_none (y_add rfl rfl rfl rfl (by omega) (by omega)) rfl ?_
       refine w_pure want_none (y_move (v := .int _ _) rfl rfl) rfl ?_
       refine w_nil ?_
       refine q_then (hN28 _ _ (NxD.intro (bd :: bs) (l.bunches.length - (q + 1)) (by omega) (by repeat (first | exact agree_mix | refine agree_upd rfl ?_ | refine agree_updL rfl ?_ _ | refine agree_mixin rfl ?_)) ?_))
       first
         | (have hn := next_yes (ws := (Ha.ways l 0)) (k := q) (by omega) (by omega)
            exact ⟨q + 1, iv3 (by rw [hn]) (by rw [hn]) rfl, by omega, rfl, next_back hs84⟩)
         | (have hn := next_no (ws := (Ha.ways l 0)) (k := q) (by omega)
            exact ⟨q + 1, iv3 (by rw [hn]) (by rw [hn]) rfl, by omega, rfl, next_back hs84⟩)
     ·
      intro _ _ _ _ hJ
      exact hJ.elim
    ·
     try simp only [Bool.not_eq_true', Bool.not_eq_false', decide_eq_true_eq, decide_eq_false_iff_not, Int.not_lt, Int.not_le] at h35
     refine w_exit ?_
     refine q_then_exit ?_
     refine q_then_exit ?_
     refine q_blk_this ?_
     refine q_then (hK24 _ _ ?_)
     refine w_seq (fun K91 hK90 => ?_)
     refine w_seq (fun K93 hK92 => ?_)
     refine w_region ?_
     refine w_pure want_none (y_move (v := .int _ _) rfl rfl) rfl ?_
     refine w_pure want_none (y_lss rfl rfl rfl rfl) rfl ?_
     refine w_nil ?_
     refine q_then (hK92 _ _ ?_)
     refine w_cond rfl rfl (fun h94 => ?_) (fun h94 => ?_)
     ·
      try simp only [Bool.not_eq_true', Bool.not_eq_false', decide_eq_true_eq, decide_eq_false_iff_not, Int.not_lt, Int.not_le] at h94
      refine w_seq (fun K96 hK95 => ?_)
      refine w_region ?_
      refine w_pure want_none (y_assign (v := _) rfl rfl) rfl ?_
      refine w_pure want_none (y_assign (v := _) rfl rfl) rfl ?_
      refine w_pure want_none (y_assign (v := _) rfl rfl) rfl ?_
      refine w_nil ?_
      refine q_then (hK95 _ _ ?_)
      refine w_ret ?_
      refine q_then_ret ?_
      refine q_retMM (l := [.tmp 2, .tmp 3, .tmp 4]) (vs := [_, _, _]) hs rfl (fun w97 hs98 => ⟨⟨⟨rfl, show _ = (.int _ _ : Value) from rfl⟩, ⟨rfl, show _ = (.int _ _ : Value) from rfl⟩, ⟨rfl, show _ = (.int _ _ : Value) from rfl⟩, trivial⟩, ?_⟩)
      have hqn : q = l.bunches.length := by omega
      subst hqn
      first
        | exact ⟨by unfold nextP; rw [if_neg (by simp [hee]), if_pos (by assumption)]; rfl, hs98.drop.tail.tail⟩
        | exact ⟨by unfold nextP; rw [if_neg (by simp [hee]), if_neg (by omega)]; rfl, hs98.drop.tail.tail⟩
     ·
      try simp only [Bool.not_eq_true', Bool.not_eq_false', decide_eq_true_eq, decide_eq_false_iff_not, Int.not_lt, Int.not_le] at h94
      refine w_skip ?_
      refine q_then (hK90 _ _ ?_)
      refine w_seq (fun K100 hK99 => ?_)
      refine w_region ?_
      refine w_pure want_none (y_move (v := .int _ _) rfl rfl) rfl ?_
      refine w_pure want_none (y_move (v := .int _ _) rfl rfl) rfl ?_
      refine w_pure want_none (y_assign (v := .int _ _) rfl rfl) rfl ?_
      refine w_pure want_none (y_assign (v := .int _ _) rfl rfl) rfl ?_
      refine w_pure want_none (y_assign (v := _) rfl rfl) rfl ?_
      refine w_nil ?_
      refine q_then (hK99 _ _ ?_)
      refine w_ret ?_
      refine q_retMM (l := [.tmp 2, .tmp 3, .tmp 4]) (vs := [_, _, _]) hs rfl (fun w101 hs102 => ⟨⟨⟨rfl, show _ = (.int _ _ : Value) from rfl⟩, ⟨rfl, show _ = (.int _ _ : Value) from rfl⟩, ⟨rfl, show _ = (.int _ _ : Value) from rfl⟩, trivial⟩, ?_⟩)
      have hqn : q = l.bunches.length := by omega
      subst hqn
      first
        | exact ⟨by unfold nextP; rw [if_neg (by simp [hee]), if_pos (by assumption)]; rfl, hs102.drop.tail.tail⟩
        | exact ⟨by unfold nextP; rw [if_neg (by simp [hee]), if_neg (by omega)]; rfl, hs102.drop.tail.tail⟩

end Go.Proofs
/- Plain words of the hand layer: the document's example. No conditions. -/
set_option linter.unusedSimpArgs false
set_option linter.unusedVariables false
namespace Go.Rt.Ha
def nNine : ByteArray := ⟨#[110, 105, 110, 101]⟩
def nEight : ByteArray := ⟨#[101, 105, 103, 104, 116]⟩
def nSeven : ByteArray := ⟨#[115, 101, 118, 101, 110]⟩
def exL (m : List Count) : Lot := ⟨[⟨nNine, 9, 1⟩, ⟨nEight, 8, 3⟩, ⟨nSeven, 7, 3⟩], [⟨9, 10, 0, 0⟩, ⟨8, 9, 1, 2⟩, ⟨7, 8, 0, 4⟩, ⟨6, 7, 2, 2⟩], ⟨3, 18⟩ :: m⟩
theorem ex_hands1 : handsP (exL []) 0 = ((9, 10), 0) := by decide +kernel
theorem ex_grade1 : gradeP (exL []) 2 = ([-1, 1, 2], 0) := by decide +kernel
theorem ex_total1 : totalP (exL []) 0 = ((9, 18), 0) := by decide +kernel
theorem ex_ref1 : refusedP (exL [⟨12, 13⟩]) = ([3], [2, 3], 0) := by decide +kernel
theorem ex_pick1 : pickP (exL []) 1 18 = ([0, 1], 0) := by decide +kernel
theorem ex_pick2 : pickP (exL []) 1 19 = ([], 9) := by decide +kernel
theorem ex_next1 : nextP (exL []) = (0, 4, 0) := by decide +kernel
theorem ex_wrong1 : wrongP (exL [⟨1, 8⟩]) = ([1], 0) := by decide +kernel
theorem ex_hands2 : handsP (exL [⟨1, 8⟩]) 0 = ((0, 0), 8) := by decide +kernel
theorem ex_hands3 : handsP (exL [⟨12, 13⟩]) 2 = ((7, 7), 0) := by decide +kernel
theorem ex_grade2 : gradeP (exL []) 0 = ([0], 0) := by decide +kernel
theorem ex_grade3 : gradeP (exL []) 1 = ([0, 1], 0) := by decide +kernel
theorem ex_grade4 : gradeP (exL []) 3 = ([-1, 2], 0) := by decide +kernel
theorem ex_total2 : totalP (exL []) 1 = ((0, 17), 0) := by decide +kernel
theorem ex_ref2 : refusedP (exL []) = ([], [2, 3], 0) := by decide +kernel
theorem ex_pick3 : pickP (exL []) 1 9 = ([0], 0) := by decide +kernel
theorem ex_next2 : nextP (exL [⟨12, 13⟩]) = (0, 1, 0) := by decide +kernel
theorem ex_wrong2 : wrongP (exL []) = ([], 0) := by decide +kernel
end Go.Rt.Ha
/- The walking engine, part 16: the check of one order of a region, over numbers as sets of bits. No conditions. -/
set_option linter.unusedSimpArgs false
set_option linter.unusedVariables false
namespace Go.Rt
open Go.RowKit
variable {r : Option Nat} {P : Program} {ops : Array Oper} {Q : Exit → Act → World → Prop} {rest : List Oper} {n : Nat} {ρ : Nat → Value} {ds : List Deferred} {w w0 : World} {L : List (Nat × Obj)}
def tb (m i : Nat) : Bool := Nat.beq (Nat.land (Nat.shiftRight m i) 1) 1
theorem tb_eq (m i : Nat) : tb m i = m.testBit i := by
  have h : Nat.land (Nat.shiftRight m i) 1 = (m >>> i) % 2 := by
    show (m >>> i) &&& 1 = _
    exact Nat.and_one_is_mod _
  have h2 : m.testBit i = decide ((m >>> i) % 2 = 1) := by rw [Nat.testBit_eq_decide_div_mod_eq, Nat.shiftRight_eq_div_pow]
  unfold tb
  rw [h, h2, Bool.eq_iff_iff, Nat.beq_eq, decide_eq_true_eq]
def orB (m i : Nat) : Nat := Nat.lor m (Nat.shiftLeft 1 i)
theorem tb_orB (m i j : Nat) : tb (orB m i) j = (tb m j || decide (i = j)) := by
  rw [tb_eq, tb_eq]
  show (m ||| (1 <<< i)).testBit j = _
  rw [Nat.testBit_or, Nat.shiftLeft_eq, Nat.one_mul, Nat.testBit_two_pow]
def maskOf : List Nat → Nat
  | [] => 0
  | x :: l => orB (maskOf l) x
theorem tb_mask (j : Nat) : ∀ l : List Nat, tb (maskOf l) j = l.contains j
  | [] => by simp [maskOf, tb_eq]
  | x :: l => by
    simp only [maskOf, tb_orB, tb_mask j l, List.contains_cons]
    rw [Bool.or_comm]
    congr 1
    rw [Bool.eq_iff_iff]; simp only [decide_eq_true_eq, beq_iff_eq, Nat.beq_eq]; exact eq_comm
def subN (a m : Nat) : Bool := Nat.beq (Nat.land a m) a
theorem sub_iff (a m : Nat) : subN a m = true ↔ ∀ j, tb a j = true → tb m j = true := by
  unfold subN
  rw [Nat.beq_eq]
  constructor
  · intro h j hj
    have h1 : (a &&& m).testBit j = a.testBit j := by rw [show a &&& m = a from h]
    rw [Nat.testBit_and] at h1
    rw [tb_eq] at hj ⊢
    rw [hj] at h1; simpa using h1
  · intro h
    show a &&& m = a
    apply Nat.eq_of_testBit_eq
    intro j
    rw [Nat.testBit_and]
    have := h j
    rw [tb_eq, tb_eq] at this
    cases ha : a.testBit j with
    | false => rfl
    | true => rw [this ha]; rfl
/-- What the check needs of an operation. -/
structure OpS where
  nd : Nat
  dst : Option Nat
  lk : Nat
def opS (ops : Array Oper) (o : Oper) : OpS := ⟨maskOf ((o.after.toList.filter (Region.binds .any)).map (·.on)), o.dst, maskOf (o.looksAt ops)⟩
def sumS (ops : Array Oper) : List OpS := ops.toList.map (opS ops)
def readyN : List OpS → Nat → Nat → List Nat
  | [], _, _ => []
  | x :: s, i, m => bif (!tb m i) && subN x.nd m then i :: readyN s (i + 1) m else readyN s (i + 1) m
def apartN (x y : OpS) : Bool :=
  (match x.dst with | some d => !tb y.lk d && y.dst != some d | none => true) && (match y.dst with | some d => !tb x.lk d | none => true)
def freeN (xi : OpS) (i m : Nat) : List OpS → Nat → Bool
  | [], _ => true
  | y :: s, j => (Nat.beq j i || tb m j || tb y.nd i || apartN xi y) && freeN xi i m s (j + 1)
def closeN (s : List OpS) (i : Nat) : Nat → Nat → Nat
  | 0, m => m
  | k + 1, m => closeN s i k ((readyN s 0 m).foldl (fun m j => bif Nat.beq j i then m else orB m j) m)
def memN (i : Nat) : List Nat → Bool
  | [] => false
  | j :: l => Nat.beq j i || memN i l
def onlyN (i : Nat) : List Nat → Bool
  | [j] => Nat.beq j i
  | _ => false
def drawN (s : List OpS) (n : Nat) (late : List Nat) : List (Nat × Nat) → Nat → Bool
  | [], m => match readyN s 0 m with | [] => true | _ => false
  | (i, t) :: rest, m =>
    (match t with
     | 0 => memN i (readyN s 0 m) && (match s[i]? with | some x => freeN x i m s 0 | none => false) && !memN i late
     | 1 => memN i (readyN s 0 m) && (match s[i]? with | some x => freeN x i m s 0 | none => false) && !memN i late &&
        (let c := closeN s i n m; ((readyN s 0 c).all fun j => Nat.beq j i) && !(late.any fun q => tb c q) && !tb c i && subN m c)
     | 2 => onlyN i (readyN s 0 m) && !memN i late
     | _ => onlyN i (readyN s 0 m) && memN i late) && drawN s n late rest (orB m i)
def drawOKN (ops : Array Oper) (late : List Nat) (ord : List (Nat × Nat)) : Bool :=
  Region.noSelect ops && noDefer ops && Nat.beq ord.length ops.size && drawN (sumS ops) ops.size late ord 0
/-- A list of Bools as a number. -/
def Rep (ops : Array Oper) (l : Array Bool) (m : Nat) : Prop := l.size = ops.size ∧ ∀ j, l.getD j false = tb m j
theorem memN_eq (i : Nat) : ∀ l : List Nat, memN i l = l.contains i
  | [] => rfl
  | j :: l => by
    simp only [memN, memN_eq i l, List.contains_cons]
    congr 1
    rw [Bool.eq_iff_iff]; simp only [decide_eq_true_eq, beq_iff_eq, Nat.beq_eq]; exact eq_comm
theorem onlyN_eq {i : Nat} {l : List Nat} (h : onlyN i l = true) : l = [i] := by
  match l with
  | [] => cases h
  | [j] => simp only [onlyN, Nat.beq_eq] at h; rw [h]
  | _ :: _ :: _ => cases h
theorem ready_rep {l : Array Bool} {m : Nat} (h : Rep ops l m) : Region.ready .any ops l = readyN (sumS ops) 0 m := by
  have key : ∀ (s : List Oper) (i : Nat), (∀ k (hk : k < s.length), ops[i + k]? = some s[k]) → (List.range' i s.length).filter (fun j => !l.getD j true && ((ops[j]?).map (·.after.all fun e => !Region.binds .any e || l.getD e.on false)).getD false) = readyN (s.map (opS ops)) i m := by
    intro s
    induction s with
    | nil => intro i _; rfl
    | cons x s ih =>
      intro i hk
      have hx : ops[i]? = some x := hk 0 (by simp)
      have hlt : i < ops.size := (Array.getElem?_eq_some_iff.1 hx).1
      have hih := ih (i + 1) (fun k hk2 => by have := hk (k + 1) (by simpa using hk2); rw [show i + 1 + k = i + (k + 1) by omega]; simpa using this)
      have hT : l.getD i true = tb m i := by
        rw [← h.2 i]
        have : i < l.size := by rw [h.1]; exact hlt
        simp [this]
      have hA : (x.after.all fun e => !Region.binds .any e || l.getD e.on false) = subN (opS ops x).nd m := by
        rw [Bool.eq_iff_iff, sub_iff, Array.all_eq_true_iff_forall_mem]
        unfold opS
        dsimp only
        constructor
        · intro hall j hj
          rw [tb_mask, List.contains_iff_mem] at hj
          obtain ⟨e, he, rfl⟩ := List.mem_map.1 hj
          obtain ⟨he1, he2⟩ := List.mem_filter.1 he
          have := hall e (by simpa using he1)
          rw [he2, h.2] at this
          simpa using this
        · intro hall e he
          rw [h.2]
          cases hb : Region.binds .any e with
          | false => rfl
          | true =>
            have := hall e.on (by rw [tb_mask, List.contains_iff_mem]; exact List.mem_map.2 ⟨e, List.mem_filter.2 ⟨by simpa using he, hb⟩, rfl⟩)
            simpa using this
      rw [List.length_cons, List.range'_succ, List.filter_cons, List.map_cons, readyN, ← hih]
      simp only [hx, hT, Option.map_some, Option.getD_some, hA]
      cases (!tb m i && subN (opS ops x).nd m) <;> rfl
  have := key ops.toList 0 (fun k hk => by rw [Nat.zero_add]; simp at hk ⊢)
  unfold Region.ready sumS
  rw [← this, List.range_eq_range', Array.length_toList]
theorem ready_lt {i m : Nat} (h : memN i (readyN (sumS ops) 0 m) = true) : i < ops.size := by
  have key : ∀ (s : List OpS) (b : Nat), memN i (readyN s b m) = true → i < b + s.length := by
    intro s
    induction s with
    | nil => intro b h; simp [readyN, memN] at h
    | cons x s ih =>
      intro b h
      simp only [readyN] at h
      cases hc : (!tb m b && subN x.nd m) with
      | false => rw [hc] at h; have := ih (b + 1) h; simp only [List.length_cons]; omega
      | true =>
        rw [hc] at h
        simp only [cond_true, memN, Bool.or_eq_true, Nat.beq_eq] at h
        rcases h with h | h
        · simp only [List.length_cons]; omega
        · have := ih (b + 1) h; simp only [List.length_cons]; omega
  have := key _ _ h
  simpa [sumS] using this
theorem rep_set {l : Array Bool} {m i : Nat} (h : Rep ops l m) (hi : i < ops.size) : Rep ops (l.setIfInBounds i true) (orB m i) := by
  refine ⟨by simpa using h.1, fun j => ?_⟩
  rw [tb_orB, ← h.2 j]
  by_cases e : i = j
  · subst e
    have : i < l.size := by rw [h.1]; exact hi
    simp [this]
  · simp [e, Array.getElem?_setIfInBounds_ne e]
theorem apart_rep (x y : Oper) : apartN (opS ops x) (opS ops y) = x.apart ops y := by
  unfold apartN Oper.apart opS
  dsimp only
  congr 1
  · cases x.dst with
    | none => rfl
    | some d => dsimp only; rw [tb_mask]
  · cases y.dst with
    | none => rfl
    | some d => dsimp only; rw [tb_mask]
theorem free_rep {l : Array Bool} {m i : Nat} (h : Rep ops l m) (hf : (match (sumS ops)[i]? with | some x => freeN x i m (sumS ops) 0 | none => false) = true) : Region.free .any ops l i = true := by
  unfold Region.free
  have hsum : (sumS ops)[i]? = (ops[i]?).map (opS ops) := by simp [sumS]
  rw [hsum] at hf
  cases hoi : ops[i]? with
  | none => rw [hoi] at hf; cases hf
  | some oi =>
    rw [hoi] at hf
    dsimp only [Option.map_some] at hf ⊢
    rw [List.all_eq_true]
    intro j hj
    rw [List.mem_range] at hj
    have key : ∀ (s : List Oper) (b : Nat), freeN (opS ops oi) i m (s.map (opS ops)) b = true → ∀ k (hk : k < s.length), (Nat.beq (b + k) i || tb m (b + k) || tb (opS ops s[k]).nd i || apartN (opS ops oi) (opS ops s[k])) = true := by
      intro s
      induction s with
      | nil => intro b _ k hk; simp at hk
      | cons x s ih =>
        intro b hb k hk
        simp only [List.map_cons, freeN] at hb
        rw [Bool.and_eq_true] at hb
        match k with
        | 0 => simpa using hb.1
        | k + 1 =>
          have := ih (b + 1) hb.2 k (by simpa using hk)
          rw [show b + (k + 1) = b + 1 + k by omega]
          simpa using this
    have hk := key ops.toList 0 hf j (by simpa using hj)
    rw [Nat.zero_add] at hk
    have hoj : ops[j]? = some ops[j] := by simp [hj]
    rw [hoj]
    dsimp only
    have hT : l.getD j true = tb m j := by
      rw [← h.2 j]
      have : j < l.size := by rw [h.1]; exact hj
      simp [this]
    rw [hT, ← apart_rep]
    simp only [Bool.or_eq_true, Nat.beq_eq] at hk ⊢
    rcases hk with ((hk | hk) | hk) | hk
    · left; left; simpa using hk
    · left; right; exact hk
    · right; left
      rw [Array.any_eq_true']
      unfold opS at hk
      dsimp only at hk
      rw [tb_mask, List.contains_iff_mem] at hk
      obtain ⟨e, he, hei⟩ := List.mem_map.1 hk
      obtain ⟨he1, he2⟩ := List.mem_filter.1 he
      exact ⟨e, by simpa using he1, by simp [he2, hei]⟩
    · right; right
      simpa using hk
theorem close_rep (i : Nat) : ∀ (k : Nat) {l : Array Bool} {m : Nat}, Rep ops l m → Rep ops (closeB ops i k l) (closeN (sumS ops) i k m)
  | 0, _, _, h => h
  | k + 1, l, m, h => by
    unfold closeB closeN
    refine close_rep i k ?_
    rw [ready_rep h]
    have key : ∀ (xs : List Nat) (l : Array Bool) (m : Nat), (∀ x ∈ xs, x < ops.size) → Rep ops l m → Rep ops (xs.foldl (fun l j => bif Nat.beq j i then l else l.setIfInBounds j true) l) (xs.foldl (fun m j => bif Nat.beq j i then m else orB m j) m) := by
      intro xs
      induction xs with
      | nil => intro l m _ h; exact h
      | cons x xs ih =>
        intro l m hx h
        rw [List.foldl_cons, List.foldl_cons]
        refine ih _ _ (fun y hy => hx y (.tail _ hy)) ?_
        cases Nat.beq x i
        · exact rep_set h (hx x (.head _))
        · exact h
    exact key _ _ _ (fun x hx => ready_lt (by rw [memN_eq, List.contains_iff_mem]; exact hx)) h
theorem draw_rep {late : List Nat} : ∀ (ord : List (Nat × Nat)) {l : Array Bool} {m : Nat}, Rep ops l m → drawN (sumS ops) ops.size late ord m = true → drawB ops late ord l = true
  | [], l, m, h, hd => by
    simp only [drawN] at hd
    simp only [drawB, ready_rep h]
    cases hr : readyN (sumS ops) 0 m with
    | nil => rfl
    | cons _ _ => rw [hr] at hd; cases hd
  | (i, t) :: rest, l, m, h, hd => by
    simp only [drawN, Bool.and_eq_true] at hd
    obtain ⟨h1, h2⟩ := hd
    simp only [drawB, Bool.and_eq_true]
    have hlt : i < ops.size := by
      match t, h1 with
      | 0, h1 => simp only [Bool.and_eq_true] at h1; exact ready_lt h1.1.1
      | 1, h1 => simp only [Bool.and_eq_true] at h1; exact ready_lt h1.1.1.1
      | 2, h1 => simp only [Bool.and_eq_true] at h1; exact ready_lt (m := m) (by rw [onlyN_eq h1.1]; simp [memN])
      | t + 3, h1 => simp only [Bool.and_eq_true] at h1; exact ready_lt (m := m) (by rw [onlyN_eq h1.1]; simp [memN])
    refine ⟨?_, draw_rep rest (rep_set h hlt) h2⟩
    rw [ready_rep h]
    match t, h1 with
    | 0, h1 =>
      simp only [Bool.and_eq_true, memN_eq] at h1 ⊢
      exact ⟨⟨h1.1.1, free_rep h h1.1.2⟩, h1.2⟩
    | 1, h1 =>
      simp only [Bool.and_eq_true, memN_eq] at h1 ⊢
      obtain ⟨⟨⟨a1, a2⟩, a3⟩, ⟨⟨⟨a4, a5⟩, a6⟩, a7⟩⟩ := h1
      have hc := close_rep i ops.size h
      refine ⟨⟨⟨a1, free_rep h a2⟩, a3⟩, ⟨⟨⟨?_, ?_⟩, ?_⟩, ?_⟩⟩
      · rw [ready_rep hc]; exact a4
      · rw [← a5]
        unfold badB
        congr 2
        funext q; exact hc.2 q
      · rw [hc.2]; exact a6
      · rw [List.all_eq_true]
        intro j _
        have := (sub_iff _ _).1 a7 j
        rw [h.2, hc.2]
        cases ht : tb m j with
        | false => rfl
        | true => rw [this ht]; rfl
    | 2, h1 =>
      simp only [Bool.and_eq_true, memN_eq] at h1 ⊢
      exact ⟨by rw [onlyN_eq h1.1]; simp, h1.2⟩
    | t + 3, h1 =>
      simp only [Bool.and_eq_true, memN_eq] at h1 ⊢
      exact ⟨by rw [onlyN_eq h1.1]; simp, h1.2⟩
theorem drawOK_of {late : List Nat} {ord : List (Nat × Nat)} (h : drawOKN ops late ord = true) : drawOK ops late ord = true := by
  unfold drawOKN at h
  unfold drawOK
  simp only [Bool.and_eq_true] at h ⊢
  exact ⟨h.1, draw_rep ord ⟨by simp, fun j => by
    have : tb 0 j = false := by rw [tb_eq]; exact Nat.zero_testBit j
    rw [this]
    by_cases hj : j < ops.size
    · simp [hj]
    · simp [hj]⟩ h.2⟩
end Go.Rt
/- Walks of this seat, printed by gen.py over the engine: what each function returns, in whatever world. No conditions but those of each contract. -/
set_option linter.unusedVariables false
set_option linter.unusedSimpArgs false
set_option maxRecDepth 20000
namespace Go.Proofs
open Go.Rt Go.Rt.Ha
attribute [local irreducible] WL WC Con Yd At Ats Sl Agree DW
theorem Try_S_fb3 (x0 : Int) (x1 : Int) (w : World) : (Instr.build 34 [(0, .int .i64 x0), (1, .int .i64 x1)].toArray).run Try.prog w = .ok (.agg #[.int .i64 x0, .int .i64 x1]) w := by kernel_rfl
theorem Try_S_fb4 (x0 : ByteArray) (x1 : Int) (x2 : Int) (w : World) : (Instr.build 79 [(0, .string x0), (1, .int .i64 x1), (2, .int .i64 x2)].toArray).run Try.prog w = .ok (.agg #[.string x0, .int .i64 x1, .int .i64 x2]) w := by kernel_rfl
theorem Try_S_fb5 (x0 : ByteArray) (x1 : Int) (x2 : Int) (x3 : ByteArray) (x4 : Int) (x5 : Int) (x6 : ByteArray) (x7 : Int) (x8 : Int) (w : World) : (Instr.buildSlice 22 3 [(0, .agg #[.string x0, .int .i64 x1, .int .i64 x2]), (1, .agg #[.string x3, .int .i64 x4, .int .i64 x5]), (2, .agg #[.string x6, .int .i64 x7, .int .i64 x8])].toArray).run Try.prog w = .ok (.slice (some ⟨w.heap.size, 0, none⟩) 3 3) (w.alloc (Go.Rt.blk 79 [.string x0, .int .i64 x1, .int .i64 x2, .string x3, .int .i64 x4, .int .i64 x5, .string x6, .int .i64 x7, .int .i64 x8])) := by kernel_rfl
theorem Try_S_fb6 (x0 : Int) (x1 : Int) (w : World) : (Instr.build 81 [(0, .agg #[.int .i64 x0, .int .i64 x1])].toArray).run Try.prog w = .ok (.agg #[.int .i64 x0, .int .i64 x1, .int .i64 0, .int .i64 0]) w := by kernel_rfl
theorem Try_S_fb7 (x0 : Int) (x1 : Int) (x2 : Int) (x3 : Int) (w : World) : (Instr.build 81 [(0, .agg #[.int .i64 x0, .int .i64 x1]), (1, .agg #[.int .i64 x2, .int .i64 x3])].toArray).run Try.prog w = .ok (.agg #[.int .i64 x0, .int .i64 x1, .int .i64 x2, .int .i64 x3]) w := by kernel_rfl
theorem Try_S_fb8 (x0 : Int) (x1 : Int) (x2 : Int) (x3 : Int) (x4 : Int) (x5 : Int) (x6 : Int) (x7 : Int) (x8 : Int) (x9 : Int) (x10 : Int) (x11 : Int) (x12 : Int) (x13 : Int) (x14 : Int) (x15 : Int) (w : World) : (Instr.buildSlice 23 4 [(0, .agg #[.int .i64 x0, .int .i64 x1, .int .i64 x2, .int .i64 x3]), (1, .agg #[.int .i64 x4, .int .i64 x5, .int .i64 x6, .int .i64 x7]), (2, .agg #[.int .i64 x8, .int .i64 x9, .int .i64 x10, .int .i64 x11]), (3, .agg #[.int .i64 x12, .int .i64 x13, .int .i64 x14, .int .i64 x15])].toArray).run Try.prog w = .ok (.slice (some ⟨w.heap.size, 0, none⟩) 4 4) (w.alloc (Go.Rt.blk 81 [.int .i64 x0, .int .i64 x1, .int .i64 x2, .int .i64 x3, .int .i64 x4, .int .i64 x5, .int .i64 x6, .int .i64 x7, .int .i64 x8, .int .i64 x9, .int .i64 x10, .int .i64 x11, .int .i64 x12, .int .i64 x13, .int .i64 x14, .int .i64 x15])) := by kernel_rfl
theorem Try_S_fb9 (x0 : Int) (x1 : Int) (w : World) : (Instr.build 51 [(0, .int .i64 x0), (1, .int .i64 x1)].toArray).run Try.prog w = .ok (.agg #[.int .i64 x0, .int .i64 x1]) w := by kernel_rfl
theorem Try_S_fb10 (x0 : Int) (x1 : Int) (w : World) : (Instr.buildSlice 24 1 [(0, .agg #[.int .i64 x0, .int .i64 x1])].toArray).run Try.prog w = .ok (.slice (some ⟨w.heap.size, 0, none⟩) 1 1) (w.alloc (Go.Rt.blk 51 [.int .i64 x0, .int .i64 x1])) := by kernel_rfl
theorem Try_info51 : Try.prog.info? 51 = some Try.t51 := by kernel_rfl
theorem Try_S_fb12 (x0 : Option Addr) (l0 c0 : Nat) (x1 : Option Addr) (l1 c1 : Nat) (x2 : Option Addr) (l2 c2 : Nat) (w : World) : (Instr.build 26 [(0, .slice x0 l0 c0), (1, .slice x1 l1 c1), (2, .slice x2 l2 c2)].toArray).run Try.prog w = .ok (.agg #[.slice x0 l0 c0, .slice x1 l1 c1, .slice x2 l2 c2]) w := by kernel_rfl
theorem Try_flat34 : flatInts Try.prog 34 2 = true := by kernel_rfl
theorem Try_S_fb14 (x0 : Int) (x1 : Int) (x2 : Int) (w : World) : (Instr.buildSlice 37 3 [(0, .int .i64 x0), (1, .int .i64 x1), (2, .int .i64 x2)].toArray).run Try.prog w = .ok (.slice (some ⟨w.heap.size, 0, none⟩) 3 3) (w.alloc (Go.Rt.blk 3 [.int .i64 x0, .int .i64 x1, .int .i64 x2])) := by kernel_rfl
theorem Try_S_fb15 (x0 : Int) (w : World) : (Instr.buildSlice 37 1 [(0, .int .i64 x0)].toArray).run Try.prog w = .ok (.slice (some ⟨w.heap.size, 0, none⟩) 1 1) (w.alloc (Go.Rt.blk 3 [.int .i64 x0])) := by kernel_rfl
theorem Try_S_fb16 (x0 : Int) (x1 : Int) (w : World) : (Instr.buildSlice 37 2 [(0, .int .i64 x0), (1, .int .i64 x1)].toArray).run Try.prog w = .ok (.slice (some ⟨w.heap.size, 0, none⟩) 2 2) (w.alloc (Go.Rt.blk 3 [.int .i64 x0, .int .i64 x1])) := by kernel_rfl
theorem ats_of {w0 w : World} {L : List (Nat × Obj)} {i b : Nat} {t : TypeId} {cs vs : List Value} (hs : St w0 w L) (hi : L[i]? = some (b, blk t cs)) (h : (cs.drop 0).take vs.length = vs) : Ats w0 L b 0 vs := ats_own hi h
theorem gen_Z {w0 w : World} {L : List (Nat × Obj)} (hs : St w0 w L) : ∃ Z, Z = L ∧ St w0 w Z := ⟨L, rfl, hs⟩
theorem con_true {k : FuncId} {args : List Value} {w : World} {x : Bool} {S : World → Prop} (h : Con Try.prog k args w fun v w' => v = .bool x ∧ S w') (hx : x = true) : Con Try.prog k args w fun v w' => v = .bool true ∧ S w' := by subst hx; exact h
theorem con_false {k : FuncId} {args : List Value} {w : World} {x : Bool} {S : World → Prop} (h : Con Try.prog k args w fun v w' => v = .bool x ∧ S w') (hx : x = false) : Con Try.prog k args w fun v w' => v = .bool false ∧ S w' := by subst hx; exact h
theorem own_rows {w0 : World} {v : Value} {t : TypeId} {sz n : Nat} {xs : List Value} {B : List (Nat × Obj)} {rows : List (List Value)} (h : Rt.Own v t sz n xs B) (hr : ∀ row ∈ rows, row.length = sz) (hn : rows.length = n) (hx : xs = rows.flatten) (h0 : 0 < n) : ∃ a c, v = .slice a n c ∧ Sl w0 B a sz rows ∧ n ≤ c := by
  obtain ⟨a, c, hv, hs⟩ := h.sl (w0 := w0) hr hn hx []
  rw [List.append_nil] at hs
  subst hn
  refine ⟨a, c, hv, hs, ?_⟩
  rcases h.2 with ⟨_, h3, _⟩ | ⟨b, cap, cs, h2, _, h4, _⟩
  · omega
  · rw [h2] at hv; injection hv with _ _ h5; omega
theorem crows_one (m : List Count) : ∀ row ∈ crows m, ∀ u ∈ row, u.oneCell' = true := by
  intro row hr u hu
  obtain ⟨c, _, rfl⟩ := List.mem_map.1 hr
  simp only [Count.cells, List.mem_cons, List.not_mem_nil, or_false] at hu
  rcases hu with rfl | rfl <;> rfl
theorem ex_lin {w0 : World} {B : List (Nat × Obj)} {m : List Count} {bb bg : Nat} {a : Option Addr} {c : Nat} (hm : m.length ≤ 1) (hc : Sl w0 B a 2 (crows (⟨3, 18⟩ :: m))) (hcc : 1 + m.length ≤ c) :
    LIn w0 ((bb, blk 81 (brows (exL m).bunches).flatten) :: (bg, blk 79 (grows (exL m).grades).flatten) :: B) (exL m) ⟨some ⟨bg, 0, none⟩, 3, some ⟨bb, 0, none⟩, 4, a, c⟩ where
  g := sl_own (i := 1) rfl (by intro row h; obtain ⟨q, _, rfl⟩ := List.mem_map.1 h; rfl) rfl
  b := sl_own (i := 0) rfl (by intro row h; obtain ⟨q, _, rfl⟩ := List.mem_map.1 h; rfl) rfl
  c := hc.cons.cons
  lg := by simp [exL]
  lb := by simp [exL]
  lc := by simp [exL]; omega
  cg := by simp [exL]
  cb := by simp [exL]
  cc := by simp [exL]; omega
  ng := by intro q hq; simp only [exL, List.mem_cons, List.not_mem_nil, or_false] at hq; rcases hq with rfl | rfl | rfl <;> (dsimp only; decide)
theorem c37 {w0 w : World} {F : List (Nat × Obj)} (x y : Int) (hs : St w0 w F) :
  Con Try.prog 37 [.int .i64 x, .int .i64 y] w fun v w' => v = .agg #[.int .i64 x, .int .i64 y] ∧ St w0 w' F := by
  refine con_of_wc (n := 8) Try.func37 rfl rfl (Nat.le_of_ble_eq_true rfl) ?_
  refine w_seq (fun K2 hK1 => ?_)
  refine w_region ?_
  refine w_alloc (cs := [_, _]) want_none Try.zeroValue34 rfl hs (fun b3 w4 hs5 => ?_)
  refine w_nil ?_
  refine q_then (hK1 _ _ ?_)
  refine w_seq (fun K7 hK6 => ?_)
  refine w_region ?_
  refine w_pure want_none (y_move (v := .int _ _) rfl rfl) rfl ?_
  refine w_pure want_none (y_move (v := .int _ _) rfl rfl) rfl ?_
  refine w_pure want_none (y_build (ps := [(0, _), (1, _)]) (pv := [(0, .int _ _), (1, .int _ _)]) rfl rfl (fun w => Try_S_fb3 _ _ w)) rfl ?_
  refine w_store (i := 0) (v := .agg #[.int _ _, .int _ _]) (vs := [_, _]) want_none Try.sizeOf34 rfl rfl rfl rfl rfl (by simp [Value.oneCell']) hs5 rfl (Nat.le_of_ble_eq_true rfl) (fun w8 hs9 => ?_)
  refine w_nil ?_
  refine q_then (hK6 _ _ ?_)
  refine w_ret ?_
  refine q_ret (l := [.cell 4 34]) (vs := [_]) rfl ⟨⟨rfl, _, rfl, run_loadVarN (vs := [_, _]) Try.isAgg34 Try.sizeOf34 hs9 (ats_own (i := 0) (vs := [_, _]) rfl rfl)⟩, trivial⟩ ?_
  exact ⟨rfl, hs9.tail⟩

theorem c36 {w0 w : World} {F : List (Nat × Obj)} (a : Option Addr) (c : Nat) (m : List Count) (hm : m.length ≤ 1) (ha : Sl w0 F a 2 (crows m)) (hn : a = none → c = 0) (hs : St w0 w F) :
  Con Try.prog 36 [.slice a m.length c] w fun v w' => ∃ p B, v = .agg ((exL m).cells p).toArray ∧ LIn w0 B (exL m) p ∧ St w0 w' (B ++ F) := by
  refine con_of_wc (n := 24) Try.func36 rfl rfl (Nat.le_of_ble_eq_true rfl) ?_
  refine w_seq (fun K2 hK1 => ?_)
  refine w_region ?_
  refine w_alloc (cs := [_, _, _]) want_none Try.zeroValue26 rfl hs (fun b3 w4 hs5 => ?_)
  refine w_nil ?_
  refine q_then (hK1 _ _ ?_)
  refine w_seq (fun K7 hK6 => ?_)
  refine w_region ?_
  refine w_pure want_none (y_build (ps := [(0, _), (1, _), (2, _)]) (pv := [(0, .string _), (1, .int _ _), (2, .int _ _)]) rfl rfl (fun w => Try_S_fb4 _ _ _ w)) rfl ?_
  refine w_pure want_none (y_build (ps := [(0, _), (1, _), (2, _)]) (pv := [(0, .string _), (1, .int _ _), (2, .int _ _)]) rfl rfl (fun w => Try_S_fb4 _ _ _ w)) rfl ?_
  refine w_pure want_none (y_build (ps := [(0, _), (1, _), (2, _)]) (pv := [(0, .string _), (1, .int _ _), (2, .int _ _)]) rfl rfl (fun w => Try_S_fb4 _ _ _ w)) rfl ?_
  refine w_bslice (ps := [(0, _), (1, _), (2, _)]) (pv := [(0, .agg #[.string _, .int _ _, .int _ _]), (1, .agg #[.string _, .int _ _, .int _ _]), (2, .agg #[.string _, .int _ _, .int _ _])]) (cs := [_, _, _, _, _, _, _, _, _]) want_none rfl rfl (fun w => Try_S_fb5 _ _ _ _ _ _ _ _ _ w) hs5 (fun b8 w9 hs10 => ?_)
  refine w_call want_none Try.call37 rfl rfl rfl rfl (c37 _ _ hs10) ?_
  rintro _ w12 ⟨rfl, hs13⟩
  refine w_pure want_none (y_build (ps := [(0, _)]) (pv := [(0, .agg #[.int _ _, .int _ _])]) rfl rfl (fun w => Try_S_fb6 _ _ w)) rfl ?_
  refine w_call want_none Try.call37 rfl rfl rfl rfl (c37 _ _ hs13) ?_
  rintro _ w15 ⟨rfl, hs16⟩
  refine w_call want_none Try.call37 rfl rfl rfl rfl (c37 _ _ hs16) ?_
  rintro _ w18 ⟨rfl, hs19⟩
  refine w_pure want_none (y_build (ps := [(0, _), (1, _)]) (pv := [(0, .agg #[.int _ _, .int _ _]), (1, .agg #[.int _ _, .int _ _])]) rfl rfl (fun w => Try_S_fb7 _ _ _ _ w)) rfl ?_
  refine w_call want_none Try.call37 rfl rfl rfl rfl (c37 _ _ hs19) ?_
  rintro _ w21 ⟨rfl, hs22⟩
  refine w_call want_none Try.call37 rfl rfl rfl rfl (c37 _ _ hs22) ?_
  rintro _ w24 ⟨rfl, hs25⟩
  refine w_pure want_none (y_build (ps := [(0, _), (1, _)]) (pv := [(0, .agg #[.int _ _, .int _ _]), (1, .agg #[.int _ _, .int _ _])]) rfl rfl (fun w => Try_S_fb7 _ _ _ _ w)) rfl ?_
  refine w_call want_none Try.call37 rfl rfl rfl rfl (c37 _ _ hs25) ?_
  rintro _ w27 ⟨rfl, hs28⟩
  refine w_call want_none Try.call37 rfl rfl rfl rfl (c37 _ _ hs28) ?_
  rintro _ w30 ⟨rfl, hs31⟩
  refine w_pure want_none (y_build (ps := [(0, _), (1, _)]) (pv := [(0, .agg #[.int _ _, .int _ _]), (1, .agg #[.int _ _, .int _ _])]) rfl rfl (fun w => Try_S_fb7 _ _ _ _ w)) rfl ?_
  refine w_bslice (ps := [(0, _), (1, _), (2, _), (3, _)]) (pv := [(0, .agg #[.int _ _, .int _ _, .int _ _, .int _ _]), (1, .agg #[.int _ _, .int _ _, .int _ _, .int _ _]), (2, .agg #[.int _ _, .int _ _, .int _ _, .int _ _]), (3, .agg #[.int _ _, .int _ _, .int _ _, .int _ _])]) (cs := [_, _, _, _, _, _, _, _, _, _, _, _, _, _, _, _]) want_none rfl rfl (fun w => Try_S_fb8 _ _ _ _ _ _ _ _ _ _ _ _ _ _ _ _ w) hs31 (fun b32 w33 hs34 => ?_)
  refine w_pure want_none (y_build (ps := [(0, _), (1, _)]) (pv := [(0, .int _ _), (1, .int _ _)]) rfl rfl (fun w => Try_S_fb9 _ _ w)) rfl ?_
  refine w_bslice (ps := [(0, _)]) (pv := [(0, .agg #[.int _ _, .int _ _])]) (cs := [_, _]) want_none rfl rfl (fun w => Try_S_fb10 _ _ w) hs34 (fun b35 w36 hs37 => ?_)
  refine w_pure want_none (y_move (v := .slice _ _ _) rfl rfl) rfl ?_
  refine w_append (X := ([])) (B := [_]) (rows := crows m) (sz := 2) (bytes := 16) want_none Try.underlying24 Try_info51 rfl rfl rfl rfl rfl rfl rfl rfl rfl hs37 (own_lit rfl (by simp [maxLen])) ha.cons.cons.cons.cons (by simp [crows]) hn (crows_one m) (by simp only [maxLen]; omega) (by omega) (fun v38 w39 B40 ho41 hs42 => ?_)
  replace hs42 := (show St _ _ (B40 ++ (_ :: _ :: _ :: F)) from hs42)
  have hs43 := St.perm (L := B40 ++ ([_, _, _] ++ F)) hs42 (perm_mid B40 [_, _, _] F)
  replace hs43 := (show St _ _ (_ :: _ :: _ :: (B40 ++ F)) from hs43)
  obtain ⟨aC, cC, rfl, hslC, hcC⟩ := own_rows (w0 := w0) (rows := crows (⟨3, 18⟩ :: m)) ho41 (by intro row h; obtain ⟨q, _, rfl⟩ := List.mem_map.1 h; rfl) (by simp [crows]; omega) (by simp [crows, Count.cells]) (by omega)
  refine w_pure want_none (y_build (ps := [(0, _), (1, _), (2, _)]) (pv := [(0, .slice _ _ _), (1, .slice _ _ _), (2, .slice _ _ _)]) rfl rfl (fun w => Try_S_fb12 _ _ _ _ _ _ _ _ _ w)) rfl ?_
  refine w_store (i := 2) (v := .agg #[.slice _ _ _, .slice _ _ _, .slice _ _ _]) (vs := [_, _, _]) want_none Try.sizeOf26 rfl rfl rfl rfl rfl (by simp [Value.oneCell']) hs43 rfl (Nat.le_of_ble_eq_true rfl) (fun w44 hs45 => ?_)
  refine w_nil ?_
  refine q_then (hK6 _ _ ?_)
  refine w_ret ?_
  refine q_ret (l := [.cell 2 26]) (vs := [_]) rfl ⟨⟨rfl, _, rfl, run_loadVarN (vs := [_, _, _]) Try.isAgg26 Try.sizeOf26 hs45 (ats_own (i := 2) (vs := [_, _, _]) rfl rfl)⟩, trivial⟩ ?_
  exact ⟨⟨_, 3, _, 4, aC, cC⟩, _ :: _ :: B40, by show _ = Value.agg #[_, _, .slice aC (exL m).counts.length cC]; rw [show (exL m).counts.length = 1 + m.length by simp [exL]; omega]; rfl, ex_lin hm hslC hcC, (St.perm (L := [_, _] ++ ([_] ++ (B40 ++ F))) hs45 (perm_mid [_, _] [_] _)).tail⟩

theorem c20 {w0 w : World} {F : List (Nat × Obj)}  (hs : St w0 w F) :
  Con Try.prog 20 [] w fun v w' => v = .bool true ∧ St w0 w' F := by
  refine con_of_wc (n := 162) Try.func20 rfl rfl (Nat.le_of_ble_eq_true rfl) ?_
  refine w_seq (fun K2 hK1 => ?_)
  refine w_region ?_
  refine w_pure want_none (y_assign (v := _) rfl rfl) rfl ?_
  refine w_nil ?_
  refine q_then (hK1 _ _ ?_)
  refine w_seq (fun K4 hK3 => ?_)
  refine w_region ?_
  refine w_call want_none Try.call36 rfl rfl rfl rfl (c36 none 0 [] (by decide) (Sl.nil _ _) (fun _ => rfl) hs) ?_
  rintro _ w6 ⟨p1, L1, rfl, hq1, hs7⟩
  replace hs7 := (show St _ _ (L1 ++ (F)) from hs7)
  refine w_pure want_none (y_build (ps := [(0, _), (1, _)]) (pv := [(0, .int _ _), (1, .int _ _)]) rfl rfl (fun w => Try_S_fb9 _ _ w)) rfl ?_
  refine w_bslice (ps := [(0, _)]) (pv := [(0, .agg #[.int _ _, .int _ _])]) (cs := [_, _]) want_none rfl rfl (fun w => Try_S_fb10 _ _ w) hs7 (fun b8 w9 hs10 => ?_)
  refine w_call want_none Try.call36 rfl rfl rfl rfl (c36 _ _ [⟨12, 13⟩] (by decide) (sl_own (i := 0) (rows := [[_, _]]) rfl (by simp) rfl) (by simp) hs10) ?_
  rintro _ w12 ⟨p2, L2, rfl, hq2, hs13⟩
  replace hs13 := (show St _ _ (L2 ++ (_ :: L1 ++ (F))) from hs13)
  refine w_pure want_none (y_build (ps := [(0, _), (1, _)]) (pv := [(0, .int _ _), (1, .int _ _)]) rfl rfl (fun w => Try_S_fb9 _ _ w)) rfl ?_
  refine w_bslice (ps := [(0, _)]) (pv := [(0, .agg #[.int _ _, .int _ _])]) (cs := [_, _]) want_none rfl rfl (fun w => Try_S_fb10 _ _ w) hs13 (fun b14 w15 hs16 => ?_)
  refine w_call want_none Try.call36 rfl rfl rfl rfl (c36 _ _ [⟨1, 8⟩] (by decide) (sl_own (i := 0) (rows := [[_, _]]) rfl (by simp) rfl) (by simp) hs16) ?_
  rintro _ w18 ⟨p3, L3, rfl, hq3, hs19⟩
  replace hs19 := (show St _ _ (L3 ++ (_ :: L2 ++ (_ :: L1 ++ (F)))) from hs19)
  refine w_alloc (cs := [_, _, _]) want_none Try.zeroValue26 rfl hs19 (fun b20 w21 hs22 => ?_)
  refine w_alloc (cs := [_, _, _]) want_none Try.zeroValue26 rfl hs22 (fun b23 w24 hs25 => ?_)
  refine w_alloc (cs := [_, _, _]) want_none Try.zeroValue26 rfl hs25 (fun b26 w27 hs28 => ?_)
  refine w_store (i := 2) (v := .agg #[.slice _ _ _, .slice _ _ _, .slice _ _ _]) (vs := [_, _, _]) want_none Try.sizeOf26 rfl rfl rfl rfl rfl (by simp [Value.oneCell']) hs28 rfl (Nat.le_of_ble_eq_true rfl) (fun w29 hs30 => ?_)
  refine w_store (i := 1) (v := .agg #[.slice _ _ _, .slice _ _ _, .slice _ _ _]) (vs := [_, _, _]) want_none Try.sizeOf26 rfl rfl rfl rfl rfl (by simp [Value.oneCell']) hs30 rfl (Nat.le_of_ble_eq_true rfl) (fun w31 hs32 => ?_)
  refine w_store (i := 0) (v := .agg #[.slice _ _ _, .slice _ _ _, .slice _ _ _]) (vs := [_, _, _]) want_none Try.sizeOf26 rfl rfl rfl rfl rfl (by simp [Value.oneCell']) hs32 rfl (Nat.le_of_ble_eq_true rfl) (fun w33 hs34 => ?_)
  refine w_nil ?_
  refine q_then (hK3 _ _ ?_)
  refine w_seq (fun K36 hK35 => ?_)
  obtain ⟨Z, hZ, hsZ⟩ := gen_Z hs34
  have hP1 : Ats w0 Z b20 0 ((exL []).cells p1) := by rw [hZ]; exact ats_own (i := 2) (vs := (exL []).cells p1) rfl rfl
  have hM1 : LIn w0 Z (exL []) p1 := by rw [hZ]; exact LIn.mono hq1 (fun w h => h.tail.tail.tail.drop.tail.drop.tail.front)
  have hP2 : Ats w0 Z b23 0 ((exL [⟨12, 13⟩]).cells p2) := by rw [hZ]; exact ats_own (i := 1) (vs := (exL [⟨12, 13⟩]).cells p2) rfl rfl
  have hM2 : LIn w0 Z (exL [⟨12, 13⟩]) p2 := by rw [hZ]; exact LIn.mono hq2 (fun w h => h.tail.tail.tail.drop.tail.front)
  have hP3 : Ats w0 Z b26 0 ((exL [⟨1, 8⟩]).cells p3) := by rw [hZ]; exact ats_own (i := 0) (vs := (exL [⟨1, 8⟩]).cells p3) rfl rfl
  have hM3 : LIn w0 Z (exL [⟨1, 8⟩]) p3 := by rw [hZ]; exact LIn.mono hq3 (fun w h => h.tail.tail.tail.front)
  refine w_region ?_
  refine w_pure want_none (y_loadN (vs := [_, _, _]) Try.isAgg26 Try.sizeOf26 hsZ rfl rfl hP1) rfl ?_
  refine w_call want_none Try.call21 rfl rfl rfl rfl ((c21 (exL []) p1 hM1 0 hsZ).mono (fun v w' h => by rw [ex_hands1] at h; exact h)) ?_
  rintro _ w38 ⟨rfl, hs39⟩
  refine w_pure want_none (y_move (v := .tuple _) rfl rfl) rfl ?_
  refine w_pure want_none (y_extract (v := .agg _) rfl rfl rfl) rfl ?_
  refine w_pure want_none (y_extract (v := .int _ _) rfl rfl rfl) rfl ?_
  refine w_alloc (cs := [_, _]) want_none Try.zeroValue34 rfl hs39 (fun b40 w41 hs42 => ?_)
  refine w_store (i := 0) (v := .agg #[.int _ _, .int _ _]) (vs := [_, _]) want_none Try.sizeOf34 rfl rfl rfl rfl rfl (by simp [Value.oneCell']) hs42 rfl (Nat.le_of_ble_eq_true rfl) (fun w43 hs44 => ?_)
  refine w_pure want_none (y_assign (v := .int _ _) rfl rfl) rfl ?_
  refine w_nil ?_
  refine q_then (hK35 _ _ ?_)
  refine w_seq (fun K46 hK45 => ?_)
  have hx4 := ats_of (i := 0) (vs := [_, _]) hs44 rfl rfl
  refine w_region ?_
  refine w_pure want_none (y_loadN (vs := [_, _, _]) Try.isAgg26 Try.sizeOf26 hs44.tail rfl rfl hP1) rfl ?_
  refine w_call want_none Try.call23 rfl rfl rfl rfl ((c23 (exL []) p1 hM1.cons 2 hs44).mono (fun v w' h => by rw [ex_grade1] at h; exact h)) ?_
  rintro _ w48 ⟨B1, a1, c1, rfl, hr1, hs49⟩
  replace hs49 := (show St _ _ (B1 ++ (_ :: Z)) from hs49)
  refine w_pure want_none (y_move (v := .tuple _) rfl rfl) rfl ?_
  refine w_pure want_none (y_extract (v := .slice _ _ _) rfl rfl rfl) rfl ?_
  refine w_pure want_none (y_extract (v := .int _ _) rfl rfl rfl) rfl ?_
  refine w_pure want_none (y_assign (v := .slice _ _ _) rfl rfl) rfl ?_
  refine w_pure want_none (y_assign (v := .int _ _) rfl rfl) rfl ?_
  refine w_nil ?_
  refine q_then (hK45 _ _ ?_)
  refine w_seq (fun K51 hK50 => ?_)
  refine w_region ?_
  refine w_pure want_none (y_loadN (vs := [_, _, _]) Try.isAgg26 Try.sizeOf26 hs49.drop.tail rfl rfl hP1) rfl ?_
  refine w_call want_none Try.call26 rfl rfl rfl rfl ((c26 (exL []) p1 hM1.cons.app 0 hs49).mono (fun v w' h => by rw [ex_total1] at h; exact h)) ?_
  rintro _ w53 ⟨rfl, hs54⟩
  refine w_pure want_none (y_move (v := .tuple _) rfl rfl) rfl ?_
  refine w_pure want_none (y_extract (v := .agg _) rfl rfl rfl) rfl ?_
  refine w_pure want_none (y_extract (v := .int _ _) rfl rfl rfl) rfl ?_
  refine w_alloc (cs := [_, _]) want_none Try.zeroValue34 rfl hs54 (fun b55 w56 hs57 => ?_)
  refine w_store (i := 0) (v := .agg #[.int _ _, .int _ _]) (vs := [_, _]) want_none Try.sizeOf34 rfl rfl rfl rfl rfl (by simp [Value.oneCell']) hs57 rfl (Nat.le_of_ble_eq_true rfl) (fun w58 hs59 => ?_)
  refine w_pure want_none (y_assign (v := .int _ _) rfl rfl) rfl ?_
  refine w_nil ?_
  refine q_then (hK50 _ _ ?_)
  refine w_seq (fun K61 hK60 => ?_)
  have hx8 := ats_of (i := 0) (vs := [_, _]) hs59 rfl rfl
  refine w_region ?_
  refine w_pure want_none (y_loadN (vs := [_, _, _]) Try.isAgg26 Try.sizeOf26 hs59.tail.drop.tail rfl rfl hP2) rfl ?_
  refine w_call want_none Try.call28 rfl rfl rfl rfl ((c28 (exL [⟨12, 13⟩]) p2 hM2.cons.app.cons hs59).mono (fun v w' h => by rw [ex_ref1] at h; exact h)) ?_
  rintro _ w63 ⟨B2, a2, c2, a3, c3, rfl, hr2, hr3, hs64⟩
  replace hs64 := (show St _ _ (B2 ++ (_ :: B1 ++ (_ :: Z))) from hs64)
  refine w_pure want_none (y_move (v := .tuple _) rfl rfl) rfl ?_
  refine w_pure want_none (y_extract (v := .slice _ _ _) rfl rfl rfl) rfl ?_
  refine w_pure want_none (y_extract (v := .slice _ _ _) rfl rfl rfl) rfl ?_
  refine w_pure want_none (y_extract (v := .int _ _) rfl rfl rfl) rfl ?_
  refine w_pure want_none (y_assign (v := .slice _ _ _) rfl rfl) rfl ?_
  refine w_pure want_none (y_assign (v := .slice _ _ _) rfl rfl) rfl ?_
  refine w_pure want_none (y_assign (v := .int _ _) rfl rfl) rfl ?_
  refine w_nil ?_
  refine q_then (hK60 _ _ ?_)
  refine w_seq (fun K66 hK65 => ?_)
  refine w_region ?_
  refine w_pure want_none (y_loadN (vs := [_, _, _]) Try.isAgg26 Try.sizeOf26 hs64.drop.tail.drop.tail rfl rfl hP1) rfl ?_
  refine w_call want_none Try.call30 rfl rfl rfl rfl ((c30 (exL []) p1 hM1.cons.app.cons.app 1 18 hs64).mono (fun v w' h => by rw [ex_pick1] at h; exact h)) ?_
  rintro _ w68 ⟨B4, a4, c4, rfl, hr4, hs69⟩
  replace hs69 := (show St _ _ (B4 ++ (B2 ++ (_ :: B1 ++ (_ :: Z)))) from hs69)
  refine w_pure want_none (y_move (v := .tuple _) rfl rfl) rfl ?_
  refine w_pure want_none (y_extract (v := .slice _ _ _) rfl rfl rfl) rfl ?_
  refine w_pure want_none (y_extract (v := .int _ _) rfl rfl rfl) rfl ?_
  refine w_pure want_none (y_assign (v := .slice _ _ _) rfl rfl) rfl ?_
  refine w_pure want_none (y_assign (v := .int _ _) rfl rfl) rfl ?_
  refine w_nil ?_
  refine q_then (hK65 _ _ ?_)
  refine w_seq (fun K71 hK70 => ?_)
  refine w_region ?_
  refine w_pure want_none (y_loadN (vs := [_, _, _]) Try.isAgg26 Try.sizeOf26 hs69.drop.drop.tail.drop.tail rfl rfl hP1) rfl ?_
  refine w_call want_none Try.call30 rfl rfl rfl rfl ((c30 (exL []) p1 hM1.cons.app.cons.app.app 1 19 hs69).mono (fun v w' h => by rw [ex_pick2] at h; exact h)) ?_
  rintro _ w73 ⟨B5, a5, c5, rfl, hr5, hs74⟩
  replace hs74 := (show St _ _ (B5 ++ (B4 ++ (B2 ++ (_ :: B1 ++ (_ :: Z))))) from hs74)
  refine w_pure want_none (y_move (v := .tuple _) rfl rfl) rfl ?_
  refine w_pure want_none (y_extract (v := .slice _ _ _) rfl rfl rfl) rfl ?_
  refine w_pure want_none (y_extract (v := .int _ _) rfl rfl rfl) rfl ?_
  refine w_pure want_none (y_assign (v := .slice _ _ _) rfl rfl) rfl ?_
  refine w_pure want_none (y_assign (v := .int _ _) rfl rfl) rfl ?_
  refine w_nil ?_
  refine q_then (hK70 _ _ ?_)
  refine w_seq (fun K76 hK75 => ?_)
  refine w_region ?_
  refine w_pure want_none (y_loadN (vs := [_, _, _]) Try.isAgg26 Try.sizeOf26 hs74.drop.drop.drop.tail.drop.tail rfl rfl hP1) rfl ?_
  refine w_call want_none Try.call32 rfl rfl rfl rfl ((c32 (exL []) p1 hM1.cons.app.cons.app.app.app hs74).mono (fun v w' h => by rw [ex_next1] at h; exact h)) ?_
  rintro _ w78 ⟨rfl, hs79⟩
  refine w_pure want_none (y_move (v := .tuple _) rfl rfl) rfl ?_
  refine w_pure want_none (y_extract (v := .int _ _) rfl rfl rfl) rfl ?_
  refine w_pure want_none (y_extract (v := .int _ _) rfl rfl rfl) rfl ?_
  refine w_pure want_none (y_extract (v := .int _ _) rfl rfl rfl) rfl ?_
  refine w_pure want_none (y_assign (v := .int _ _) rfl rfl) rfl ?_
  refine w_pure want_none (y_assign (v := .int _ _) rfl rfl) rfl ?_
  refine w_pure want_none (y_assign (v := .int _ _) rfl rfl) rfl ?_
  refine w_nil ?_
  refine q_then (hK75 _ _ ?_)
  refine w_seq (fun K81 hK80 => ?_)
  refine w_region ?_
  refine w_pure want_none (y_loadN (vs := [_, _, _]) Try.isAgg26 Try.sizeOf26 hs79.drop.drop.drop.tail.drop.tail rfl rfl hP3) rfl ?_
  refine w_call want_none Try.call34 rfl rfl rfl rfl ((c34 (exL [⟨1, 8⟩]) p3 hM3.cons.app.cons.app.app.app hs79).mono (fun v w' h => by rw [ex_wrong1] at h; exact h)) ?_
  rintro _ w83 ⟨B6, a6, c6, rfl, hr6, hs84⟩
  replace hs84 := (show St _ _ (B6 ++ (B5 ++ (B4 ++ (B2 ++ (_ :: B1 ++ (_ :: Z)))))) from hs84)
  refine w_pure want_none (y_move (v := .tuple _) rfl rfl) rfl ?_
  refine w_pure want_none (y_extract (v := .slice _ _ _) rfl rfl rfl) rfl ?_
  refine w_pure want_none (y_extract (v := .int _ _) rfl rfl rfl) rfl ?_
  refine w_pure want_none (y_assign (v := .slice _ _ _) rfl rfl) rfl ?_
  refine w_pure want_none (y_assign (v := .int _ _) rfl rfl) rfl ?_
  refine w_nil ?_
  refine q_then (hK80 _ _ ?_)
  refine w_seq (fun K86 hK85 => ?_)
  refine w_region ?_
  refine w_pure want_none (y_loadN (vs := [_, _, _]) Try.isAgg26 Try.sizeOf26 hs84.drop.drop.drop.drop.tail.drop.tail rfl rfl hP3) rfl ?_
  refine w_call want_none Try.call21 rfl rfl rfl rfl ((c21 (exL [⟨1, 8⟩]) p3 hM3.cons.app.cons.app.app.app.app 0 hs84).mono (fun v w' h => by rw [ex_hands2] at h; exact h)) ?_
  rintro _ w88 ⟨rfl, hs89⟩
  refine w_pure want_none (y_move (v := .tuple _) rfl rfl) rfl ?_
  refine w_pure want_none (y_extract (v := .agg _) rfl rfl rfl) rfl ?_
  refine w_pure want_none (y_extract (v := .int _ _) rfl rfl rfl) rfl ?_
  refine w_alloc (cs := [_, _]) want_none Try.zeroValue34 rfl hs89 (fun b90 w91 hs92 => ?_)
  refine w_store (i := 0) (v := .agg #[.int _ _, .int _ _]) (vs := [_, _]) want_none Try.sizeOf34 rfl rfl rfl rfl rfl (by simp [Value.oneCell']) hs92 rfl (Nat.le_of_ble_eq_true rfl) (fun w93 hs94 => ?_)
  refine w_pure want_none (y_assign (v := .int _ _) rfl rfl) rfl ?_
  refine w_nil ?_
  refine q_then (hK85 _ _ ?_)
  refine w_seq (fun K96 hK95 => ?_)
  refine w_draw [] [(0, 0), (1, 0), (2, 0), (3, 0), (4, 0), (5, 0), (6, 0), (7, 0), (8, 0), (9, 0), (10, 0), (11, 0), (12, 0), (13, 0), (14, 0), (15, 0), (16, 0), (17, 0), (18, 0), (19, 0), (20, 0), (21, 0), (22, 0), (23, 0), (24, 0), (25, 0), (26, 0), (27, 0), (28, 0), (29, 0), (30, 0), (31, 0), (32, 0), (33, 0), (34, 0), (35, 1), (36, 2), (37, 0), (38, 0), (39, 0), (40, 0), (41, 2), (42, 2), (43, 0), (44, 0), (45, 1), (46, 2), (47, 0), (48, 0), (49, 0), (50, 0), (51, 2), (52, 2), (53, 0), (54, 0), (55, 0), (56, 2), (57, 2), (58, 0), (59, 0), (60, 0), (61, 2), (62, 2), (63, 0), (64, 0), (65, 0), (66, 0), (67, 0), (68, 0), (69, 0), (70, 0), (71, 0), (72, 0), (73, 0), (74, 2), (75, 2), (76, 0), (77, 0), (78, 2), (79, 0), (80, 0), (81, 2), (82, 0), (83, 0), (84, 0)] Try_mo (drawOK_of (by kernel_rfl)) hs94 (fun w97 hs98 => ?_)
  refine d_any rfl want_none rfl (fun _ => (y_move (v := .int _ _) rfl rfl)) ?_
  refine d_any rfl want_none rfl (fun _ => (y_eql rfl rfl rfl rfl)) ?_
  refine d_any rfl want_none rfl (fun _ => (y_move (v := .bool _) rfl rfl)) ?_
  refine d_any rfl (want_yes rfl rfl rfl) rfl (fun _ => (y_move (v := .int _ _) rfl rfl)) ?_
  refine d_any rfl (want_yes rfl rfl rfl) rfl (fun _ => (y_eql rfl rfl rfl rfl)) ?_
  refine d_any rfl want_none rfl (fun _ => (y_pickT (v := .bool _) rfl rfl rfl rfl)) ?_
  refine d_any rfl want_none rfl (fun _ => (y_move (v := .bool _) rfl rfl)) ?_
  refine d_any rfl (want_yes rfl rfl rfl) rfl (fun _ => (y_move (v := .int _ _) rfl rfl)) ?_
  refine d_any rfl (want_yes rfl rfl rfl) rfl (fun _ => (y_eql rfl rfl rfl rfl)) ?_
  refine d_any rfl want_none rfl (fun _ => (y_pickT (v := .bool _) rfl rfl rfl rfl)) ?_
  refine d_any rfl want_none rfl (fun _ => (y_move (v := .bool _) rfl rfl)) ?_
  refine d_any rfl (want_yes rfl rfl rfl) rfl (fun _ => (y_move (v := .int _ _) rfl rfl)) ?_
  refine d_any rfl (want_yes rfl rfl rfl) rfl (fun _ => (y_eql rfl rfl rfl rfl)) ?_
  refine d_any rfl want_none rfl (fun _ => (y_pickT (v := .bool _) rfl rfl rfl rfl)) ?_
  refine d_any rfl want_none rfl (fun _ => (y_move (v := .bool _) rfl rfl)) ?_
  refine d_any rfl (want_yes rfl rfl rfl) rfl (fun _ => (y_move (v := .int _ _) rfl rfl)) ?_
  refine d_any rfl (want_yes rfl rfl rfl) rfl (fun _ => (y_eql rfl rfl rfl rfl)) ?_
  refine d_any rfl want_none rfl (fun _ => (y_pickT (v := .bool _) rfl rfl rfl rfl)) ?_
  refine d_any rfl want_none rfl (fun _ => (y_move (v := .bool _) rfl rfl)) ?_
  refine d_any rfl (want_yes rfl rfl rfl) rfl (fun _ => (y_move (v := .int _ _) rfl rfl)) ?_
  refine d_any rfl (want_yes rfl rfl rfl) rfl (fun _ => (y_eql rfl rfl rfl rfl)) ?_
  refine d_any rfl want_none rfl (fun _ => (y_pickT (v := .bool _) rfl rfl rfl rfl)) ?_
  refine d_any rfl want_none rfl (fun _ => (y_move (v := .bool _) rfl rfl)) ?_
  refine d_any rfl (want_yes rfl rfl rfl) rfl (fun _ => (y_move (v := .int _ _) rfl rfl)) ?_
  refine d_any rfl (want_yes rfl rfl rfl) rfl (fun _ => (y_eql rfl rfl rfl rfl)) ?_
  refine d_any rfl want_none rfl (fun _ => (y_pickT (v := .bool _) rfl rfl rfl rfl)) ?_
  refine d_any rfl want_none rfl (fun _ => (y_move (v := .bool _) rfl rfl)) ?_
  refine d_any rfl (want_yes rfl rfl rfl) rfl (fun _ => (y_move (v := .int _ _) rfl rfl)) ?_
  refine d_any rfl (want_yes rfl rfl rfl) rfl (fun _ => (y_eql rfl rfl rfl rfl)) ?_
  refine d_any rfl want_none rfl (fun _ => (y_pickT (v := .bool _) rfl rfl rfl rfl)) ?_
  refine d_any rfl want_none rfl (fun _ => (y_move (v := .bool _) rfl rfl)) ?_
  refine d_any rfl (want_yes rfl rfl rfl) rfl (fun _ => (y_move (v := .int _ _) rfl rfl)) ?_
  refine d_any rfl (want_yes rfl rfl rfl) rfl (fun _ => (y_eql rfl rfl rfl rfl)) ?_
  refine d_any rfl want_none rfl (fun _ => (y_pickT (v := .bool _) rfl rfl rfl rfl)) ?_
  refine d_any rfl want_none rfl (fun _ => (y_move (v := .bool _) rfl rfl)) ?_
  refine d_take rfl (want_yes rfl rfl rfl) rfl hs98 (fun _ hq => (y_loadN (vs := [_, _]) Try.isAgg34 Try.sizeOf34 hq.tail.drop.drop.drop.drop.tail.drop rfl rfl hx4)) ?_
  refine d_eff rfl ?_
  refine w_call (want_yes rfl rfl rfl) Try.call37 rfl rfl rfl rfl (c37 _ _ hs98) ?_
  rintro _ w100 ⟨rfl, hs101⟩
  refine w_nil ?_
  refine qn ⟨hs101, ?_⟩
  refine d_any rfl (want_yes rfl rfl rfl) rfl (fun _ => (y_eqFlat (l := [_, _]) (m := [_, _]) Try.eqGuardType34 Try_flat34 (by first | omega | rfl | (simp only [List.length_map, List.length_set, List.length_append, List.length_take, List.length_drop, List.length_replicate, List.length_cons, List.length_nil] <;> omega)) (by first | omega | rfl | (simp only [List.length_map, List.length_set, List.length_append, List.length_take, List.length_drop, List.length_replicate, List.length_cons, List.length_nil] <;> omega)) rfl rfl rfl rfl rfl rfl)) ?_
  refine d_any rfl want_none rfl (fun _ => (y_pickT (v := .bool _) rfl rfl rfl rfl)) ?_
  refine d_any rfl want_none rfl (fun _ => (y_move (v := .bool _) rfl rfl)) ?_
  refine d_split (fun h102 => ?_) (fun h102 => ?_)
  ·
   try simp only [Bool.not_eq_true', Bool.not_eq_false', decide_eq_true_eq, decide_eq_false_iff_not, Int.not_lt, Int.not_le] at h102
   refine d_any rfl (want_yes rfl rfl rfl) rfl (fun _ => (y_move (v := .slice _ _ _) rfl rfl)) ?_
   refine d_eff rfl ?_
   refine w_bslice (ps := [(0, _), (1, _), (2, _)]) (pv := [(0, .int _ _), (1, .int _ _), (2, .int _ _)]) (cs := [_, _, _]) (want_yes rfl rfl rfl) rfl rfl (fun w => Try_S_fb14 _ _ _ w) hs101 (fun b103 w104 hs105 => ?_)
   refine w_nil ?_
   refine qn ⟨hs105.tail, ?_⟩
   refine d_eff rfl ?_
   refine w_call (want_yes rfl rfl rfl) Try.call25 rfl rfl rfl rfl (con_true (c25 _ _ [-1, 1, 2] [-1, 1, 2] _ _ (by decide) hr1.top.cons.app.app.app.app.cons.cons (sl_own (i := 0) (rows := [[_], [_], [_]]) rfl (by simp) rfl) hs105) (by decide)) ?_
   rintro _ w107 ⟨rfl, hs108⟩
   refine w_nil ?_
   refine qn ⟨hs108.tail, ?_⟩
   refine d_any rfl want_none rfl (fun _ => (y_pickT (v := .bool _) rfl rfl rfl rfl)) ?_
   refine d_any rfl want_none rfl (fun _ => (y_move (v := .bool _) rfl rfl)) ?_
   refine d_take rfl (want_yes rfl rfl rfl) rfl hs108.tail (fun _ hq => (y_loadN (vs := [_, _]) Try.isAgg34 Try.sizeOf34 hq.tail.drop.drop.drop.drop rfl rfl hx8)) ?_
   refine d_eff rfl ?_
   refine w_call (want_yes rfl rfl rfl) Try.call37 rfl rfl rfl rfl (c37 _ _ hs108) ?_
   rintro _ w110 ⟨rfl, hs111⟩
   refine w_nil ?_
   refine qn ⟨hs111.tail, ?_⟩
   refine d_any rfl (want_yes rfl rfl rfl) rfl (fun _ => (y_eqFlat (l := [_, _]) (m := [_, _]) Try.eqGuardType34 Try_flat34 (by first | omega | rfl | (simp only [List.length_map, List.length_set, List.length_append, List.length_take, List.length_drop, List.length_replicate, List.length_cons, List.length_nil] <;> omega)) (by first | omega | rfl | (simp only [List.length_map, List.length_set, List.length_append, List.length_take, List.length_drop, List.length_replicate, List.length_cons, List.length_nil] <;> omega)) rfl rfl rfl rfl rfl rfl)) ?_
   refine d_any rfl want_none rfl (fun _ => (y_pickT (v := .bool _) rfl rfl rfl rfl)) ?_
   refine d_any rfl want_none rfl (fun _ => (y_move (v := .bool _) rfl rfl)) ?_
   refine d_split (fun h112 => ?_) (fun h112 => ?_)
   ·
    try simp only [Bool.not_eq_true', Bool.not_eq_false', decide_eq_true_eq, decide_eq_false_iff_not, Int.not_lt, Int.not_le] at h112
    refine d_any rfl (want_yes rfl rfl rfl) rfl (fun _ => (y_move (v := .slice _ _ _) rfl rfl)) ?_
    refine d_eff rfl ?_
    refine w_bslice (ps := [(0, _)]) (pv := [(0, .int _ _)]) (cs := [_]) (want_yes rfl rfl rfl) rfl rfl (fun w => Try_S_fb15 _ w) hs111 (fun b113 w114 hs115 => ?_)
    refine w_nil ?_
    refine qn ⟨hs115.tail.tail, ?_⟩
    refine d_eff rfl ?_
    refine w_call (want_yes rfl rfl rfl) Try.call25 rfl rfl rfl rfl (con_true (c25 _ _ [3] [3] _ _ (by decide) hr2.top.app.app.app.cons.cons.cons (sl_own (i := 0) (rows := [[_]]) rfl (by simp) rfl) hs115) (by decide)) ?_
    rintro _ w117 ⟨rfl, hs118⟩
    refine w_nil ?_
    refine qn ⟨hs118.tail.tail, ?_⟩
    refine d_any rfl want_none rfl (fun _ => (y_pickT (v := .bool _) rfl rfl rfl rfl)) ?_
    refine d_any rfl want_none rfl (fun _ => (y_move (v := .bool _) rfl rfl)) ?_
    refine d_any rfl (want_yes rfl rfl rfl) rfl (fun _ => (y_move (v := .slice _ _ _) rfl rfl)) ?_
    refine d_eff rfl ?_
    refine w_bslice (ps := [(0, _), (1, _)]) (pv := [(0, .int _ _), (1, .int _ _)]) (cs := [_, _]) (want_yes rfl rfl rfl) rfl rfl (fun w => Try_S_fb16 _ _ w) hs118 (fun b119 w120 hs121 => ?_)
    refine w_nil ?_
    refine qn ⟨hs121.tail.tail.tail, ?_⟩
    refine d_eff rfl ?_
    refine w_call (want_yes rfl rfl rfl) Try.call25 rfl rfl rfl rfl (con_true (c25 _ _ [2, 3] [2, 3] _ _ (by decide) hr3.top.app.app.app.cons.cons.cons.cons (sl_own (i := 0) (rows := [[_], [_]]) rfl (by simp) rfl) hs121) (by decide)) ?_
    rintro _ w123 ⟨rfl, hs124⟩
    refine w_nil ?_
    refine qn ⟨hs124.tail.tail.tail, ?_⟩
    refine d_any rfl want_none rfl (fun _ => (y_pickT (v := .bool _) rfl rfl rfl rfl)) ?_
    refine d_any rfl want_none rfl (fun _ => (y_move (v := .bool _) rfl rfl)) ?_
    refine d_any rfl (want_yes rfl rfl rfl) rfl (fun _ => (y_move (v := .slice _ _ _) rfl rfl)) ?_
    refine d_eff rfl ?_
    refine w_bslice (ps := [(0, _), (1, _)]) (pv := [(0, .int _ _), (1, .int _ _)]) (cs := [_, _]) (want_yes rfl rfl rfl) rfl rfl (fun w => Try_S_fb16 _ _ w) hs124 (fun b125 w126 hs127 => ?_)
    refine w_nil ?_
    refine qn ⟨hs127.tail.tail.tail.tail, ?_⟩
    refine d_eff rfl ?_
    refine w_call (want_yes rfl rfl rfl) Try.call25 rfl rfl rfl rfl (con_true (c25 _ _ [0, 1] [0, 1] _ _ (by decide) hr4.top.app.app.cons.cons.cons.cons.cons (sl_own (i := 0) (rows := [[_], [_]]) rfl (by simp) rfl) hs127) (by decide)) ?_
    rintro _ w129 ⟨rfl, hs130⟩
    refine w_nil ?_
    refine qn ⟨hs130.tail.tail.tail.tail, ?_⟩
    refine d_any rfl want_none rfl (fun _ => (y_pickT (v := .bool _) rfl rfl rfl rfl)) ?_
    refine d_any rfl want_none rfl (fun _ => (y_move (v := .bool _) rfl rfl)) ?_
    refine d_any rfl (want_yes rfl rfl rfl) rfl (fun _ => (y_move (v := .int _ _) rfl rfl)) ?_
    refine d_any rfl (want_yes rfl rfl rfl) rfl (fun _ => (y_eql rfl rfl rfl rfl)) ?_
    refine d_any rfl want_none rfl (fun _ => (y_pickT (v := .bool _) rfl rfl rfl rfl)) ?_
    refine d_any rfl want_none rfl (fun _ => (y_move (v := .bool _) rfl rfl)) ?_
    refine d_any rfl (want_yes rfl rfl rfl) rfl (fun _ => (y_move (v := .int _ _) rfl rfl)) ?_
    refine d_any rfl (want_yes rfl rfl rfl) rfl (fun _ => (y_eql rfl rfl rfl rfl)) ?_
    refine d_any rfl want_none rfl (fun _ => (y_pickT (v := .bool _) rfl rfl rfl rfl)) ?_
    refine d_any rfl want_none rfl (fun _ => (y_move (v := .bool _) rfl rfl)) ?_
    refine d_any rfl (want_yes rfl rfl rfl) rfl (fun _ => (y_move (v := .slice _ _ _) rfl rfl)) ?_
    refine d_eff rfl ?_
    refine w_bslice (ps := [(0, _)]) (pv := [(0, .int _ _)]) (cs := [_]) (want_yes rfl rfl rfl) rfl rfl (fun w => Try_S_fb15 _ w) hs130 (fun b131 w132 hs133 => ?_)
    refine w_nil ?_
    refine qn ⟨hs133.tail.tail.tail.tail.tail, ?_⟩
    refine d_eff rfl ?_
    refine w_call (want_yes rfl rfl rfl) Try.call25 rfl rfl rfl rfl (con_true (c25 _ _ [1] [1] _ _ (by decide) hr6.top.cons.cons.cons.cons.cons.cons (sl_own (i := 0) (rows := [[_]]) rfl (by simp) rfl) hs133) (by decide)) ?_
    rintro _ w135 ⟨rfl, hs136⟩
    refine w_nil ?_
    refine qn ⟨hs136.tail.tail.tail.tail.tail, ?_⟩
    refine d_any rfl want_none rfl (fun _ => (y_pickT (v := .bool _) rfl rfl rfl rfl)) ?_
    refine d_any rfl want_none rfl (fun _ => (y_move (v := .bool _) rfl rfl)) ?_
    refine d_eff rfl ?_
    refine w_call (want_yes rfl rfl rfl) Try.call18 rfl rfl rfl rfl (con_true (c18 _ (by decide) hs136) (by decide)) ?_
    rintro _ w138 ⟨rfl, hs139⟩
    refine w_nil ?_
    refine qn ⟨hs139.tail.tail.tail.tail.tail, ?_⟩
    refine d_any rfl want_none rfl (fun _ => (y_pickT (v := .bool _) rfl rfl rfl rfl)) ?_
    refine d_any rfl want_none rfl (fun _ => (y_move (v := .bool _) rfl rfl)) ?_
    refine d_eff rfl ?_
    refine w_call (want_yes rfl rfl rfl) Try.call18 rfl rfl rfl rfl (con_false (c18 _ (by decide) hs139) (by decide)) ?_
    rintro _ w141 ⟨rfl, hs142⟩
    refine w_nil ?_
    refine qn ⟨hs142.tail.tail.tail.tail.tail, ?_⟩
    refine d_any rfl (want_yes rfl rfl rfl) rfl (fun _ => (y_not rfl rfl)) ?_
    refine d_any rfl want_none rfl (fun _ => (y_pickT (v := .bool _) rfl rfl rfl rfl)) ?_
    refine d_any rfl want_none rfl (fun _ => (y_assign (v := .bool _) rfl rfl)) ?_
    refine d_nil ?_
    refine q_then (hK95 _ _ ?_)
    refine w_ret ?_
    refine q_ret (l := [.tmp 0]) (vs := [_]) rfl ⟨⟨rfl, show _ = (.bool _ : Value) from rfl⟩, trivial⟩ ?_
    exact ⟨rfl, (St.cast hZ hs142.tail.tail.tail.tail.tail.tail.drop.drop.drop.drop.tail.drop.tail).tail.tail.tail.drop.tail.drop.tail.drop⟩
   ·
    exfalso; simp at h112
  ·
   exfalso; simp at h102

end Go.Proofs
/- Walks of this seat, printed by gen.py over the engine: what each function returns, in whatever world. No conditions but those of each contract. -/
set_option linter.unusedVariables false
set_option linter.unusedSimpArgs false
set_option maxRecDepth 20000
namespace Go.Proofs
open Go.Rt Go.Rt.Ha
attribute [local irreducible] WL WC Con Yd At Ats Sl Agree DW
theorem Try_Za_fb6 (x0 : Int) (x1 : Int) (w : World) : (Instr.build 51 [(0, .int .i64 x0), (1, .int .i64 x1)].toArray).run Try.prog w = .ok (.agg #[.int .i64 x0, .int .i64 x1]) w := by kernel_rfl
theorem Try_Za_fb7 (x0 : Int) (x1 : Int) (w : World) : (Instr.buildSlice 24 1 [(0, .agg #[.int .i64 x0, .int .i64 x1])].toArray).run Try.prog w = .ok (.slice (some ⟨w.heap.size, 0, none⟩) 1 1) (w.alloc (Go.Rt.blk 51 [.int .i64 x0, .int .i64 x1])) := by kernel_rfl
theorem Try_Za_fb8 (x0 : Int) (w : World) : (Instr.buildSlice 37 1 [(0, .int .i64 x0)].toArray).run Try.prog w = .ok (.slice (some ⟨w.heap.size, 0, none⟩) 1 1) (w.alloc (Go.Rt.blk 3 [.int .i64 x0])) := by kernel_rfl
theorem Try_Za_fb9 (x0 : Int) (x1 : Int) (w : World) : (Instr.buildSlice 37 2 [(0, .int .i64 x0), (1, .int .i64 x1)].toArray).run Try.prog w = .ok (.slice (some ⟨w.heap.size, 0, none⟩) 2 2) (w.alloc (Go.Rt.blk 3 [.int .i64 x0, .int .i64 x1])) := by kernel_rfl
theorem c8 {w0 w : World} {F : List (Nat × Obj)}  (hs : St w0 w F) :
  Con Try.prog 8 [] w fun v w' => v = .bool true ∧ St w0 w' F := by
  refine con_of_wc (n := 164) Try.func8 rfl rfl (Nat.le_of_ble_eq_true rfl) ?_
  refine w_seq (fun K2 hK1 => ?_)
  refine w_region ?_
  refine w_pure want_none (y_assign (v := _) rfl rfl) rfl ?_
  refine w_nil ?_
  refine q_then (hK1 _ _ ?_)
  refine w_seq (fun K4 hK3 => ?_)
  refine w_region ?_
  refine w_call want_none Try.call36 rfl rfl rfl rfl (c36 none 0 [] (by decide) (Sl.nil _ _) (fun _ => rfl) hs) ?_
  rintro _ w6 ⟨p1, L1, rfl, hq1, hs7⟩
  replace hs7 := (show St _ _ (L1 ++ (F)) from hs7)
  refine w_pure want_none (y_build (ps := [(0, _), (1, _)]) (pv := [(0, .int _ _), (1, .int _ _)]) rfl rfl (fun w => Try_Za_fb6 _ _ w)) rfl ?_
  refine w_bslice (ps := [(0, _)]) (pv := [(0, .agg #[.int _ _, .int _ _])]) (cs := [_, _]) want_none rfl rfl (fun w => Try_Za_fb7 _ _ w) hs7 (fun b8 w9 hs10 => ?_)
  refine w_call want_none Try.call36 rfl rfl rfl rfl (c36 _ _ [⟨12, 13⟩] (by decide) (sl_own (i := 0) (rows := [[_, _]]) rfl (by simp) rfl) (by simp) hs10) ?_
  rintro _ w12 ⟨p2, L2, rfl, hq2, hs13⟩
  replace hs13 := (show St _ _ (L2 ++ (_ :: L1 ++ (F))) from hs13)
  refine w_alloc (cs := [_, _, _]) want_none Try.zeroValue26 rfl hs13 (fun b14 w15 hs16 => ?_)
  refine w_alloc (cs := [_, _, _]) want_none Try.zeroValue26 rfl hs16 (fun b17 w18 hs19 => ?_)
  refine w_store (i := 1) (v := .agg #[.slice _ _ _, .slice _ _ _, .slice _ _ _]) (vs := [_, _, _]) want_none Try.sizeOf26 rfl rfl rfl rfl rfl (by simp [Value.oneCell']) hs19 rfl (Nat.le_of_ble_eq_true rfl) (fun w20 hs21 => ?_)
  refine w_store (i := 0) (v := .agg #[.slice _ _ _, .slice _ _ _, .slice _ _ _]) (vs := [_, _, _]) want_none Try.sizeOf26 rfl rfl rfl rfl rfl (by simp [Value.oneCell']) hs21 rfl (Nat.le_of_ble_eq_true rfl) (fun w22 hs23 => ?_)
  refine w_nil ?_
  refine q_then (hK3 _ _ ?_)
  refine w_seq (fun K25 hK24 => ?_)
  obtain ⟨Z, hZ, hsZ⟩ := gen_Z hs23
  have hP1 : Ats w0 Z b14 0 ((exL []).cells p1) := by rw [hZ]; exact ats_own (i := 1) (vs := (exL []).cells p1) rfl rfl
  have hM1 : LIn w0 Z (exL []) p1 := by rw [hZ]; exact LIn.mono hq1 (fun w h => h.tail.tail.drop.tail.front)
  have hP2 : Ats w0 Z b17 0 ((exL [⟨12, 13⟩]).cells p2) := by rw [hZ]; exact ats_own (i := 0) (vs := (exL [⟨12, 13⟩]).cells p2) rfl rfl
  have hM2 : LIn w0 Z (exL [⟨12, 13⟩]) p2 := by rw [hZ]; exact LIn.mono hq2 (fun w h => h.tail.tail.front)
  refine w_region ?_
  refine w_pure want_none (y_loadN (vs := [_, _, _]) Try.isAgg26 Try.sizeOf26 hsZ rfl rfl hP2) rfl ?_
  refine w_call want_none Try.call21 rfl rfl rfl rfl ((c21 (exL [⟨12, 13⟩]) p2 hM2 2 hsZ).mono (fun v w' h => by rw [ex_hands3] at h; exact h)) ?_
  rintro _ w27 ⟨rfl, hs28⟩
  refine w_pure want_none (y_move (v := .tuple _) rfl rfl) rfl ?_
  refine w_pure want_none (y_extract (v := .agg _) rfl rfl rfl) rfl ?_
  refine w_pure want_none (y_extract (v := .int _ _) rfl rfl rfl) rfl ?_
  refine w_alloc (cs := [_, _]) want_none Try.zeroValue34 rfl hs28 (fun b29 w30 hs31 => ?_)
  refine w_store (i := 0) (v := .agg #[.int _ _, .int _ _]) (vs := [_, _]) want_none Try.sizeOf34 rfl rfl rfl rfl rfl (by simp [Value.oneCell']) hs31 rfl (Nat.le_of_ble_eq_true rfl) (fun w32 hs33 => ?_)
  refine w_pure want_none (y_assign (v := .int _ _) rfl rfl) rfl ?_
  refine w_nil ?_
  refine q_then (hK24 _ _ ?_)
  refine w_seq (fun K35 hK34 => ?_)
  have hx3 := ats_of (i := 0) (vs := [_, _]) hs33 rfl rfl
  refine w_region ?_
  refine w_pure want_none (y_loadN (vs := [_, _, _]) Try.isAgg26 Try.sizeOf26 hs33.tail rfl rfl hP1) rfl ?_
  refine w_call want_none Try.call23 rfl rfl rfl rfl ((c23 (exL []) p1 hM1.cons 0 hs33).mono (fun v w' h => by rw [ex_grade2] at h; exact h)) ?_
  rintro _ w37 ⟨B1, a1, c1, rfl, hr1, hs38⟩
  replace hs38 := (show St _ _ (B1 ++ (_ :: Z)) from hs38)
  refine w_pure want_none (y_move (v := .tuple _) rfl rfl) rfl ?_
  refine w_pure want_none (y_extract (v := .slice _ _ _) rfl rfl rfl) rfl ?_
  refine w_pure want_none (y_extract (v := .int _ _) rfl rfl rfl) rfl ?_
  refine w_pure want_none (y_assign (v := .slice _ _ _) rfl rfl) rfl ?_
  refine w_pure want_none (y_assign (v := .int _ _) rfl rfl) rfl ?_
  refine w_nil ?_
  refine q_then (hK34 _ _ ?_)
  refine w_seq (fun K40 hK39 => ?_)
  refine w_region ?_
  refine w_pure want_none (y_loadN (vs := [_, _, _]) Try.isAgg26 Try.sizeOf26 hs38.drop.tail rfl rfl hP1) rfl ?_
  refine w_call want_none Try.call23 rfl rfl rfl rfl ((c23 (exL []) p1 hM1.cons.app 1 hs38).mono (fun v w' h => by rw [ex_grade3] at h; exact h)) ?_
  rintro _ w42 ⟨B2, a2, c2, rfl, hr2, hs43⟩
  replace hs43 := (show St _ _ (B2 ++ (B1 ++ (_ :: Z))) from hs43)
  refine w_pure want_none (y_move (v := .tuple _) rfl rfl) rfl ?_
  refine w_pure want_none (y_extract (v := .slice _ _ _) rfl rfl rfl) rfl ?_
  refine w_pure want_none (y_extract (v := .int _ _) rfl rfl rfl) rfl ?_
  refine w_pure want_none (y_assign (v := .slice _ _ _) rfl rfl) rfl ?_
  refine w_pure want_none (y_assign (v := .int _ _) rfl rfl) rfl ?_
  refine w_nil ?_
  refine q_then (hK39 _ _ ?_)
  refine w_seq (fun K45 hK44 => ?_)
  refine w_region ?_
  refine w_pure want_none (y_loadN (vs := [_, _, _]) Try.isAgg26 Try.sizeOf26 hs43.drop.drop.tail rfl rfl hP1) rfl ?_
  refine w_call want_none Try.call23 rfl rfl rfl rfl ((c23 (exL []) p1 hM1.cons.app.app 3 hs43).mono (fun v w' h => by rw [ex_grade4] at h; exact h)) ?_
  rintro _ w47 ⟨B3, a3, c3, rfl, hr3, hs48⟩
  replace hs48 := (show St _ _ (B3 ++ (B2 ++ (B1 ++ (_ :: Z)))) from hs48)
  refine w_pure want_none (y_move (v := .tuple _) rfl rfl) rfl ?_
  refine w_pure want_none (y_extract (v := .slice _ _ _) rfl rfl rfl) rfl ?_
  refine w_pure want_none (y_extract (v := .int _ _) rfl rfl rfl) rfl ?_
  refine w_pure want_none (y_assign (v := .slice _ _ _) rfl rfl) rfl ?_
  refine w_pure want_none (y_assign (v := .int _ _) rfl rfl) rfl ?_
  refine w_nil ?_
  refine q_then (hK44 _ _ ?_)
  refine w_seq (fun K50 hK49 => ?_)
  refine w_region ?_
  refine w_pure want_none (y_loadN (vs := [_, _, _]) Try.isAgg26 Try.sizeOf26 hs48.drop.drop.drop.tail rfl rfl hP1) rfl ?_
  refine w_call want_none Try.call26 rfl rfl rfl rfl ((c26 (exL []) p1 hM1.cons.app.app.app 1 hs48).mono (fun v w' h => by rw [ex_total2] at h; exact h)) ?_
  rintro _ w52 ⟨rfl, hs53⟩
  refine w_pure want_none (y_move (v := .tuple _) rfl rfl) rfl ?_
  refine w_pure want_none (y_extract (v := .agg _) rfl rfl rfl) rfl ?_
  refine w_pure want_none (y_extract (v := .int _ _) rfl rfl rfl) rfl ?_
  refine w_alloc (cs := [_, _]) want_none Try.zeroValue34 rfl hs53 (fun b54 w55 hs56 => ?_)
  refine w_store (i := 0) (v := .agg #[.int _ _, .int _ _]) (vs := [_, _]) want_none Try.sizeOf34 rfl rfl rfl rfl rfl (by simp [Value.oneCell']) hs56 rfl (Nat.le_of_ble_eq_true rfl) (fun w57 hs58 => ?_)
  refine w_pure want_none (y_assign (v := .int _ _) rfl rfl) rfl ?_
  refine w_nil ?_
  refine q_then (hK49 _ _ ?_)
  refine w_seq (fun K60 hK59 => ?_)
  have hx11 := ats_of (i := 0) (vs := [_, _]) hs58 rfl rfl
  refine w_region ?_
  refine w_pure want_none (y_loadN (vs := [_, _, _]) Try.isAgg26 Try.sizeOf26 hs58.tail.drop.drop.drop.tail rfl rfl hP1) rfl ?_
  refine w_call want_none Try.call28 rfl rfl rfl rfl ((c28 (exL []) p1 hM1.cons.app.app.app.cons hs58).mono (fun v w' h => by rw [ex_ref2] at h; exact h)) ?_
  rintro _ w62 ⟨B4, a4, c4, a5, c5, rfl, hr4, hr5, hs63⟩
  replace hs63 := (show St _ _ (B4 ++ (_ :: B3 ++ (B2 ++ (B1 ++ (_ :: Z))))) from hs63)
  refine w_pure want_none (y_move (v := .tuple _) rfl rfl) rfl ?_
  refine w_pure want_none (y_extract (v := .slice _ _ _) rfl rfl rfl) rfl ?_
  refine w_pure want_none (y_extract (v := .slice _ _ _) rfl rfl rfl) rfl ?_
  refine w_pure want_none (y_extract (v := .int _ _) rfl rfl rfl) rfl ?_
  refine w_pure want_none (y_assign (v := .slice _ _ _) rfl rfl) rfl ?_
  refine w_pure want_none (y_assign (v := .slice _ _ _) rfl rfl) rfl ?_
  refine w_pure want_none (y_assign (v := .int _ _) rfl rfl) rfl ?_
  refine w_nil ?_
  refine q_then (hK59 _ _ ?_)
  refine w_seq (fun K65 hK64 => ?_)
  refine w_region ?_
  refine w_pure want_none (y_loadN (vs := [_, _, _]) Try.isAgg26 Try.sizeOf26 hs63.drop.tail.drop.drop.drop.tail rfl rfl hP1) rfl ?_
  refine w_call want_none Try.call30 rfl rfl rfl rfl ((c30 (exL []) p1 hM1.cons.app.app.app.cons.app 1 9 hs63).mono (fun v w' h => by rw [ex_pick3] at h; exact h)) ?_
  rintro _ w67 ⟨B6, a6, c6, rfl, hr6, hs68⟩
  replace hs68 := (show St _ _ (B6 ++ (B4 ++ (_ :: B3 ++ (B2 ++ (B1 ++ (_ :: Z)))))) from hs68)
  refine w_pure want_none (y_move (v := .tuple _) rfl rfl) rfl ?_
  refine w_pure want_none (y_extract (v := .slice _ _ _) rfl rfl rfl) rfl ?_
  refine w_pure want_none (y_extract (v := .int _ _) rfl rfl rfl) rfl ?_
  refine w_pure want_none (y_assign (v := .slice _ _ _) rfl rfl) rfl ?_
  refine w_pure want_none (y_assign (v := .int _ _) rfl rfl) rfl ?_
  refine w_nil ?_
  refine q_then (hK64 _ _ ?_)
  refine w_seq (fun K70 hK69 => ?_)
  refine w_region ?_
  refine w_pure want_none (y_loadN (vs := [_, _, _]) Try.isAgg26 Try.sizeOf26 hs68.drop.drop.tail.drop.drop.drop.tail rfl rfl hP2) rfl ?_
  refine w_call want_none Try.call32 rfl rfl rfl rfl ((c32 (exL [⟨12, 13⟩]) p2 hM2.cons.app.app.app.cons.app.app hs68).mono (fun v w' h => by rw [ex_next2] at h; exact h)) ?_
  rintro _ w72 ⟨rfl, hs73⟩
  refine w_pure want_none (y_move (v := .tuple _) rfl rfl) rfl ?_
  refine w_pure want_none (y_extract (v := .int _ _) rfl rfl rfl) rfl ?_
  refine w_pure want_none (y_extract (v := .int _ _) rfl rfl rfl) rfl ?_
  refine w_pure want_none (y_extract (v := .int _ _) rfl rfl rfl) rfl ?_
  refine w_pure want_none (y_assign (v := .int _ _) rfl rfl) rfl ?_
  refine w_pure want_none (y_assign (v := .int _ _) rfl rfl) rfl ?_
  refine w_pure want_none (y_assign (v := .int _ _) rfl rfl) rfl ?_
  refine w_nil ?_
  refine q_then (hK69 _ _ ?_)
  refine w_seq (fun K75 hK74 => ?_)
  refine w_region ?_
  refine w_pure want_none (y_loadN (vs := [_, _, _]) Try.isAgg26 Try.sizeOf26 hs73.drop.drop.tail.drop.drop.drop.tail rfl rfl hP1) rfl ?_
  refine w_call want_none Try.call34 rfl rfl rfl rfl ((c34 (exL []) p1 hM1.cons.app.app.app.cons.app.app hs73).mono (fun v w' h => by rw [ex_wrong2] at h; exact h)) ?_
  rintro _ w77 ⟨B7, a7, c7, rfl, hr7, hs78⟩
  replace hs78 := (show St _ _ (B7 ++ (B6 ++ (B4 ++ (_ :: B3 ++ (B2 ++ (B1 ++ (_ :: Z))))))) from hs78)
  refine w_pure want_none (y_move (v := .tuple _) rfl rfl) rfl ?_
  refine w_pure want_none (y_extract (v := .slice _ _ _) rfl rfl rfl) rfl ?_
  refine w_pure want_none (y_extract (v := .int _ _) rfl rfl rfl) rfl ?_
  refine w_pure want_none (y_assign (v := .slice _ _ _) rfl rfl) rfl ?_
  refine w_pure want_none (y_assign (v := .int _ _) rfl rfl) rfl ?_
  refine w_nil ?_
  refine q_then (hK74 _ _ ?_)
  refine w_seq (fun K80 hK79 => ?_)
  refine w_draw [] [(0, 0), (1, 0), (2, 0), (3, 0), (4, 0), (5, 0), (6, 0), (7, 0), (8, 0), (9, 0), (10, 0), (11, 0), (12, 0), (13, 0), (14, 0), (15, 0), (16, 0), (17, 0), (18, 0), (19, 0), (20, 0), (21, 0), (22, 0), (23, 0), (24, 0), (25, 0), (26, 0), (27, 0), (28, 0), (29, 0), (30, 0), (31, 0), (32, 0), (33, 0), (34, 0), (35, 1), (36, 2), (37, 0), (38, 0), (39, 0), (40, 0), (41, 2), (42, 2), (43, 0), (44, 0), (45, 0), (46, 2), (47, 2), (48, 0), (49, 0), (50, 0), (51, 2), (52, 2), (53, 0), (54, 0), (55, 1), (56, 2), (57, 0), (58, 0), (59, 0), (60, 0), (61, 0), (62, 0), (63, 0), (64, 0), (65, 0), (66, 2), (67, 2), (68, 0), (69, 0), (70, 0), (71, 2), (72, 2), (73, 0), (74, 0), (75, 0), (76, 0), (77, 0), (78, 0), (79, 0), (80, 0), (81, 0), (82, 0), (83, 0), (84, 0), (85, 0), (86, 0), (87, 0), (88, 2), (89, 0), (90, 0)] Try_mo (drawOK_of (by kernel_rfl)) hs78 (fun w81 hs82 => ?_)
  refine d_any rfl want_none rfl (fun _ => (y_move (v := .int _ _) rfl rfl)) ?_
  refine d_any rfl want_none rfl (fun _ => (y_eql rfl rfl rfl rfl)) ?_
  refine d_any rfl want_none rfl (fun _ => (y_move (v := .bool _) rfl rfl)) ?_
  refine d_any rfl (want_yes rfl rfl rfl) rfl (fun _ => (y_move (v := .int _ _) rfl rfl)) ?_
  refine d_any rfl (want_yes rfl rfl rfl) rfl (fun _ => (y_eql rfl rfl rfl rfl)) ?_
  refine d_any rfl want_none rfl (fun _ => (y_pickT (v := .bool _) rfl rfl rfl rfl)) ?_
  refine d_any rfl want_none rfl (fun _ => (y_move (v := .bool _) rfl rfl)) ?_
  refine d_any rfl (want_yes rfl rfl rfl) rfl (fun _ => (y_move (v := .int _ _) rfl rfl)) ?_
  refine d_any rfl (want_yes rfl rfl rfl) rfl (fun _ => (y_eql rfl rfl rfl rfl)) ?_
  refine d_any rfl want_none rfl (fun _ => (y_pickT (v := .bool _) rfl rfl rfl rfl)) ?_
  refine d_any rfl want_none rfl (fun _ => (y_move (v := .bool _) rfl rfl)) ?_
  refine d_any rfl (want_yes rfl rfl rfl) rfl (fun _ => (y_move (v := .int _ _) rfl rfl)) ?_
  refine d_any rfl (want_yes rfl rfl rfl) rfl (fun _ => (y_eql rfl rfl rfl rfl)) ?_
  refine d_any rfl want_none rfl (fun _ => (y_pickT (v := .bool _) rfl rfl rfl rfl)) ?_
  refine d_any rfl want_none rfl (fun _ => (y_move (v := .bool _) rfl rfl)) ?_
  refine d_any rfl (want_yes rfl rfl rfl) rfl (fun _ => (y_move (v := .int _ _) rfl rfl)) ?_
  refine d_any rfl (want_yes rfl rfl rfl) rfl (fun _ => (y_eql rfl rfl rfl rfl)) ?_
  refine d_any rfl want_none rfl (fun _ => (y_pickT (v := .bool _) rfl rfl rfl rfl)) ?_
  refine d_any rfl want_none rfl (fun _ => (y_move (v := .bool _) rfl rfl)) ?_
  refine d_any rfl (want_yes rfl rfl rfl) rfl (fun _ => (y_move (v := .int _ _) rfl rfl)) ?_
  refine d_any rfl (want_yes rfl rfl rfl) rfl (fun _ => (y_eql rfl rfl rfl rfl)) ?_
  refine d_any rfl want_none rfl (fun _ => (y_pickT (v := .bool _) rfl rfl rfl rfl)) ?_
  refine d_any rfl want_none rfl (fun _ => (y_move (v := .bool _) rfl rfl)) ?_
  refine d_any rfl (want_yes rfl rfl rfl) rfl (fun _ => (y_move (v := .int _ _) rfl rfl)) ?_
  refine d_any rfl (want_yes rfl rfl rfl) rfl (fun _ => (y_eql rfl rfl rfl rfl)) ?_
  refine d_any rfl want_none rfl (fun _ => (y_pickT (v := .bool _) rfl rfl rfl rfl)) ?_
  refine d_any rfl want_none rfl (fun _ => (y_move (v := .bool _) rfl rfl)) ?_
  refine d_any rfl (want_yes rfl rfl rfl) rfl (fun _ => (y_move (v := .int _ _) rfl rfl)) ?_
  refine d_any rfl (want_yes rfl rfl rfl) rfl (fun _ => (y_eql rfl rfl rfl rfl)) ?_
  refine d_any rfl want_none rfl (fun _ => (y_pickT (v := .bool _) rfl rfl rfl rfl)) ?_
  refine d_any rfl want_none rfl (fun _ => (y_move (v := .bool _) rfl rfl)) ?_
  refine d_any rfl (want_yes rfl rfl rfl) rfl (fun _ => (y_move (v := .int _ _) rfl rfl)) ?_
  refine d_any rfl (want_yes rfl rfl rfl) rfl (fun _ => (y_eql rfl rfl rfl rfl)) ?_
  refine d_any rfl want_none rfl (fun _ => (y_pickT (v := .bool _) rfl rfl rfl rfl)) ?_
  refine d_any rfl want_none rfl (fun _ => (y_move (v := .bool _) rfl rfl)) ?_
  refine d_take rfl (want_yes rfl rfl rfl) rfl hs82 (fun _ hq => (y_loadN (vs := [_, _]) Try.isAgg34 Try.sizeOf34 hq.drop.drop.drop.tail.drop.drop.drop rfl rfl hx3)) ?_
  refine d_eff rfl ?_
  refine w_call (want_yes rfl rfl rfl) Try.call37 rfl rfl rfl rfl (c37 _ _ hs82) ?_
  rintro _ w84 ⟨rfl, hs85⟩
  refine w_nil ?_
  refine qn ⟨hs85, ?_⟩
  refine d_any rfl (want_yes rfl rfl rfl) rfl (fun _ => (y_eqFlat (l := [_, _]) (m := [_, _]) Try.eqGuardType34 Try_flat34 (by first | omega | rfl | (simp only [List.length_map, List.length_set, List.length_append, List.length_take, List.length_drop, List.length_replicate, List.length_cons, List.length_nil] <;> omega)) (by first | omega | rfl | (simp only [List.length_map, List.length_set, List.length_append, List.length_take, List.length_drop, List.length_replicate, List.length_cons, List.length_nil] <;> omega)) rfl rfl rfl rfl rfl rfl)) ?_
  refine d_any rfl want_none rfl (fun _ => (y_pickT (v := .bool _) rfl rfl rfl rfl)) ?_
  refine d_any rfl want_none rfl (fun _ => (y_move (v := .bool _) rfl rfl)) ?_
  refine d_split (fun h86 => ?_) (fun h86 => ?_)
  ·
   try simp only [Bool.not_eq_true', Bool.not_eq_false', decide_eq_true_eq, decide_eq_false_iff_not, Int.not_lt, Int.not_le] at h86
   refine d_any rfl (want_yes rfl rfl rfl) rfl (fun _ => (y_move (v := .slice _ _ _) rfl rfl)) ?_
   refine d_eff rfl ?_
   refine w_bslice (ps := [(0, _)]) (pv := [(0, .int _ _)]) (cs := [_]) (want_yes rfl rfl rfl) rfl rfl (fun w => Try_Za_fb8 _ w) hs85 (fun b87 w88 hs89 => ?_)
   refine w_nil ?_
   refine qn ⟨hs89.tail, ?_⟩
   refine d_eff rfl ?_
   refine w_call (want_yes rfl rfl rfl) Try.call25 rfl rfl rfl rfl (con_true (c25 _ _ [0] [0] _ _ (by decide) hr1.top.app.app.cons.app.app.app.cons (sl_own (i := 0) (rows := [[_]]) rfl (by simp) rfl) hs89) (by decide)) ?_
   rintro _ w91 ⟨rfl, hs92⟩
   refine w_nil ?_
   refine qn ⟨hs92.tail, ?_⟩
   refine d_any rfl want_none rfl (fun _ => (y_pickT (v := .bool _) rfl rfl rfl rfl)) ?_
   refine d_any rfl want_none rfl (fun _ => (y_move (v := .bool _) rfl rfl)) ?_
   refine d_any rfl (want_yes rfl rfl rfl) rfl (fun _ => (y_move (v := .slice _ _ _) rfl rfl)) ?_
   refine d_eff rfl ?_
   refine w_bslice (ps := [(0, _), (1, _)]) (pv := [(0, .int _ _), (1, .int _ _)]) (cs := [_, _]) (want_yes rfl rfl rfl) rfl rfl (fun w => Try_Za_fb9 _ _ w) hs92 (fun b93 w94 hs95 => ?_)
   refine w_nil ?_
   refine qn ⟨hs95.tail.tail, ?_⟩
   refine d_eff rfl ?_
   refine w_call (want_yes rfl rfl rfl) Try.call25 rfl rfl rfl rfl (con_true (c25 _ _ [0, 1] [0, 1] _ _ (by decide) hr2.top.app.cons.app.app.app.cons.cons (sl_own (i := 0) (rows := [[_], [_]]) rfl (by simp) rfl) hs95) (by decide)) ?_
   rintro _ w97 ⟨rfl, hs98⟩
   refine w_nil ?_
   refine qn ⟨hs98.tail.tail, ?_⟩
   refine d_any rfl want_none rfl (fun _ => (y_pickT (v := .bool _) rfl rfl rfl rfl)) ?_
   refine d_any rfl want_none rfl (fun _ => (y_move (v := .bool _) rfl rfl)) ?_
   refine d_any rfl (want_yes rfl rfl rfl) rfl (fun _ => (y_move (v := .slice _ _ _) rfl rfl)) ?_
   refine d_eff rfl ?_
   refine w_bslice (ps := [(0, _), (1, _)]) (pv := [(0, .int _ _), (1, .int _ _)]) (cs := [_, _]) (want_yes rfl rfl rfl) rfl rfl (fun w => Try_Za_fb9 _ _ w) hs98 (fun b99 w100 hs101 => ?_)
   refine w_nil ?_
   refine qn ⟨hs101.tail.tail.tail, ?_⟩
   refine d_eff rfl ?_
   refine w_call (want_yes rfl rfl rfl) Try.call25 rfl rfl rfl rfl (con_true (c25 _ _ [-1, 2] [-1, 2] _ _ (by decide) hr3.top.cons.app.app.app.cons.cons.cons (sl_own (i := 0) (rows := [[_], [_]]) rfl (by simp) rfl) hs101) (by decide)) ?_
   rintro _ w103 ⟨rfl, hs104⟩
   refine w_nil ?_
   refine qn ⟨hs104.tail.tail.tail, ?_⟩
   refine d_any rfl want_none rfl (fun _ => (y_pickT (v := .bool _) rfl rfl rfl rfl)) ?_
   refine d_any rfl want_none rfl (fun _ => (y_move (v := .bool _) rfl rfl)) ?_
   refine d_take rfl (want_yes rfl rfl rfl) rfl hs104.tail.tail.tail (fun _ hq => (y_loadN (vs := [_, _]) Try.isAgg34 Try.sizeOf34 hq.drop.drop.drop rfl rfl hx11)) ?_
   refine d_eff rfl ?_
   refine w_call (want_yes rfl rfl rfl) Try.call37 rfl rfl rfl rfl (c37 _ _ hs104) ?_
   rintro _ w106 ⟨rfl, hs107⟩
   refine w_nil ?_
   refine qn ⟨hs107.tail.tail.tail, ?_⟩
   refine d_any rfl (want_yes rfl rfl rfl) rfl (fun _ => (y_eqFlat (l := [_, _]) (m := [_, _]) Try.eqGuardType34 Try_flat34 (by first | omega | rfl | (simp only [List.length_map, List.length_set, List.length_append, List.length_take, List.length_drop, List.length_replicate, List.length_cons, List.length_nil] <;> omega)) (by first | omega | rfl | (simp only [List.length_map, List.length_set, List.length_append, List.length_take, List.length_drop, List.length_replicate, List.length_cons, List.length_nil] <;> omega)) rfl rfl rfl rfl rfl rfl)) ?_
   refine d_any rfl want_none rfl (fun _ => (y_pickT (v := .bool _) rfl rfl rfl rfl)) ?_
   refine d_any rfl want_none rfl (fun _ => (y_move (v := .bool _) rfl rfl)) ?_
   refine d_split (fun h108 => ?_) (fun h108 => ?_)
   ·
    try simp only [Bool.not_eq_true', Bool.not_eq_false', decide_eq_true_eq, decide_eq_false_iff_not, Int.not_lt, Int.not_le] at h108
    refine d_any rfl (want_yes rfl rfl rfl) rfl (fun _ => (y_move (v := .slice _ _ _) rfl rfl)) ?_
    refine d_any rfl (want_yes rfl rfl rfl) rfl (fun _ => (y_lenS Try.underlying37 rfl rfl)) ?_
    refine d_any rfl (want_yes rfl rfl rfl) rfl (fun _ => (y_eql rfl rfl rfl rfl)) ?_
    refine d_any rfl want_none rfl (fun _ => (y_pickT (v := .bool _) rfl rfl rfl rfl)) ?_
    refine d_any rfl want_none rfl (fun _ => (y_move (v := .bool _) rfl rfl)) ?_
    refine d_split (fun h109 => ?_) (fun h109 => ?_)
    ·
     try simp only [Bool.not_eq_true', Bool.not_eq_false', decide_eq_true_eq, decide_eq_false_iff_not, Int.not_lt, Int.not_le] at h109
     refine d_any rfl (want_yes rfl rfl rfl) rfl (fun _ => (y_move (v := .slice _ _ _) rfl rfl)) ?_
     refine d_eff rfl ?_
     refine w_bslice (ps := [(0, _), (1, _)]) (pv := [(0, .int _ _), (1, .int _ _)]) (cs := [_, _]) (want_yes rfl rfl rfl) rfl rfl (fun w => Try_Za_fb9 _ _ w) hs107 (fun b110 w111 hs112 => ?_)
     refine w_nil ?_
     refine qn ⟨hs112.tail.tail.tail.tail, ?_⟩
     refine d_eff rfl ?_
     refine w_call (want_yes rfl rfl rfl) Try.call25 rfl rfl rfl rfl (con_true (c25 _ _ [2, 3] [2, 3] _ _ (by decide) hr5.top.app.app.cons.cons.cons.cons (sl_own (i := 0) (rows := [[_], [_]]) rfl (by simp) rfl) hs112) (by decide)) ?_
     rintro _ w114 ⟨rfl, hs115⟩
     refine w_nil ?_
     refine qn ⟨hs115.tail.tail.tail.tail, ?_⟩
     refine d_any rfl want_none rfl (fun _ => (y_pickT (v := .bool _) rfl rfl rfl rfl)) ?_
     refine d_any rfl want_none rfl (fun _ => (y_move (v := .bool _) rfl rfl)) ?_
     refine d_any rfl (want_yes rfl rfl rfl) rfl (fun _ => (y_move (v := .slice _ _ _) rfl rfl)) ?_
     refine d_eff rfl ?_
     refine w_bslice (ps := [(0, _)]) (pv := [(0, .int _ _)]) (cs := [_]) (want_yes rfl rfl rfl) rfl rfl (fun w => Try_Za_fb8 _ w) hs115 (fun b116 w117 hs118 => ?_)
     refine w_nil ?_
     refine qn ⟨hs118.tail.tail.tail.tail.tail, ?_⟩
     refine d_eff rfl ?_
     refine w_call (want_yes rfl rfl rfl) Try.call25 rfl rfl rfl rfl (con_true (c25 _ _ [0] [0] _ _ (by decide) hr6.top.app.cons.cons.cons.cons.cons (sl_own (i := 0) (rows := [[_]]) rfl (by simp) rfl) hs118) (by decide)) ?_
     rintro _ w120 ⟨rfl, hs121⟩
     refine w_nil ?_
     refine qn ⟨hs121.tail.tail.tail.tail.tail, ?_⟩
     refine d_any rfl want_none rfl (fun _ => (y_pickT (v := .bool _) rfl rfl rfl rfl)) ?_
     refine d_any rfl want_none rfl (fun _ => (y_move (v := .bool _) rfl rfl)) ?_
     refine d_any rfl (want_yes rfl rfl rfl) rfl (fun _ => (y_move (v := .int _ _) rfl rfl)) ?_
     refine d_any rfl (want_yes rfl rfl rfl) rfl (fun _ => (y_eql rfl rfl rfl rfl)) ?_
     refine d_any rfl want_none rfl (fun _ => (y_pickT (v := .bool _) rfl rfl rfl rfl)) ?_
     refine d_any rfl want_none rfl (fun _ => (y_move (v := .bool _) rfl rfl)) ?_
     refine d_any rfl (want_yes rfl rfl rfl) rfl (fun _ => (y_move (v := .int _ _) rfl rfl)) ?_
     refine d_any rfl (want_yes rfl rfl rfl) rfl (fun _ => (y_eql rfl rfl rfl rfl)) ?_
     refine d_any rfl want_none rfl (fun _ => (y_pickT (v := .bool _) rfl rfl rfl rfl)) ?_
     refine d_any rfl want_none rfl (fun _ => (y_move (v := .bool _) rfl rfl)) ?_
     refine d_any rfl (want_yes rfl rfl rfl) rfl (fun _ => (y_move (v := .slice _ _ _) rfl rfl)) ?_
     refine d_any rfl (want_yes rfl rfl rfl) rfl (fun _ => (y_lenS Try.underlying37 rfl rfl)) ?_
     refine d_any rfl (want_yes rfl rfl rfl) rfl (fun _ => (y_eql rfl rfl rfl rfl)) ?_
     refine d_any rfl want_none rfl (fun _ => (y_pickT (v := .bool _) rfl rfl rfl rfl)) ?_
     refine d_any rfl want_none rfl (fun _ => (y_move (v := .bool _) rfl rfl)) ?_
     refine d_split (fun h122 => ?_) (fun h122 => ?_)
     ·
      try simp only [Bool.not_eq_true', Bool.not_eq_false', decide_eq_true_eq, decide_eq_false_iff_not, Int.not_lt, Int.not_le] at h122
      refine d_eff rfl ?_
      refine w_call (want_yes rfl rfl rfl) Try.call20 rfl rfl rfl rfl (c20 hs121) ?_
      rintro _ w124 ⟨rfl, hs125⟩
      refine w_nil ?_
      refine qn ⟨hs125.tail.tail.tail.tail.tail, ?_⟩
      refine d_any rfl want_none rfl (fun _ => (y_pickT (v := .bool _) rfl rfl rfl rfl)) ?_
      refine d_any rfl want_none rfl (fun _ => (y_assign (v := .bool _) rfl rfl)) ?_
      refine d_nil ?_
      refine q_then (hK79 _ _ ?_)
      refine w_ret ?_
      refine q_ret (l := [.tmp 0]) (vs := [_]) rfl ⟨⟨rfl, show _ = (.bool _ : Value) from rfl⟩, trivial⟩ ?_
      exact ⟨rfl, (St.cast hZ hs125.tail.tail.tail.tail.tail.drop.drop.drop.tail.drop.drop.drop.tail).tail.tail.drop.tail.drop⟩
     ·
      exfalso; simp at h122
    ·
     exfalso; simp at h109
   ·
    exfalso; simp at h108
  ·
   exfalso; simp at h86

end Go.Proofs
