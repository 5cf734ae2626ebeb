/- Walks of this seat, printed by gen.py over the engine: what each function returns, in whatever world. No conditions but those of each contract. -/
import Derived.Test.YtbnnmjfjibneaaaG
set_option linter.unusedVariables false
set_option linter.unusedSimpArgs false
set_option maxRecDepth 20000
namespace Go.Proofs
open Go.Rt Go.Rt.Sh
attribute [local irreducible] WL WC Con Yd At Ats Sl Agree DW
theorem Try_H_fb2 (x0 : Int) (w : World) : (Instr.buildSlice 30 1 [(0, .int .i64 x0)].toArray).run Try.prog w = .ok (.slice (some ⟨w.heap.size, 0, none⟩) 1 1) (w.alloc (Go.Rt.blk 3 [.int .i64 x0])) := by kernel_rfl
theorem enter_chk {m : Market} {n : Int} {l : List Int} (h : enterE m n l = 0) : (check m).2.2 = 0 := (enterE_ok h).1
theorem someE_enter {m : Market} {l : List Int} (h : someE m l = 0) : enterE m m.shops.length l = 0 := by
  unfold someE at h
  by_cases h1 : enterE m m.shops.length l = 0
  · exact h1
  · rw [if_pos h1] at h; exact absurd h h1
theorem someE_1 {m : Market} {l : List Int} (h : enterE m m.shops.length l ≠ 0) : someE m l = enterE m m.shops.length l := by unfold someE; rw [if_pos h]
theorem someE_2 {m : Market} {l : List Int} (h : enterE m m.shops.length l = 0) (h2 : orBits 0 l = none) : someE m l = 2 := by unfold someE; rw [if_neg (by simp [h]), h2]
theorem someE_0 {m : Market} {l : List Int} {s : Nat} (h : enterE m m.shops.length l = 0) (h2 : orBits 0 l = some s) : someE m l = 0 ∧ someS l = s := by unfold someE someS; rw [if_neg (by simp [h]), h2]; exact ⟨rfl, rfl⟩
theorem yd_cast {P : Program} {a : Act} {o : Oper} {w : World} {k : IntKind} {z z' : Int} (h : z = z') (hy : Yd P a o w (.int k z)) : Yd P a o w (.int k z') := h ▸ hy
theorem shl_small {x : Nat} (h : x < 4) : 1 <<< x < 16 := by
  match x, h with
  | 0, _ => decide
  | 1, _ => decide
  | 2, _ => decide
  | 3, _ => decide
theorem shl_all {x : Nat} (h : x ≤ 4) : 1 ≤ 1 <<< x ∧ 1 <<< x ≤ 16 := by
  match x, h with
  | 0, _ => decide
  | 1, _ => decide
  | 2, _ => decide
  | 3, _ => decide
  | 4, _ => decide
theorem eq2 {w0 w : World} {B M F : List (Nat × Obj)} {x y : Nat × Obj} (h : St w0 w (B ++ (M ++ (x :: y :: F)))) : St w0 w ((B ++ (M ++ [x, y])) ++ F) := by
  have e : (B ++ (M ++ [x, y])) ++ F = B ++ (M ++ (x :: y :: F)) := by rw [List.append_assoc, List.append_assoc]; rfl
  rw [e]; exact h
theorem own_snoc {v : Value} {l : List Int} {z : Int} {B : List (Nat × Obj)} (h : Rt.Own v 3 1 (l.length + 1) (iv l ++ [[Value.int .i64 z]].flatten) B) : Rt.Own v 3 1 (l ++ [z]).length (iv (l ++ [z])) B := by simpa [iv] using h
theorem pos_shr {s y : Nat} (h : (0:Int) < ((s >>> y : Nat) : Int)) : 0 < s >>> y := by omega
theorem not_pos_shr {s y : Nat} (h : ((s >>> y : Nat) : Int) ≤ 0) : ¬ 0 < s >>> y := by omega
theorem withoutTo_take {m : Market} {b : Nat} (h1 : before (listL b m.shops.length) (withoutTo m b) = true) (h2 : servedS m (allX m false) (bitDiff (1 <<< m.shops.length - 1) b) = true) : listL b m.shops.length = withoutTo m (b + 1) := by
  simp only [withoutTo, withoutStep]; rw [h1, h2]; rfl
theorem withoutTo_1 {m : Market} {b : Nat} (h1 : before (listL b m.shops.length) (withoutTo m b) = false) : withoutTo m b = withoutTo m (b + 1) := by
  simp only [withoutTo, withoutStep]; rw [h1]; rfl
theorem withoutTo_2 {m : Market} {b : Nat} (h2 : servedS m (allX m false) (bitDiff (1 <<< m.shops.length - 1) b) = false) : withoutTo m b = withoutTo m (b + 1) := by
  simp only [withoutTo, withoutStep]; rw [h2, Bool.and_false]; rfl
theorem c66 {w0 w : World} {F : List (Nat × Obj)} (m : Market) (p : At3) (hm : MIn w0 F m p) (al : Option Addr) (cl : Nat) (l : List Int) (hll : l.length ≤ 9223372036854775807) (hl : Sl w0 F al 1 (l.map fun x => [Value.int .i64 x]))  (hs : St w0 w F) :
  Con Try.prog 66 [.agg (m.cells p).toArray, .slice al l.length cl] w fun v w' => (someE m l ≠ 0 ∧ v = .tuple #[.pointer none, .int .i64 0, .int .i64 (someE m l)] ∧ St w0 w' F) ∨ (someE m l = 0 ∧ ∃ mb mm M, v = .tuple #[.pointer (some ⟨mb, 0, none⟩), .int .i64 (someS l : Nat), .int .i64 0] ∧ Memo m mm M ∧ St w0 w' (M ++ ((mb, blk 122 [.slice p.ar m.rooms.length p.cr, .slice p.as m.shops.length p.cs, .slice p.at_ m.trains.length p.ct, .map (some mm)]) :: F))) := by
  refine con_of_wc (n := 38) Try.func66 rfl rfl (Nat.le_of_ble_eq_true rfl) ?_
  have hls := hm.ls
  refine w_seq (fun K2 hK1 => ?_)
  refine w_region ?_
  refine w_box (v := .agg #[.slice _ _ _, .slice _ _ _, .slice _ _ _]) (cs := [_, _, _]) want_none rfl rfl rfl hs (fun b3 w4 hs5 => ?_)
  refine w_pure want_none (y_assign (v := _) rfl rfl) rfl ?_
  refine w_pure want_none (y_assign (v := _) rfl rfl) rfl ?_
  refine w_pure want_none (y_assign (v := _) rfl rfl) rfl ?_
  refine w_nil ?_
  refine q_then (hK1 _ _ ?_)
  refine w_seq (fun K7 hK6 => ?_)
  refine w_region ?_
  refine w_pure want_none (y_loadN (vs := [_, _, _]) Try.isAgg26 Try.sizeOf26 hs5 rfl rfl (ats_own (i := 0) (vs := [_, _, _]) rfl rfl)) rfl ?_
  refine w_pure want_none (y_fieldAddr (o := 1) (i := 1) Try.underlying26 rfl Try.sizeOf23 rfl rfl rfl) rfl ?_
  refine w_pure want_none (y_load1 Try.isAgg23 hs5 rfl rfl (ats_own (i := 0) (vs := [_]) rfl rfl)) rfl ?_
  refine w_pure want_none (y_lenS Try.underlying23 rfl rfl) rfl ?_
  refine w_pure want_none (y_move (v := .slice _ _ _) rfl rfl) rfl ?_
  refine w_call want_none Try.call64 rfl rfl rfl rfl (c64 m p hm.cons _ (by omega) (by omega) _ _ l hll hl.cons hs5) ?_
  rintro _ w9 (⟨hee, rfl, hs10⟩ | ⟨hee, mb, mm, M, rfl, hM, hs10⟩)
  ·
    refine w_pure want_none (y_move (v := .tuple _) rfl rfl) rfl ?_
    refine w_pure want_none (y_extract (v := .pointer _) rfl rfl rfl) rfl ?_
    refine w_pure want_none (y_extract (v := .int _ _) rfl rfl rfl) rfl ?_
    refine w_pure want_none (y_assign (v := .pointer _) rfl rfl) rfl ?_
    refine w_pure want_none (y_assign (v := .int _ _) rfl rfl) rfl ?_
    refine w_nil ?_
    refine q_then (hK6 _ _ ?_)
    refine w_seq (fun K12 hK11 => ?_)
    refine w_seq (fun K14 hK13 => ?_)
    refine w_region ?_
    refine w_pure want_none (y_move (v := .int _ _) rfl rfl) rfl ?_
    refine w_pure want_none (y_neq rfl rfl rfl rfl) rfl ?_
    refine w_nil ?_
    refine q_then (hK13 _ _ ?_)
    refine w_cond rfl rfl (fun h15 => ?_) (fun h15 => ?_)
    ·
      try simp only [Bool.not_eq_true', Bool.not_eq_false', decide_eq_true_eq, decide_eq_false_iff_not, Int.not_lt, Int.not_le] at h15
      refine w_seq (fun K17 hK16 => ?_)
      refine w_region ?_
      refine w_pure want_none (y_move (v := .int _ _) rfl rfl) rfl ?_
      refine w_pure want_none (y_assign (v := _) rfl rfl) rfl ?_
      refine w_pure want_none (y_assign (v := _) rfl rfl) rfl ?_
      refine w_pure want_none (y_assign (v := .int _ _) rfl rfl) rfl ?_
      refine w_nil ?_
      refine q_then (hK16 _ _ ?_)
      refine w_ret ?_
      refine q_then_ret ?_
      refine q_ret (l := [.tmp 4, .tmp 5, .tmp 6]) (vs := [_, _, _]) rfl ⟨⟨rfl, show _ = (.pointer _ : Value) from rfl⟩, ⟨rfl, show _ = (.int _ _ : Value) from rfl⟩, ⟨rfl, show _ = (.int _ _ : Value) from rfl⟩, trivial⟩ ?_
      first
        | exact .inl ⟨by rw [someE_1 hee]; exact hee, by rw [someE_1 hee]; rfl, hs10.tail⟩
        | exact .inl ⟨by rw [someE_2 hee (by rw [hob]; exact orBits_none hi2 (pos_shr (by assumption)))]; decide, by rw [someE_2 hee (by rw [hob]; exact orBits_none hi2 (pos_shr (by assumption)))]; rfl, hs10.tail⟩
        | (have hq := someE_0 hee (hob.trans (orBits_end (by omega)))
           exact .inr ⟨hq.1, mb, mm, M, by rw [hq.2]; rfl, hM, drop_3rd hs10⟩)
    ·
      exfalso
      try simp only [Bool.not_eq_true', Bool.not_eq_false', decide_eq_true_eq, decide_eq_false_iff_not, Int.not_lt, Int.not_le] at h15
      first | exact hee h15 | exact h15 hee
  ·
    replace hs10 := (show St _ _ (M ++ (_ :: _ :: F)) from hs10)
    have hk : MK w0 ((mb, blk 122 [.slice p.ar m.rooms.length p.cr, .slice p.as m.shops.length p.cs, .slice p.at_ m.trains.length p.ct, .map (some mm)]) :: (b3, blk 26 (m.cells p)) :: F) m p mb mm := ⟨hm.cons.cons, ats_own (i := 0) (vs := [_, _, _, _]) rfl rfl, check_ok (enter_chk hee)⟩
    have hlr := hk.ok.lr
    have hls := hk.ok.ls
    have hlt := hk.ok.lt
    have hbx : Ats w0 ((b3, blk 26 (m.cells p)) :: F) b3 0 (m.cells p) := ats_own (i := 0) rfl rfl
    refine w_pure want_none (y_move (v := .tuple _) rfl rfl) rfl ?_
    refine w_pure want_none (y_extract (v := .pointer _) rfl rfl rfl) rfl ?_
    refine w_pure want_none (y_extract (v := .int _ _) rfl rfl rfl) rfl ?_
    refine w_pure want_none (y_assign (v := .pointer _) rfl rfl) rfl ?_
    refine w_pure want_none (y_assign (v := .int _ _) rfl rfl) rfl ?_
    refine w_nil ?_
    refine q_then (hK6 _ _ ?_)
    refine w_seq (fun K19 hK18 => ?_)
    refine w_seq (fun K21 hK20 => ?_)
    refine w_region ?_
    refine w_pure want_none (y_move (v := .int _ _) rfl rfl) rfl ?_
    refine w_pure want_none (y_neq rfl rfl rfl rfl) rfl ?_
    refine w_nil ?_
    refine q_then (hK20 _ _ ?_)
    refine w_condF rfl rfl ?_
    refine w_skip ?_
    refine q_then (hK18 _ _ ?_)
    refine w_seq (fun K23 hK22 => ?_)
    refine w_seq (fun K25 hK24 => ?_)
    refine w_region ?_
    refine w_pure want_none (y_move (v := .slice _ _ _) rfl rfl) rfl ?_
    refine w_pure want_none (y_lenS Try.underlying30 rfl rfl) rfl ?_
    refine w_pure want_none (y_move (v := _) rfl rfl) rfl ?_
    refine w_nil ?_
    refine q_then (hK24 _ _ ?_)
    refine w_block ?_
    refine w_loop [4, 5, 6, 8, 23, 24, 25, 26, 27, 28, 29, 30, 31, 32, 33, 34, 35] [4, 5, 23] (fun k vs w => ∃ i s : Nat, vs = [.pointer (some ⟨mb, 0, none⟩), .int .i64 s, .int .i64 i] ∧ s < 16 ∧ i ≤ l.length ∧ k = l.length - i ∧ orBits 0 l = orBits s (l.drop i) ∧ St w0 w (M ++ ((mb, blk 122 [.slice p.ar m.rooms.length p.cr, .slice p.as m.shops.length p.cs, .slice p.at_ m.trains.length p.ct, .map (some mm)]) :: (b3, blk 26 (m.cells p)) :: F))) (l.length) ?_ ?_
    ·
      exact ⟨0, 0, rfl, by omega, by omega, by omega, rfl, hs10⟩
    ·
      intro k vs μ w28 hI K27 hN26
      obtain ⟨i, s, rfl, hs16, hia, rfl, hob, hs⟩ := hI
      refine w_seq (fun K30 hK29 => ?_)
      refine w_region ?_
      refine w_pure want_none (y_lss rfl rfl rfl rfl) rfl ?_
      refine w_nil ?_
      refine q_then (hK29 _ _ ?_)
      refine w_seq (fun K32 hK31 => ?_)
      refine w_cond rfl rfl (fun h33 => ?_) (fun h33 => ?_)
      ·
        try simp only [Bool.not_eq_true', Bool.not_eq_false', decide_eq_true_eq, decide_eq_false_iff_not, Int.not_lt, Int.not_le] at h33
        refine w_skip ?_
        refine q_then (hK31 _ _ ?_)
        refine w_seq (fun K35 hK34 => ?_)
        refine w_block ?_
        refine w_seq (fun K37 hK36 => ?_)
        have hi2 : i < l.length := by omega
        obtain ⟨bl, ol, hbl, hxl⟩ := sl_ints hl.cons.cons.app hi2
        subst hbl
        have hin := (enterE_ok hee).2 _ (List.getElem_mem hi2)
        have hsm := shl_small (x := (l[i]'hi2).toNat) (by omega)
        refine w_region ?_
        refine w_pure want_none (y_indexS Try.underlying30 Try.sizeOf3 rfl rfl rfl rfl (i := _) rfl (by omega)) rfl ?_
        refine w_pure want_none (y_load1 Try.isAgg3 hs rfl rfl hxl) rfl ?_
        refine w_pure want_none (y_assign (v := .int _ _) rfl rfl) rfl ?_
        refine w_nil ?_
        refine q_then (hK36 _ _ ?_)
        refine w_seq (fun K39 hK38 => ?_)
        refine w_seq (fun K41 hK40 => ?_)
        refine w_region ?_
        refine w_pure want_none (y_move (v := .int _ _) rfl rfl) rfl ?_
        refine w_pure want_none (y_move (v := .int _ _) rfl rfl) rfl ?_
        refine w_pure want_none (y_shr (x := _) (y := (l[i]'hi2).toNat) rfl rfl rfl rfl rfl (by first | rfl | omega) (by first | omega | exact shr_lt (by omega))) rfl ?_
        refine w_pure want_none (y_gtr rfl rfl rfl rfl) rfl ?_
        refine w_nil ?_
        refine q_then (hK40 _ _ ?_)
        refine w_cond rfl rfl (fun h42 => ?_) (fun h42 => ?_)
        ·
          try simp only [Bool.not_eq_true', Bool.not_eq_false', decide_eq_true_eq, decide_eq_false_iff_not, Int.not_lt, Int.not_le] at h42
          refine w_seq (fun K44 hK43 => ?_)
          refine w_region ?_
          refine w_pure want_none (y_assign (v := _) rfl rfl) rfl ?_
          refine w_pure want_none (y_assign (v := _) rfl rfl) rfl ?_
          refine w_pure want_none (y_assign (v := _) rfl rfl) rfl ?_
          refine w_nil ?_
          refine q_then (hK43 _ _ ?_)
          refine w_ret ?_
          refine q_then_ret ?_
          refine q_blk_ret ?_
          refine q_then_ret ?_
          refine q_then_ret ?_
          refine q_blk_ret ?_
          refine q_then_ret ?_
          refine q_ret (l := [.tmp 4, .tmp 5, .tmp 6]) (vs := [_, _, _]) rfl ⟨⟨rfl, show _ = (.pointer _ : Value) from rfl⟩, ⟨rfl, show _ = (.int _ _ : Value) from rfl⟩, ⟨rfl, show _ = (.int _ _ : Value) from rfl⟩, trivial⟩ ?_
          first
            | exact .inl ⟨by rw [someE_1 hee]; exact hee, by rw [someE_1 hee]; rfl, hs.drop.tail.tail⟩
            | exact .inl ⟨by rw [someE_2 hee (by rw [hob]; exact orBits_none hi2 (pos_shr (by assumption)))]; decide, by rw [someE_2 hee (by rw [hob]; exact orBits_none hi2 (pos_shr (by assumption)))]; rfl, hs.drop.tail.tail⟩
            | (have hq := someE_0 hee (hob.trans (orBits_end (by omega)))
               exact .inr ⟨hq.1, mb, mm, M, by rw [hq.2]; rfl, hM, drop_3rd hs⟩)
        ·
          try simp only [Bool.not_eq_true', Bool.not_eq_false', decide_eq_true_eq, decide_eq_false_iff_not, Int.not_lt, Int.not_le] at h42
          refine w_skip ?_
          refine q_then (hK38 _ _ ?_)
          refine w_region ?_
          refine w_pure want_none (y_move (v := .int _ _) rfl rfl) rfl ?_
          refine w_pure want_none (y_move (v := .int _ _) rfl rfl) rfl ?_
          refine w_pure want_none (y_shl (x := 1) (y := (l[i]'hi2).toNat) rfl rfl rfl rfl rfl (by first | rfl | omega) (by first | omega | exact shr_lt (by omega)) (by first | omega | exact shr_lt (by omega))) rfl ?_
          refine w_pure want_none (y_or (x := _) (y := _) rfl rfl rfl rfl rfl rfl (by first | omega | exact shr_lt (by omega)) (by first | omega | exact shr_lt (by omega))) rfl ?_
          refine w_pure want_none (y_assign (v := .int _ _) rfl rfl) rfl ?_
          refine w_nil ?_
          refine q_blk_normal ?_
          refine q_then (hK34 _ _ ?_)
          refine w_region ?_
          refine w_pure want_none (y_add rfl rfl rfl rfl (by omega) (by omega)) rfl ?_
          refine w_pure want_none (y_move (v := .int _ _) rfl rfl) rfl ?_
          refine w_nil ?_
          refine q_then (hN26 _ _ (Nx.intro (l.length - (i + 1)) (by omega) (by repeat (first | exact agree_mix | refine agree_upd rfl ?_ | refine agree_updL rfl ?_ _ | refine agree_mixin rfl ?_)) ?_))
          exact ⟨i + 1, _, rfl, or_small hs16 (by omega), by omega, rfl, by rw [hob]; exact orBits_step hi2 (not_pos_shr (by assumption)), hs⟩
      ·
        try simp only [Bool.not_eq_true', Bool.not_eq_false', decide_eq_true_eq, decide_eq_false_iff_not, Int.not_lt, Int.not_le] at h33
        refine w_exit ?_
        refine q_then_exit ?_
        refine q_then_exit ?_
        refine q_blk_this ?_
        refine q_then (hK22 _ _ ?_)
        refine w_seq (fun K46 hK45 => ?_)
        refine w_region ?_
        refine w_pure want_none (y_move (v := .pointer _) rfl rfl) rfl ?_
        refine w_pure want_none (y_move (v := .int _ _) rfl rfl) rfl ?_
        refine w_pure want_none (y_assign (v := .pointer _) rfl rfl) rfl ?_
        refine w_pure want_none (y_assign (v := .int _ _) rfl rfl) rfl ?_
        refine w_pure want_none (y_assign (v := _) rfl rfl) rfl ?_
        refine w_nil ?_
        refine q_then (hK45 _ _ ?_)
        refine w_ret ?_
        refine q_ret (l := [.tmp 4, .tmp 5, .tmp 6]) (vs := [_, _, _]) rfl ⟨⟨rfl, show _ = (.pointer _ : Value) from rfl⟩, ⟨rfl, show _ = (.int _ _ : Value) from rfl⟩, ⟨rfl, show _ = (.int _ _ : Value) from rfl⟩, trivial⟩ ?_
        first
          | exact .inl ⟨by rw [someE_1 hee]; exact hee, by rw [someE_1 hee]; rfl, hs.drop.tail.tail⟩
          | exact .inl ⟨by rw [someE_2 hee (by rw [hob]; exact orBits_none hi2 (pos_shr (by assumption)))]; decide, by rw [someE_2 hee (by rw [hob]; exact orBits_none hi2 (pos_shr (by assumption)))]; rfl, hs.drop.tail.tail⟩
          | (have hq := someE_0 hee (hob.trans (orBits_end (by omega)))
             exact .inr ⟨hq.1, mb, mm, M, by rw [hq.2]; rfl, hM, drop_3rd hs⟩)

theorem c22 {w0 w : World} {F : List (Nat × Obj)} (m : Market) (p : At3) (hm : MIn w0 F m p) (al : Option Addr) (cl : Nat) (l : List Int) (hll : l.length ≤ 9223372036854775807) (hl : Sl w0 F al 1 (l.map fun x => [Value.int .i64 x]))  (hs : St w0 w F) :
  Con Try.prog 22 [.agg (m.cells p).toArray, .slice al l.length cl] w fun v w' => v = .tuple #[.int .i64 (canP m l).1, .int .i64 (canP m l).2] ∧ St w0 w' F := by
  refine con_of_wc (n := 32) Try.func22 rfl rfl (Nat.le_of_ble_eq_true rfl) ?_
  refine w_seq (fun K2 hK1 => ?_)
  refine w_region ?_
  refine w_box (v := .agg #[.slice _ _ _, .slice _ _ _, .slice _ _ _]) (cs := [_, _, _]) want_none rfl rfl rfl hs (fun b3 w4 hs5 => ?_)
  refine w_pure want_none (y_assign (v := _) rfl rfl) rfl ?_
  refine w_pure want_none (y_assign (v := _) rfl rfl) rfl ?_
  refine w_nil ?_
  refine q_then (hK1 _ _ ?_)
  refine w_seq (fun K7 hK6 => ?_)
  refine w_region ?_
  refine w_pure want_none (y_loadN (vs := [_, _, _]) Try.isAgg26 Try.sizeOf26 hs5 rfl rfl (ats_own (i := 0) (vs := [_, _, _]) rfl rfl)) rfl ?_
  refine w_pure want_none (y_move (v := .slice _ _ _) rfl rfl) rfl ?_
  refine w_call want_none Try.call66 rfl rfl rfl rfl (c66 m p hm.cons _ _ l hll hl.cons hs5) ?_
  rintro _ w9 (⟨hee, rfl, hs10⟩ | ⟨hee, mb, mm, M, rfl, hM, hs10⟩)
  ·
    refine w_pure want_none (y_move (v := .tuple _) rfl rfl) rfl ?_
    refine w_pure want_none (y_extract (v := .pointer _) rfl rfl rfl) rfl ?_
    refine w_pure want_none (y_extract (v := .int _ _) rfl rfl rfl) rfl ?_
    refine w_pure want_none (y_extract (v := .int _ _) rfl rfl rfl) rfl ?_
    refine w_pure want_none (y_assign (v := .pointer _) rfl rfl) rfl ?_
    refine w_pure want_none (y_assign (v := .int _ _) rfl rfl) rfl ?_
    refine w_pure want_none (y_assign (v := .int _ _) rfl rfl) rfl ?_
    refine w_nil ?_
    refine q_then (hK6 _ _ ?_)
    refine w_seq (fun K12 hK11 => ?_)
    refine w_block ?_
    refine w_seq (fun K14 hK13 => ?_)
    refine w_region ?_
    refine w_pure want_none (y_move (v := .int _ _) rfl rfl) rfl ?_
    refine w_pure want_none (y_neq rfl rfl rfl rfl) rfl ?_
    refine w_pure want_none (y_assign (v := .bool _) rfl rfl) rfl ?_
    refine w_nil ?_
    refine q_then (hK13 _ _ ?_)
    refine w_cond rfl rfl (fun h15 => ?_) (fun h15 => ?_)
    ·
      try simp only [Bool.not_eq_true', Bool.not_eq_false', decide_eq_true_eq, decide_eq_false_iff_not, Int.not_lt, Int.not_le] at h15
      refine w_seq (fun K17 hK16 => ?_)
      refine w_region ?_
      refine w_pure want_none (y_move (v := .int _ _) rfl rfl) rfl ?_
      refine w_pure want_none (y_assign (v := _) rfl rfl) rfl ?_
      refine w_pure want_none (y_assign (v := .int _ _) rfl rfl) rfl ?_
      refine w_nil ?_
      refine q_then (hK16 _ _ ?_)
      refine w_ret ?_
      refine q_blk_ret ?_
      refine q_then_ret ?_
      refine q_ret (l := [.tmp 4, .tmp 5]) (vs := [_, _]) rfl ⟨⟨rfl, show _ = (.int _ _ : Value) from rfl⟩, ⟨rfl, show _ = (.int _ _ : Value) from rfl⟩, trivial⟩ ?_
      exact ⟨by simp [canP, retV, hee, h15], hs10.tail⟩
    ·
      exfalso
      try simp only [Bool.not_eq_true', Bool.not_eq_false', decide_eq_true_eq, decide_eq_false_iff_not, Int.not_lt, Int.not_le] at h15
      first | exact hee h15 | exact h15 hee
  ·
    replace hs10 := (show St _ _ (M ++ (_ :: _ :: F)) from hs10)
    have hk : MK w0 ((mb, blk 122 [.slice p.ar m.rooms.length p.cr, .slice p.as m.shops.length p.cs, .slice p.at_ m.trains.length p.ct, .map (some mm)]) :: (b3, blk 26 (m.cells p)) :: F) m p mb mm := ⟨hm.cons.cons, ats_own (i := 0) (vs := [_, _, _, _]) rfl rfl, check_ok (enter_chk (someE_enter hee))⟩
    have hlr := hk.ok.lr
    have hls := hk.ok.ls
    have hlt := hk.ok.lt
    have hbx : Ats w0 ((b3, blk 26 (m.cells p)) :: F) b3 0 (m.cells p) := ats_own (i := 0) rfl rfl
    refine w_pure want_none (y_move (v := .tuple _) rfl rfl) rfl ?_
    refine w_pure want_none (y_extract (v := .pointer _) rfl rfl rfl) rfl ?_
    refine w_pure want_none (y_extract (v := .int _ _) rfl rfl rfl) rfl ?_
    refine w_pure want_none (y_extract (v := .int _ _) rfl rfl rfl) rfl ?_
    refine w_pure want_none (y_assign (v := .pointer _) rfl rfl) rfl ?_
    refine w_pure want_none (y_assign (v := .int _ _) rfl rfl) rfl ?_
    refine w_pure want_none (y_assign (v := .int _ _) rfl rfl) rfl ?_
    refine w_nil ?_
    refine q_then (hK6 _ _ ?_)
    refine w_seq (fun K19 hK18 => ?_)
    refine w_block ?_
    refine w_seq (fun K21 hK20 => ?_)
    refine w_region ?_
    refine w_pure want_none (y_move (v := .int _ _) rfl rfl) rfl ?_
    refine w_pure want_none (y_neq rfl rfl rfl rfl) rfl ?_
    refine w_pure want_none (y_assign (v := .bool _) rfl rfl) rfl ?_
    refine w_nil ?_
    refine q_then (hK20 _ _ ?_)
    refine w_condF rfl rfl ?_
    refine w_seq (fun K23 hK22 => ?_)
    refine w_region ?_
    refine w_pure want_none (y_move (v := .pointer _) rfl rfl) rfl ?_
    refine w_pure want_none (y_move (v := .pointer _) rfl rfl) rfl ?_
    refine w_call want_none Try.call68 rfl rfl rfl rfl (c68 m p mb mm hk.app _ hs10) ?_
    rintro _ w25 ⟨rfl, hs26⟩
    refine w_pure want_none (y_move (v := .int _ _) rfl rfl) rfl ?_
    refine w_call want_none Try.call67 rfl rfl rfl rfl (c67 (X := []) m p mb mm hk _ (allX_small hk.ok _) _ hM hs26) ?_
    rintro _ w28 ⟨rfl, M30, hM30, hs29⟩
    replace hs29 := (show St _ _ (M30 ++ (_ :: _ :: F)) from hs29)
    refine w_pure want_none (y_assign (v := .bool _) rfl rfl) rfl ?_
    refine w_nil ?_
    refine q_then (hK22 _ _ ?_)
    refine w_cond rfl rfl (fun h32 => ?_) (fun h32 => ?_)
    ·
      try simp only [Bool.not_eq_true', Bool.not_eq_false', decide_eq_true_eq, decide_eq_false_iff_not, Int.not_lt, Int.not_le] at h32
      refine w_seq (fun K34 hK33 => ?_)
      refine w_region ?_
      refine w_pure want_none (y_assign (v := _) rfl rfl) rfl ?_
      refine w_pure want_none (y_assign (v := _) rfl rfl) rfl ?_
      refine w_nil ?_
      refine q_then (hK33 _ _ ?_)
      refine w_ret ?_
      refine q_blk_ret ?_
      refine q_then_ret ?_
      refine q_ret (l := [.tmp 4, .tmp 5]) (vs := [_, _]) rfl ⟨⟨rfl, show _ = (.int _ _ : Value) from rfl⟩, ⟨rfl, show _ = (.int _ _ : Value) from rfl⟩, trivial⟩ ?_
      exact ⟨by simp [canP, retV, hee, h32], hs29.drop.tail.tail⟩
    ·
      try simp only [Bool.not_eq_true', Bool.not_eq_false', decide_eq_true_eq, decide_eq_false_iff_not, Int.not_lt, Int.not_le] at h32
      refine w_seq (fun K36 hK35 => ?_)
      refine w_region ?_
      refine w_pure want_none (y_move (v := .pointer _) rfl rfl) rfl ?_
      refine w_pure want_none (y_move (v := .pointer _) rfl rfl) rfl ?_
      refine w_call want_none Try.call68 rfl rfl rfl rfl (c68 m p mb mm hk.app _ hs29) ?_
      rintro _ w38 ⟨rfl, hs39⟩
      refine w_pure want_none (y_move (v := .int _ _) rfl rfl) rfl ?_
      refine w_call want_none Try.call67 rfl rfl rfl rfl (c67 (X := []) m p mb mm hk _ (allX_small hk.ok _) _ hM30 hs39) ?_
      rintro _ w41 ⟨rfl, M43, hM43, hs42⟩
      replace hs42 := (show St _ _ (M43 ++ (_ :: _ :: F)) from hs42)
      refine w_pure want_none (y_assign (v := .bool _) rfl rfl) rfl ?_
      refine w_nil ?_
      refine q_then (hK35 _ _ ?_)
      refine w_cond rfl rfl (fun h45 => ?_) (fun h45 => ?_)
      ·
        try simp only [Bool.not_eq_true', Bool.not_eq_false', decide_eq_true_eq, decide_eq_false_iff_not, Int.not_lt, Int.not_le] at h45
        refine w_seq (fun K47 hK46 => ?_)
        refine w_region ?_
        refine w_pure want_none (y_assign (v := _) rfl rfl) rfl ?_
        refine w_pure want_none (y_assign (v := _) rfl rfl) rfl ?_
        refine w_nil ?_
        refine q_then (hK46 _ _ ?_)
        refine w_ret ?_
        refine q_blk_ret ?_
        refine q_then_ret ?_
        refine q_ret (l := [.tmp 4, .tmp 5]) (vs := [_, _]) rfl ⟨⟨rfl, show _ = (.int _ _ : Value) from rfl⟩, ⟨rfl, show _ = (.int _ _ : Value) from rfl⟩, trivial⟩ ?_
        exact ⟨by simp [canP, retV, hee, h32, h45], hs42.drop.tail.tail⟩
      ·
        try simp only [Bool.not_eq_true', Bool.not_eq_false', decide_eq_true_eq, decide_eq_false_iff_not, Int.not_lt, Int.not_le] at h45
        refine w_skip ?_
        refine q_blk_normal ?_
        refine q_then (hK18 _ _ ?_)
        refine w_seq (fun K49 hK48 => ?_)
        refine w_region ?_
        refine w_pure want_none (y_assign (v := _) rfl rfl) rfl ?_
        refine w_pure want_none (y_assign (v := _) rfl rfl) rfl ?_
        refine w_nil ?_
        refine q_then (hK48 _ _ ?_)
        refine w_ret ?_
        refine q_ret (l := [.tmp 4, .tmp 5]) (vs := [_, _]) rfl ⟨⟨rfl, show _ = (.int _ _ : Value) from rfl⟩, ⟨rfl, show _ = (.int _ _ : Value) from rfl⟩, trivial⟩ ?_
        exact ⟨by simp [canP, retV, hee, h32, h45], hs42.drop.tail.tail⟩

theorem c24 {w0 w : World} {F : List (Nat × Obj)} (m : Market) (p : At3) (hm : MIn w0 F m p) (al : Option Addr) (cl : Nat) (l : List Int) (hll : l.length ≤ 9223372036854775807) (hl : Sl w0 F al 1 (l.map fun x => [Value.int .i64 x]))  (hs : St w0 w F) :
  Con Try.prog 24 [.agg (m.cells p).toArray, .slice al l.length cl] w fun v w' => ∃ B a c, v = .tuple #[.slice a (proofP m l).1.length c, .int .i64 (proofP m l).2.1, .int .i64 (proofP m l).2.2] ∧ Sl w0 B a 1 ((proofP m l).1.map fun x => [Value.int .i64 x]) ∧ St w0 w' (B ++ F) := by
  refine con_of_wc (n := 31) Try.func24 rfl rfl (Nat.le_of_ble_eq_true rfl) ?_
  refine w_seq (fun K2 hK1 => ?_)
  refine w_region ?_
  refine w_box (v := .agg #[.slice _ _ _, .slice _ _ _, .slice _ _ _]) (cs := [_, _, _]) want_none rfl rfl rfl hs (fun b3 w4 hs5 => ?_)
  refine w_pure want_none (y_assign (v := _) rfl rfl) rfl ?_
  refine w_pure want_none (y_assign (v := _) rfl rfl) rfl ?_
  refine w_pure want_none (y_assign (v := _) rfl rfl) rfl ?_
  refine w_nil ?_
  refine q_then (hK1 _ _ ?_)
  refine w_seq (fun K7 hK6 => ?_)
  refine w_region ?_
  refine w_pure want_none (y_loadN (vs := [_, _, _]) Try.isAgg26 Try.sizeOf26 hs5 rfl rfl (ats_own (i := 0) (vs := [_, _, _]) rfl rfl)) rfl ?_
  refine w_pure want_none (y_move (v := .slice _ _ _) rfl rfl) rfl ?_
  refine w_call want_none Try.call66 rfl rfl rfl rfl (c66 m p hm.cons _ _ l hll hl.cons hs5) ?_
  rintro _ w9 (⟨hee, rfl, hs10⟩ | ⟨hee, mb, mm, M, rfl, hM, hs10⟩)
  ·
    refine w_pure want_none (y_move (v := .tuple _) rfl rfl) rfl ?_
    refine w_pure want_none (y_extract (v := .pointer _) rfl rfl rfl) rfl ?_
    refine w_pure want_none (y_extract (v := .int _ _) rfl rfl rfl) rfl ?_
    refine w_pure want_none (y_extract (v := .int _ _) rfl rfl rfl) rfl ?_
    refine w_pure want_none (y_assign (v := .pointer _) rfl rfl) rfl ?_
    refine w_pure want_none (y_assign (v := .int _ _) rfl rfl) rfl ?_
    refine w_pure want_none (y_assign (v := .int _ _) rfl rfl) rfl ?_
    refine w_nil ?_
    refine q_then (hK6 _ _ ?_)
    refine w_seq (fun K12 hK11 => ?_)
    refine w_seq (fun K14 hK13 => ?_)
    refine w_region ?_
    refine w_pure want_none (y_move (v := .int _ _) rfl rfl) rfl ?_
    refine w_pure want_none (y_neq rfl rfl rfl rfl) rfl ?_
    refine w_nil ?_
    refine q_then (hK13 _ _ ?_)
    refine w_cond rfl rfl (fun h15 => ?_) (fun h15 => ?_)
    ·
      try simp only [Bool.not_eq_true', Bool.not_eq_false', decide_eq_true_eq, decide_eq_false_iff_not, Int.not_lt, Int.not_le] at h15
      refine w_seq (fun K17 hK16 => ?_)
      refine w_region ?_
      refine w_pure want_none (y_move (v := .int _ _) rfl rfl) rfl ?_
      refine w_pure want_none (y_assign (v := _) rfl rfl) rfl ?_
      refine w_pure want_none (y_assign (v := _) rfl rfl) rfl ?_
      refine w_pure want_none (y_assign (v := .int _ _) rfl rfl) rfl ?_
      refine w_nil ?_
      refine q_then (hK16 _ _ ?_)
      refine w_ret ?_
      refine q_then_ret ?_
      refine q_ret (l := [.tmp 4, .tmp 5, .tmp 6]) (vs := [_, _, _]) rfl ⟨⟨rfl, show _ = (.slice _ _ _ : Value) from rfl⟩, ⟨rfl, show _ = (.int _ _ : Value) from rfl⟩, ⟨rfl, show _ = (.int _ _ : Value) from rfl⟩, trivial⟩ ?_
      exact ⟨[], none, 0, by unfold proofP; rw [if_pos hee]; rfl, by unfold proofP; rw [if_pos hee]; exact Sl.nil _ _, hs10.tail⟩
    ·
      exfalso
      try simp only [Bool.not_eq_true', Bool.not_eq_false', decide_eq_true_eq, decide_eq_false_iff_not, Int.not_lt, Int.not_le] at h15
      first | exact hee h15 | exact h15 hee
  ·
    replace hs10 := (show St _ _ (M ++ (_ :: _ :: F)) from hs10)
    have hk : MK w0 ((mb, blk 122 [.slice p.ar m.rooms.length p.cr, .slice p.as m.shops.length p.cs, .slice p.at_ m.trains.length p.ct, .map (some mm)]) :: (b3, blk 26 (m.cells p)) :: F) m p mb mm := ⟨hm.cons.cons, ats_own (i := 0) (vs := [_, _, _, _]) rfl rfl, check_ok (enter_chk (someE_enter hee))⟩
    have hlr := hk.ok.lr
    have hls := hk.ok.ls
    have hlt := hk.ok.lt
    have hbx : Ats w0 ((b3, blk 26 (m.cells p)) :: F) b3 0 (m.cells p) := ats_own (i := 0) rfl rfl
    refine w_pure want_none (y_move (v := .tuple _) rfl rfl) rfl ?_
    refine w_pure want_none (y_extract (v := .pointer _) rfl rfl rfl) rfl ?_
    refine w_pure want_none (y_extract (v := .int _ _) rfl rfl rfl) rfl ?_
    refine w_pure want_none (y_extract (v := .int _ _) rfl rfl rfl) rfl ?_
    refine w_pure want_none (y_assign (v := .pointer _) rfl rfl) rfl ?_
    refine w_pure want_none (y_assign (v := .int _ _) rfl rfl) rfl ?_
    refine w_pure want_none (y_assign (v := .int _ _) rfl rfl) rfl ?_
    refine w_nil ?_
    refine q_then (hK6 _ _ ?_)
    refine w_seq (fun K19 hK18 => ?_)
    refine w_seq (fun K21 hK20 => ?_)
    refine w_region ?_
    refine w_pure want_none (y_move (v := .int _ _) rfl rfl) rfl ?_
    refine w_pure want_none (y_neq rfl rfl rfl rfl) rfl ?_
    refine w_nil ?_
    refine q_then (hK20 _ _ ?_)
    refine w_condF rfl rfl ?_
    refine w_skip ?_
    refine q_then (hK18 _ _ ?_)
    refine w_seq (fun K23 hK22 => ?_)
    refine w_seq (fun K25 hK24 => ?_)
    refine w_region ?_
    refine w_pure want_none (y_move (v := .pointer _) rfl rfl) rfl ?_
    refine w_pure want_none (y_move (v := .pointer _) rfl rfl) rfl ?_
    refine w_call want_none Try.call68 rfl rfl rfl rfl (c68 m p mb mm hk.app _ hs10) ?_
    rintro _ w27 ⟨rfl, hs28⟩
    refine w_pure want_none (y_move (v := .int _ _) rfl rfl) rfl ?_
    refine w_call want_none Try.call70 rfl rfl rfl rfl (c70 (X := []) m p mb mm hk _ (allX_small hk.ok _) _ hM hs28) ?_
    rintro _ w30 ⟨B33, al_B33, cl_B33, M32, rfl, hsl_B33, hM32, hs31⟩
    replace hs31 := (show St _ _ (B33 ++ (M32 ++ (_ :: _ :: F))) from hs31)
    refine w_pure want_none (y_move (v := .tuple _) rfl rfl) rfl ?_
    refine w_pure want_none (y_extract (v := .slice _ _ _) rfl rfl rfl) rfl ?_
    refine w_pure want_none (y_extract (v := .int _ _) rfl rfl rfl) rfl ?_
    refine w_pure want_none (y_assign (v := .slice _ _ _) rfl rfl) rfl ?_
    refine w_pure want_none (y_assign (v := .int _ _) rfl rfl) rfl ?_
    refine w_nil ?_
    refine q_then (hK24 _ _ ?_)
    refine w_seq (fun K35 hK34 => ?_)
    refine w_region ?_
    refine w_pure want_none (y_move (v := .int _ _) rfl rfl) rfl ?_
    refine w_pure want_none (y_eql rfl rfl rfl rfl) rfl ?_
    refine w_nil ?_
    refine q_then (hK34 _ _ ?_)
    refine w_cond rfl rfl (fun h36 => ?_) (fun h36 => ?_)
    ·
      try simp only [Bool.not_eq_true', Bool.not_eq_false', decide_eq_true_eq, decide_eq_false_iff_not, Int.not_lt, Int.not_le] at h36
      refine w_seq (fun K38 hK37 => ?_)
      refine w_region ?_
      refine w_pure want_none (y_assign (v := _) rfl rfl) rfl ?_
      refine w_pure want_none (y_assign (v := _) rfl rfl) rfl ?_
      refine w_pure want_none (y_assign (v := _) rfl rfl) rfl ?_
      refine w_nil ?_
      refine q_then (hK37 _ _ ?_)
      refine w_ret ?_
      refine q_then_ret ?_
      refine q_ret (l := [.tmp 4, .tmp 5, .tmp 6]) (vs := [_, _, _]) rfl ⟨⟨rfl, show _ = (.slice _ _ _ : Value) from rfl⟩, ⟨rfl, show _ = (.int _ _ : Value) from rfl⟩, ⟨rfl, show _ = (.int _ _ : Value) from rfl⟩, trivial⟩ ?_
      first
        | (have hq : proofP m l = ([], 0, 9) := by unfold proofP; rw [if_neg (by simp [hee]), if_pos (by assumption)]
           exact ⟨[], none, 0, by rw [hq]; rfl, by rw [hq]; exact Sl.nil _ _, hs31.drop.drop.tail.tail⟩)
        | (have hq : proofP m l = ((worst m (allX m false) (someS l)).1, (worst m (allX m false) (someS l)).2, 0) := by unfold proofP; rw [if_neg (by simp [hee]), if_neg (by assumption)]
           exact ⟨_, al_B33, cl_B33, by rw [hq]; rfl, by rw [hq]; exact hsl_B33.top, eq2 hs31⟩)
    ·
      try simp only [Bool.not_eq_true', Bool.not_eq_false', decide_eq_true_eq, decide_eq_false_iff_not, Int.not_lt, Int.not_le] at h36
      refine w_skip ?_
      refine q_then (hK22 _ _ ?_)
      refine w_seq (fun K40 hK39 => ?_)
      refine w_region ?_
      refine w_pure want_none (y_move (v := .slice _ _ _) rfl rfl) rfl ?_
      refine w_pure want_none (y_move (v := .int _ _) rfl rfl) rfl ?_
      refine w_pure want_none (y_assign (v := .slice _ _ _) rfl rfl) rfl ?_
      refine w_pure want_none (y_assign (v := .int _ _) rfl rfl) rfl ?_
      refine w_pure want_none (y_assign (v := _) rfl rfl) rfl ?_
      refine w_nil ?_
      refine q_then (hK39 _ _ ?_)
      refine w_ret ?_
      refine q_ret (l := [.tmp 4, .tmp 5, .tmp 6]) (vs := [_, _, _]) rfl ⟨⟨rfl, show _ = (.slice _ _ _ : Value) from rfl⟩, ⟨rfl, show _ = (.int _ _ : Value) from rfl⟩, ⟨rfl, show _ = (.int _ _ : Value) from rfl⟩, trivial⟩ ?_
      first
        | (have hq : proofP m l = ([], 0, 9) := by unfold proofP; rw [if_neg (by simp [hee]), if_pos (by assumption)]
           exact ⟨[], none, 0, by rw [hq]; rfl, by rw [hq]; exact Sl.nil _ _, hs31.drop.drop.tail.tail⟩)
        | (have hq : proofP m l = ((worst m (allX m false) (someS l)).1, (worst m (allX m false) (someS l)).2, 0) := by unfold proofP; rw [if_neg (by simp [hee]), if_neg (by assumption)]
           exact ⟨_, al_B33, cl_B33, by rw [hq]; rfl, by rw [hq]; exact hsl_B33.top, eq2 hs31⟩)

theorem c73 {w0 w : World} {X M F : List (Nat × Obj)} (m : Market) (p : At3) (mb mm : Nat) (hk : MK w0 F m p mb mm)  (hM : Memo m mm M) (hs : St w0 w (X ++ (M ++ F))) :
  Con Try.prog 73 [.pointer (some ⟨mb, 0, none⟩)] w fun v w' => ∃ B a c M', v = .slice a (withoutL m).length c ∧ Sl w0 B a 1 ((withoutL m).map fun x => [Value.int .i64 x]) ∧ Memo m mm M' ∧ St w0 w' (B ++ (X ++ (M' ++ F))) := by
  refine con_of_wc (n := 50) Try.func73 rfl rfl (Nat.le_of_ble_eq_true rfl) ?_
  have hb := hk.b
  have hlr := hk.ok.lr
  have hls := hk.ok.ls
  have hlt := hk.ok.lt
  have hsa := shl_all hls
  refine w_seq (fun K2 hK1 => ?_)
  refine w_region ?_
  refine w_pure want_none (y_assign (v := _) rfl rfl) rfl ?_
  refine w_nil ?_
  refine q_then (hK1 _ _ ?_)
  refine w_seq (fun K4 hK3 => ?_)
  refine w_region ?_
  refine w_pure want_none (y_move (v := .pointer _) rfl rfl) rfl ?_
  refine w_pure want_none (y_nilCheck rfl rfl) rfl ?_
  refine w_pure want_none (y_fieldAddr (o := 0) (i := 0) Try.underlying122 rfl Try.sizeOf26 rfl rfl rfl) rfl ?_
  refine w_pure want_none (y_fieldAddr (o := 1) (i := 1) Try.underlying26 rfl Try.sizeOf23 rfl rfl rfl) rfl ?_
  refine w_pure want_none (y_load1 Try.isAgg23 hs.drop.drop rfl rfl (show Ats _ _ _ _ [_] from Ats.part hb 1 1)) rfl ?_
  refine w_pure want_none (y_lenS Try.underlying23 rfl rfl) rfl ?_
  refine w_pure want_none (y_shl (x := 1) (y := _) rfl rfl rfl rfl rfl rfl (by first | omega | exact shr_lt (by omega)) (by first | omega | exact shr_lt (by omega))) rfl ?_
  refine w_pure want_none (yd_cast (z' := ((1 <<< m.shops.length - 1 : Nat) : Int)) (by omega) (y_sub rfl rfl rfl rfl (by omega) (by omega))) rfl ?_
  refine w_pure want_none (y_assign (v := .int _ _) rfl rfl) rfl ?_
  refine w_nil ?_
  refine q_then (hK3 _ _ ?_)
  refine w_seq (fun K6 hK5 => ?_)
  refine w_region ?_
  refine w_pure want_none (y_move (v := .int _ _) rfl rfl) rfl ?_
  refine w_pure want_none (y_move (v := .pointer _) rfl rfl) rfl ?_
  refine w_pure want_none (y_nilCheck rfl rfl) rfl ?_
  refine w_pure want_none (y_fieldAddr (o := 0) (i := 0) Try.underlying122 rfl Try.sizeOf26 rfl rfl rfl) rfl ?_
  refine w_pure want_none (y_fieldAddr (o := 1) (i := 1) Try.underlying26 rfl Try.sizeOf23 rfl rfl rfl) rfl ?_
  refine w_pure want_none (y_load1 Try.isAgg23 hs.drop.drop rfl rfl (show Ats _ _ _ _ [_] from Ats.part hb 1 1)) rfl ?_
  refine w_pure want_none (y_lenS Try.underlying23 rfl rfl) rfl ?_
  refine w_call want_none Try.call90 rfl rfl rfl rfl (c90 _ _ (by omega) (by omega) hs) ?_
  rintro _ w8 ⟨B, al, cl, rfl, hsl, hs9⟩
  replace hs9 := (show St _ _ (B ++ (X ++ (M ++ (F)))) from hs9)
  refine w_pure want_none (y_assign (v := .slice _ _ _) rfl rfl) rfl ?_
  refine w_nil ?_
  refine q_then (hK5 _ _ ?_)
  refine w_seq (fun K11 hK10 => ?_)
  refine w_seq (fun K13 hK12 => ?_)
  refine w_region ?_
  refine w_pure want_none (y_move (v := .int _ _) rfl rfl) rfl ?_
  refine w_pure want_none (y_move (v := _) rfl rfl) rfl ?_
  refine w_nil ?_
  refine q_then (hK12 _ _ ?_)
  refine w_block ?_
  refine w_loop [4, 5, 6, 24, 25, 26, 27, 28, 29, 30, 31, 32, 33, 34, 35, 36, 37, 38, 39, 40, 41, 42, 43, 44, 45, 46, 47, 48] [4, 24] (fun k vs w => ∃ (b : Nat) (av : Option Addr) (cv : Nat) (B Mq : List (Nat × Obj)), vs = [.slice av (withoutTo m b).length cv, .int .i64 b] ∧ b ≤ 1 <<< m.shops.length - 1 ∧ k = (1 <<< m.shops.length - 1) - b ∧ Sl w0 B av 1 ((withoutTo m b).map fun x => [Value.int .i64 x]) ∧ Memo m mm Mq ∧ St w0 w (B ++ (X ++ (Mq ++ F)))) (1 <<< m.shops.length - 1) ?_ ?_
  ·
    exact ⟨0, _, _, B, M, rfl, by omega, by omega, hsl, hM, hs9⟩
  ·
    intro k vs μ w16 hI K15 hN14
    obtain ⟨b, av, cv, B, Mq, rfl, hba, rfl, hsl, hMq, hs⟩ := hI
    refine w_seq (fun K18 hK17 => ?_)
    refine w_region ?_
    refine w_pure want_none (y_lss rfl rfl rfl rfl) rfl ?_
    refine w_nil ?_
    refine q_then (hK17 _ _ ?_)
    refine w_seq (fun K20 hK19 => ?_)
    refine w_cond rfl rfl (fun h21 => ?_) (fun h21 => ?_)
    ·
      try simp only [Bool.not_eq_true', Bool.not_eq_false', decide_eq_true_eq, decide_eq_false_iff_not, Int.not_lt, Int.not_le] at h21
      refine w_skip ?_
      refine q_then (hK19 _ _ ?_)
      refine w_seq (fun K23 hK22 => ?_)
      refine w_block ?_
      refine w_seq (fun K25 hK24 => ?_)
      refine w_region ?_
      refine w_pure want_none (y_move (v := .int _ _) rfl rfl) rfl ?_
      refine w_pure want_none (y_assign (v := .int _ _) rfl rfl) rfl ?_
      refine w_nil ?_
      refine q_then (hK24 _ _ ?_)
      refine w_seq (fun K27 hK26 => ?_)
      refine w_region ?_
      refine w_pure want_none (y_move (v := .int _ _) rfl rfl) rfl ?_
      refine w_pure want_none (y_move (v := .pointer _) rfl rfl) rfl ?_
      refine w_pure want_none (y_nilCheck rfl rfl) rfl ?_
      refine w_pure want_none (y_fieldAddr (o := 0) (i := 0) Try.underlying122 rfl Try.sizeOf26 rfl rfl rfl) rfl ?_
      refine w_pure want_none (y_fieldAddr (o := 1) (i := 1) Try.underlying26 rfl Try.sizeOf23 rfl rfl rfl) rfl ?_
      refine w_pure want_none (y_load1 Try.isAgg23 hs.drop.drop.drop rfl rfl (show Ats _ _ _ _ [_] from Ats.part hb 1 1)) rfl ?_
      refine w_pure want_none (y_lenS Try.underlying23 rfl rfl) rfl ?_
      refine w_call want_none Try.call90 rfl rfl rfl rfl (c90 _ _ (by omega) (by omega) hs) ?_
      rintro _ w29 ⟨B1, al1, cl1, rfl, hsl1, hs30⟩
      replace hs30 := (show St _ _ (B1 ++ (B ++ (X ++ (Mq ++ (F))))) from hs30)
      refine w_pure want_none (y_assign (v := .slice _ _ _) rfl rfl) rfl ?_
      refine w_nil ?_
      refine q_then (hK26 _ _ ?_)
      refine w_seq (fun K32 hK31 => ?_)
      have hle1 := listL_le b m.shops.length
      have hle2 := withoutTo_len m b
      refine w_region ?_
      refine w_pure want_none (y_move (v := .slice _ _ _) rfl rfl) rfl ?_
      refine w_pure want_none (y_move (v := .slice _ _ _) rfl rfl) rfl ?_
      refine w_call want_none Try.call91 rfl rfl rfl rfl (c91 _ _ _ _ _ _ (by omega) (by omega) hsl1.top hsl.top.app hs30) ?_
      rintro _ w34 ⟨rfl, hs35⟩
      refine w_pure want_none (y_move (v := .bool _) rfl rfl) rfl ?_
      refine w_split (fun h36 => ?_) (fun h36 => ?_)
      ·
        try simp only [Bool.not_eq_true', Bool.not_eq_false', decide_eq_true_eq, decide_eq_false_iff_not, Int.not_lt, Int.not_le] at h36
        refine w_pure (want_yes rfl rfl rfl) (y_move (v := .pointer _) rfl rfl) rfl ?_
        refine w_pure (want_yes rfl rfl rfl) (y_move (v := .pointer _) rfl rfl) rfl ?_
        refine w_call (want_yes rfl rfl rfl) Try.call68 rfl rfl rfl rfl (c68 m p mb mm hk.app.app.app.app _ hs35) ?_
        rintro _ w38 ⟨rfl, hs39⟩
        refine w_pure (want_yes rfl rfl rfl) (y_move (v := .int _ _) rfl rfl) rfl ?_
        refine w_pure (want_yes rfl rfl rfl) (y_move (v := .int _ _) rfl rfl) rfl ?_
        refine w_pure (want_yes rfl rfl rfl) (y_andNot (x := 1 <<< m.shops.length - 1) (y := b) rfl rfl rfl rfl (by first | rfl | omega) (by first | rfl | omega) (by first | omega | exact shr_lt (by omega))) rfl ?_
        refine w_call (want_yes rfl rfl rfl) Try.call67 rfl rfl rfl rfl (c67 (X := (B1 ++ (B ++ (X)))) m p mb mm hk _ (allX_small hk.ok _) _ hMq (St.cast (by simp only [List.append_assoc, List.cons_append]) hs39)) ?_
        rintro _ w41 ⟨rfl, M43, hM43, hs42⟩
        replace hs42 : St _ _ (B1 ++ (B ++ (X ++ (M43 ++ (F))))) := St.cast (by simp only [List.append_assoc, List.cons_append]) hs42
        refine w_pure want_none (y_pickT (v := .bool _) rfl rfl rfl rfl) rfl ?_
        refine w_nil ?_
        refine q_then (hK31 _ _ ?_)
        refine w_cond rfl rfl (fun h45 => ?_) (fun h45 => ?_)
        ·
          try simp only [Bool.not_eq_true', Bool.not_eq_false', decide_eq_true_eq, decide_eq_false_iff_not, Int.not_lt, Int.not_le] at h45
          refine w_region ?_
          refine w_pure want_none (y_move (v := .slice _ _ _) rfl rfl) rfl ?_
          refine w_pure want_none (y_assign (v := .slice _ _ _) rfl rfl) rfl ?_
          refine w_nil ?_
          refine q_blk_normal ?_
          refine q_then (hK22 _ _ ?_)
          refine w_region ?_
          refine w_pure want_none (y_add rfl rfl rfl rfl (by omega) (by omega)) rfl ?_
          refine w_pure want_none (y_move (v := .int _ _) rfl rfl) rfl ?_
          refine w_nil ?_
          refine q_then (hN14 _ _ (Nx.intro ((1 <<< m.shops.length - 1) - (b + 1)) (by omega) (by repeat (first | exact agree_mix | refine agree_upd rfl ?_ | refine agree_updL rfl ?_ _ | refine agree_mixin rfl ?_)) ?_))
          first
            | exact ⟨b + 1, al1, cl1, B1 ++ B, M43, by rw [← withoutTo_take (by assumption) (by assumption)]; rfl, by omega, rfl, by rw [← withoutTo_take (by assumption) (by assumption)]; exact hsl1.top, hM43, by rw [List.append_assoc]; exact hs42⟩
            | exact ⟨b + 1, av, cv, B1 ++ B, M43, by rw [← withoutTo_1 (by assumption)]; rfl, by omega, rfl, by rw [← withoutTo_1 (by assumption)]; exact hsl.app, hM43, by rw [List.append_assoc]; exact hs42⟩
            | exact ⟨b + 1, av, cv, B1 ++ B, M43, by rw [← withoutTo_2 (by assumption)]; rfl, by omega, rfl, by rw [← withoutTo_2 (by assumption)]; exact hsl.app, hM43, by rw [List.append_assoc]; exact hs42⟩
        ·
          try simp only [Bool.not_eq_true', Bool.not_eq_false', decide_eq_true_eq, decide_eq_false_iff_not, Int.not_lt, Int.not_le] at h45
          refine w_skip ?_
          refine q_blk_normal ?_
          refine q_then (hK22 _ _ ?_)
          refine w_region ?_
          refine w_pure want_none (y_add rfl rfl rfl rfl (by omega) (by omega)) rfl ?_
          refine w_pure want_none (y_move (v := .int _ _) rfl rfl) rfl ?_
          refine w_nil ?_
          refine q_then (hN14 _ _ (Nx.intro ((1 <<< m.shops.length - 1) - (b + 1)) (by omega) (by repeat (first | exact agree_mix | refine agree_upd rfl ?_ | refine agree_updL rfl ?_ _ | refine agree_mixin rfl ?_)) ?_))
          first
            | exact ⟨b + 1, al1, cl1, B1 ++ B, M43, by rw [← withoutTo_take (by assumption) (by assumption)]; rfl, by omega, rfl, by rw [← withoutTo_take (by assumption) (by assumption)]; exact hsl1.top, hM43, by rw [List.append_assoc]; exact hs42⟩
            | exact ⟨b + 1, av, cv, B1 ++ B, M43, by rw [← withoutTo_1 (by assumption)]; rfl, by omega, rfl, by rw [← withoutTo_1 (by assumption)]; exact hsl.app, hM43, by rw [List.append_assoc]; exact hs42⟩
            | exact ⟨b + 1, av, cv, B1 ++ B, M43, by rw [← withoutTo_2 (by assumption)]; rfl, by omega, rfl, by rw [← withoutTo_2 (by assumption)]; exact hsl.app, hM43, by rw [List.append_assoc]; exact hs42⟩
      ·
        try simp only [Bool.not_eq_true', Bool.not_eq_false', decide_eq_true_eq, decide_eq_false_iff_not, Int.not_lt, Int.not_le] at h36
        refine w_skipop rfl rfl rfl ?_
        refine w_skipop rfl rfl rfl ?_
        refine w_skipop rfl rfl rfl ?_
        refine w_skipop rfl rfl rfl ?_
        refine w_skipop rfl rfl rfl ?_
        refine w_skipop rfl rfl rfl ?_
        refine w_skipop rfl rfl rfl ?_
        refine w_pure want_none (y_pickF (v := _) rfl rfl rfl rfl) rfl ?_
        refine w_nil ?_
        refine q_then (hK31 _ _ ?_)
        refine w_condF rfl rfl ?_
        refine w_skip ?_
        refine q_blk_normal ?_
        refine q_then (hK22 _ _ ?_)
        refine w_region ?_
        refine w_pure want_none (y_add rfl rfl rfl rfl (by omega) (by omega)) rfl ?_
        refine w_pure want_none (y_move (v := .int _ _) rfl rfl) rfl ?_
        refine w_nil ?_
        refine q_then (hN14 _ _ (Nx.intro ((1 <<< m.shops.length - 1) - (b + 1)) (by omega) (by repeat (first | exact agree_mix | refine agree_upd rfl ?_ | refine agree_updL rfl ?_ _ | refine agree_mixin rfl ?_)) ?_))
        first
          | exact ⟨b + 1, al1, cl1, B1 ++ B, Mq, by rw [← withoutTo_take (by assumption) (by assumption)]; rfl, by omega, rfl, by rw [← withoutTo_take (by assumption) (by assumption)]; exact hsl1.top, hMq, by rw [List.append_assoc]; exact hs35⟩
          | exact ⟨b + 1, av, cv, B1 ++ B, Mq, by rw [← withoutTo_1 (by assumption)]; rfl, by omega, rfl, by rw [← withoutTo_1 (by assumption)]; exact hsl.app, hMq, by rw [List.append_assoc]; exact hs35⟩
          | exact ⟨b + 1, av, cv, B1 ++ B, Mq, by rw [← withoutTo_2 (by assumption)]; rfl, by omega, rfl, by rw [← withoutTo_2 (by assumption)]; exact hsl.app, hMq, by rw [List.append_assoc]; exact hs35⟩
    ·
      try simp only [Bool.not_eq_true', Bool.not_eq_false', decide_eq_true_eq, decide_eq_false_iff_not, Int.not_lt, Int.not_le] at h21
      refine w_exit ?_
      refine q_then_exit ?_
      refine q_then_exit ?_
      refine q_blk_this ?_
      refine q_then (hK10 _ _ ?_)
      refine w_seq (fun K47 hK46 => ?_)
      refine w_region ?_
      refine w_pure want_none (y_move (v := .slice _ _ _) rfl rfl) rfl ?_
      refine w_pure want_none (y_assign (v := .slice _ _ _) rfl rfl) rfl ?_
      refine w_nil ?_
      refine q_then (hK46 _ _ ?_)
      refine w_ret ?_
      refine q_ret (l := [.tmp 2]) (vs := [_]) rfl ⟨⟨rfl, show _ = (.slice _ _ _ : Value) from rfl⟩, trivial⟩ ?_
      have hbw : b = 1 <<< m.shops.length - 1 := by omega
      subst hbw
      exact ⟨B, av, cv, Mq, rfl, hsl, hMq, hs⟩

theorem c26 {w0 w : World} {F : List (Nat × Obj)} (m : Market) (p : At3) (hm : MIn w0 F m p)  (hs : St w0 w F) :
  Con Try.prog 26 [.agg (m.cells p).toArray] w fun v w' => ∃ B a c, v = .tuple #[.slice a (withoutP m).1.length c, .int .i64 (withoutP m).2] ∧ Sl w0 B a 1 ((withoutP m).1.map fun x => [Value.int .i64 x]) ∧ St w0 w' (B ++ F) := by
  refine con_of_wc (n := 16) Try.func26 rfl rfl (Nat.le_of_ble_eq_true rfl) ?_
  refine w_seq (fun K2 hK1 => ?_)
  refine w_region ?_
  refine w_box (v := .agg #[.slice _ _ _, .slice _ _ _, .slice _ _ _]) (cs := [_, _, _]) want_none rfl rfl rfl hs (fun b3 w4 hs5 => ?_)
  refine w_pure want_none (y_assign (v := _) rfl rfl) rfl ?_
  refine w_pure want_none (y_assign (v := _) rfl rfl) rfl ?_
  refine w_nil ?_
  refine q_then (hK1 _ _ ?_)
  refine w_seq (fun K7 hK6 => ?_)
  refine w_region ?_
  refine w_pure want_none (y_loadN (vs := [_, _, _]) Try.isAgg26 Try.sizeOf26 hs5 rfl rfl (ats_own (i := 0) (vs := [_, _, _]) rfl rfl)) rfl ?_
  refine w_call want_none Try.call64 rfl rfl rfl rfl (c64 m p hm.cons 0 (by omega) (by omega) none 0 [] (by simp) (Sl.nil _ _) hs5) ?_
  rintro _ w9 (⟨hee, rfl, hs10⟩ | ⟨hee, mb, mm, M, rfl, hM, hs10⟩)
  ·
    refine w_pure want_none (y_move (v := .tuple _) rfl rfl) rfl ?_
    refine w_pure want_none (y_extract (v := .pointer _) rfl rfl rfl) rfl ?_
    refine w_pure want_none (y_extract (v := .int _ _) rfl rfl rfl) rfl ?_
    refine w_pure want_none (y_assign (v := .pointer _) rfl rfl) rfl ?_
    refine w_pure want_none (y_assign (v := .int _ _) rfl rfl) rfl ?_
    refine w_nil ?_
    refine q_then (hK6 _ _ ?_)
    refine w_seq (fun K12 hK11 => ?_)
    refine w_seq (fun K14 hK13 => ?_)
    refine w_region ?_
    refine w_pure want_none (y_move (v := .int _ _) rfl rfl) rfl ?_
    refine w_pure want_none (y_neq rfl rfl rfl rfl) rfl ?_
    refine w_nil ?_
    refine q_then (hK13 _ _ ?_)
    refine w_cond rfl rfl (fun h15 => ?_) (fun h15 => ?_)
    ·
      try simp only [Bool.not_eq_true', Bool.not_eq_false', decide_eq_true_eq, decide_eq_false_iff_not, Int.not_lt, Int.not_le] at h15
      refine w_seq (fun K17 hK16 => ?_)
      refine w_region ?_
      refine w_pure want_none (y_move (v := .int _ _) rfl rfl) rfl ?_
      refine w_pure want_none (y_assign (v := _) rfl rfl) rfl ?_
      refine w_pure want_none (y_assign (v := .int _ _) rfl rfl) rfl ?_
      refine w_nil ?_
      refine q_then (hK16 _ _ ?_)
      refine w_ret ?_
      refine q_then_ret ?_
      refine q_ret (l := [.tmp 2, .tmp 3]) (vs := [_, _]) rfl ⟨⟨rfl, show _ = (.slice _ _ _ : Value) from rfl⟩, ⟨rfl, show _ = (.int _ _ : Value) from rfl⟩, trivial⟩ ?_
      have hq : withoutP m = ([], (check m).2.2) := by unfold withoutP; rw [if_pos (by rw [← enterE_nil (n := 0)]; exact hee)]
      exact ⟨[], none, 0, by rw [hq, ← enterE_nil (n := 0)]; rfl, by rw [hq]; exact Sl.nil _ _, hs10.tail⟩
    ·
      exfalso
      try simp only [Bool.not_eq_true', Bool.not_eq_false', decide_eq_true_eq, decide_eq_false_iff_not, Int.not_lt, Int.not_le] at h15
      first | exact hee h15 | exact h15 hee
  ·
    replace hs10 := (show St _ _ (M ++ (_ :: _ :: F)) from hs10)
    have hk : MK w0 ((mb, blk 122 [.slice p.ar m.rooms.length p.cr, .slice p.as m.shops.length p.cs, .slice p.at_ m.trains.length p.ct, .map (some mm)]) :: (b3, blk 26 (m.cells p)) :: F) m p mb mm := ⟨hm.cons.cons, ats_own (i := 0) (vs := [_, _, _, _]) rfl rfl, check_ok (enter_chk hee)⟩
    have hlr := hk.ok.lr
    have hls := hk.ok.ls
    have hlt := hk.ok.lt
    have hbx : Ats w0 ((b3, blk 26 (m.cells p)) :: F) b3 0 (m.cells p) := ats_own (i := 0) rfl rfl
    refine w_pure want_none (y_move (v := .tuple _) rfl rfl) rfl ?_
    refine w_pure want_none (y_extract (v := .pointer _) rfl rfl rfl) rfl ?_
    refine w_pure want_none (y_extract (v := .int _ _) rfl rfl rfl) rfl ?_
    refine w_pure want_none (y_assign (v := .pointer _) rfl rfl) rfl ?_
    refine w_pure want_none (y_assign (v := .int _ _) rfl rfl) rfl ?_
    refine w_nil ?_
    refine q_then (hK6 _ _ ?_)
    refine w_seq (fun K19 hK18 => ?_)
    refine w_seq (fun K21 hK20 => ?_)
    refine w_region ?_
    refine w_pure want_none (y_move (v := .int _ _) rfl rfl) rfl ?_
    refine w_pure want_none (y_neq rfl rfl rfl rfl) rfl ?_
    refine w_nil ?_
    refine q_then (hK20 _ _ ?_)
    refine w_condF rfl rfl ?_
    refine w_skip ?_
    refine q_then (hK18 _ _ ?_)
    refine w_seq (fun K23 hK22 => ?_)
    refine w_region ?_
    refine w_pure want_none (y_move (v := .pointer _) rfl rfl) rfl ?_
    refine w_call want_none Try.call73 rfl rfl rfl rfl (c73 (X := []) m p mb mm hk  hM hs10) ?_
    rintro _ w25 ⟨B28, al_B28, cl_B28, M27, rfl, hsl_B28, hM27, hs26⟩
    replace hs26 := (show St _ _ (B28 ++ (M27 ++ (_ :: _ :: F))) from hs26)
    refine w_pure want_none (y_assign (v := .slice _ _ _) rfl rfl) rfl ?_
    refine w_pure want_none (y_assign (v := _) rfl rfl) rfl ?_
    refine w_nil ?_
    refine q_then (hK22 _ _ ?_)
    refine w_ret ?_
    refine q_ret (l := [.tmp 2, .tmp 3]) (vs := [_, _]) rfl ⟨⟨rfl, show _ = (.slice _ _ _ : Value) from rfl⟩, ⟨rfl, show _ = (.int _ _ : Value) from rfl⟩, trivial⟩ ?_
    have hq : withoutP m = (withoutL m, 0) := by unfold withoutP; rw [if_neg (by rw [enter_chk hee]; simp)]
    exact ⟨_, al_B28, cl_B28, by rw [hq]; rfl, by rw [hq]; exact hsl_B28.top, eq2 hs26⟩

theorem c18 {w0 w : World} {F : List (Nat × Obj)} (m : Market) (p : At3) (hm : MIn w0 F m p)  (hs : St w0 w F) :
  Con Try.prog 18 [.agg (m.cells p).toArray] w fun v w' => ∃ B a c, v = .tuple #[.slice a (goesP m).1.length c, .int .i64 (goesP m).2] ∧ Sl w0 B a 1 ((goesP m).1.map fun x => [Value.int .i64 x]) ∧ St w0 w' (B ++ F) := by
  refine con_of_wc (n := 29) Try.func18 rfl rfl (Nat.le_of_ble_eq_true rfl) ?_
  refine w_seq (fun K2 hK1 => ?_)
  refine w_region ?_
  refine w_box (v := .agg #[.slice _ _ _, .slice _ _ _, .slice _ _ _]) (cs := [_, _, _]) want_none rfl rfl rfl hs (fun b3 w4 hs5 => ?_)
  refine w_pure want_none (y_assign (v := _) rfl rfl) rfl ?_
  refine w_pure want_none (y_assign (v := _) rfl rfl) rfl ?_
  refine w_nil ?_
  refine q_then (hK1 _ _ ?_)
  refine w_seq (fun K7 hK6 => ?_)
  refine w_region ?_
  refine w_pure want_none (y_loadN (vs := [_, _, _]) Try.isAgg26 Try.sizeOf26 hs5 rfl rfl (ats_own (i := 0) (vs := [_, _, _]) rfl rfl)) rfl ?_
  refine w_call want_none Try.call64 rfl rfl rfl rfl (c64 m p hm.cons 0 (by omega) (by omega) none 0 [] (by simp) (Sl.nil _ _) hs5) ?_
  rintro _ w9 (⟨hee, rfl, hs10⟩ | ⟨hee, mb, mm, M, rfl, hM, hs10⟩)
  ·
    refine w_pure want_none (y_move (v := .tuple _) rfl rfl) rfl ?_
    refine w_pure want_none (y_extract (v := .pointer _) rfl rfl rfl) rfl ?_
    refine w_pure want_none (y_extract (v := .int _ _) rfl rfl rfl) rfl ?_
    refine w_pure want_none (y_assign (v := .pointer _) rfl rfl) rfl ?_
    refine w_pure want_none (y_assign (v := .int _ _) rfl rfl) rfl ?_
    refine w_nil ?_
    refine q_then (hK6 _ _ ?_)
    refine w_seq (fun K12 hK11 => ?_)
    refine w_seq (fun K14 hK13 => ?_)
    refine w_region ?_
    refine w_pure want_none (y_move (v := .int _ _) rfl rfl) rfl ?_
    refine w_pure want_none (y_neq rfl rfl rfl rfl) rfl ?_
    refine w_nil ?_
    refine q_then (hK13 _ _ ?_)
    refine w_cond rfl rfl (fun h15 => ?_) (fun h15 => ?_)
    ·
      try simp only [Bool.not_eq_true', Bool.not_eq_false', decide_eq_true_eq, decide_eq_false_iff_not, Int.not_lt, Int.not_le] at h15
      refine w_seq (fun K17 hK16 => ?_)
      refine w_region ?_
      refine w_pure want_none (y_move (v := .int _ _) rfl rfl) rfl ?_
      refine w_pure want_none (y_assign (v := _) rfl rfl) rfl ?_
      refine w_pure want_none (y_assign (v := .int _ _) rfl rfl) rfl ?_
      refine w_nil ?_
      refine q_then (hK16 _ _ ?_)
      refine w_ret ?_
      refine q_then_ret ?_
      refine q_ret (l := [.tmp 2, .tmp 3]) (vs := [_, _]) rfl ⟨⟨rfl, show _ = (.slice _ _ _ : Value) from rfl⟩, ⟨rfl, show _ = (.int _ _ : Value) from rfl⟩, trivial⟩ ?_
      have hq : goesP m = ([], (check m).2.2) := by unfold goesP; rw [if_pos (by rw [← enterE_nil (n := 0)]; exact hee)]
      exact ⟨[], none, 0, by rw [hq, ← enterE_nil (n := 0)]; rfl, by rw [hq]; exact Sl.nil _ _, hs10.tail⟩
    ·
      exfalso
      try simp only [Bool.not_eq_true', Bool.not_eq_false', decide_eq_true_eq, decide_eq_false_iff_not, Int.not_lt, Int.not_le] at h15
      first | exact hee h15 | exact h15 hee
  ·
    replace hs10 := (show St _ _ (M ++ (_ :: _ :: F)) from hs10)
    have hk : MK w0 ((mb, blk 122 [.slice p.ar m.rooms.length p.cr, .slice p.as m.shops.length p.cs, .slice p.at_ m.trains.length p.ct, .map (some mm)]) :: (b3, blk 26 (m.cells p)) :: F) m p mb mm := ⟨hm.cons.cons, ats_own (i := 0) (vs := [_, _, _, _]) rfl rfl, check_ok (enter_chk hee)⟩
    have hlr := hk.ok.lr
    have hls := hk.ok.ls
    have hlt := hk.ok.lt
    have hbx : Ats w0 ((b3, blk 26 (m.cells p)) :: F) b3 0 (m.cells p) := ats_own (i := 0) rfl rfl
    refine w_pure want_none (y_move (v := .tuple _) rfl rfl) rfl ?_
    refine w_pure want_none (y_extract (v := .pointer _) rfl rfl rfl) rfl ?_
    refine w_pure want_none (y_extract (v := .int _ _) rfl rfl rfl) rfl ?_
    refine w_pure want_none (y_assign (v := .pointer _) rfl rfl) rfl ?_
    refine w_pure want_none (y_assign (v := .int _ _) rfl rfl) rfl ?_
    refine w_nil ?_
    refine q_then (hK6 _ _ ?_)
    refine w_seq (fun K19 hK18 => ?_)
    refine w_seq (fun K21 hK20 => ?_)
    refine w_region ?_
    refine w_pure want_none (y_move (v := .int _ _) rfl rfl) rfl ?_
    refine w_pure want_none (y_neq rfl rfl rfl rfl) rfl ?_
    refine w_nil ?_
    refine q_then (hK20 _ _ ?_)
    refine w_condF rfl rfl ?_
    refine w_skip ?_
    refine q_then (hK18 _ _ ?_)
    refine w_seq (fun K23 hK22 => ?_)
    refine w_seq (fun K25 hK24 => ?_)
    refine w_region ?_
    refine w_pure want_none (y_fieldAddr (o := 2) (i := 2) Try.underlying26 rfl Try.sizeOf24 rfl rfl rfl) rfl ?_
    refine w_pure want_none (y_load1 Try.isAgg24 hs10.drop.tail rfl rfl (show Ats _ _ _ _ [_] from Ats.part hbx 2 1)) rfl ?_
    refine w_pure want_none (y_lenS Try.underlying24 rfl rfl) rfl ?_
    refine w_pure want_none (y_move (v := _) rfl rfl) rfl ?_
    refine w_nil ?_
    refine q_then (hK24 _ _ ?_)
    refine w_block ?_
    refine w_loop [2, 5, 17, 18, 19, 20, 21, 22, 23, 24, 25, 26, 27] [2, 17] (fun k vs w => ∃ (i : Nat) (v : Value) (B : List (Nat × Obj)), vs = [v, .int .i64 i] ∧ i ≤ m.trains.length ∧ k = m.trains.length - i ∧ Rt.Own v 3 1 (goesTo m i).length (iv (goesTo m i)) B ∧ St w0 w (B ++ (M ++ ((mb, blk 122 [.slice p.ar m.rooms.length p.cr, .slice p.as m.shops.length p.cs, .slice p.at_ m.trains.length p.ct, .map (some mm)]) :: (b3, blk 26 (m.cells p)) :: F)))) (m.trains.length) ?_ ?_
    ·
      exact ⟨0, _, [], rfl, by omega, by omega, own_nil 3 1, hs10⟩
    ·
      intro k vs μ w28 hI K27 hN26
      obtain ⟨i, v, B, rfl, hia, rfl, hown, hs⟩ := hI
      refine w_seq (fun K30 hK29 => ?_)
      refine w_region ?_
      refine w_pure want_none (y_lss rfl rfl rfl rfl) rfl ?_
      refine w_nil ?_
      refine q_then (hK29 _ _ ?_)
      refine w_seq (fun K32 hK31 => ?_)
      refine w_cond rfl rfl (fun h33 => ?_) (fun h33 => ?_)
      ·
        try simp only [Bool.not_eq_true', Bool.not_eq_false', decide_eq_true_eq, decide_eq_false_iff_not, Int.not_lt, Int.not_le] at h33
        refine w_skip ?_
        refine q_then (hK31 _ _ ?_)
        refine w_seq (fun K35 hK34 => ?_)
        refine w_block ?_
        refine w_seq (fun K37 hK36 => ?_)
        have hi2 : i < m.trains.length := by omega
        have hgl := goesTo_len m i
        refine w_region ?_
        refine w_pure want_none (y_move (v := .int _ _) rfl rfl) rfl ?_
        refine w_pure want_none (y_assign (v := .int _ _) rfl rfl) rfl ?_
        refine w_nil ?_
        refine q_then (hK36 _ _ ?_)
        refine w_seq (fun K39 hK38 => ?_)
        refine w_region ?_
        refine w_pure want_none (y_move (v := .pointer _) rfl rfl) rfl ?_
        refine w_pure want_none (y_move (v := .int _ _) rfl rfl) rfl ?_
        refine w_call want_none Try.call65 rfl rfl rfl rfl (c65 m p mb mm hk.app.app i hi2 hs) ?_
        rintro _ w41 ⟨rfl, hs42⟩
        refine w_nil ?_
        refine q_then (hK38 _ _ ?_)
        refine w_cond rfl rfl (fun h43 => ?_) (fun h43 => ?_)
        ·
          try simp only [Bool.not_eq_true', Bool.not_eq_false', decide_eq_true_eq, decide_eq_false_iff_not, Int.not_lt, Int.not_le] at h43
          refine w_region ?_
          refine w_pure want_none (y_move (v := v) rfl rfl) rfl ?_
          refine w_pure want_none (y_move (v := .int _ _) rfl rfl) rfl ?_
          refine w_bslice (ps := [(0, _)]) (pv := [(0, .int _ _)]) (cs := [_]) want_none rfl rfl (fun w => Try_H_fb2 _ w) hs42 (fun b44 w45 hs46 => ?_)
          refine w_append (X := (_ :: [])) (B := B) (rows := [[_]]) (sz := 1) (bytes := 8) want_none Try.underlying30 Try_info3 rfl rfl rfl rfl rfl rfl rfl rfl rfl hs46 hown (sl_own (i := 0) rfl (by simp) rfl) rfl (by simp) (by simp [Value.oneCell']) (by simp only [maxLen]; omega) (by omega) (fun v47 w48 B49 ho50 hs51 => ?_)
          replace hs51 := (show St _ _ (_ :: B49 ++ (M ++ (_ :: _ :: F))) from hs51)
          refine w_pure want_none (y_assign (v := v47) rfl rfl) rfl ?_
          refine w_nil ?_
          refine q_blk_normal ?_
          refine q_then (hK34 _ _ ?_)
          refine w_region ?_
          refine w_pure want_none (y_add rfl rfl rfl rfl (by omega) (by omega)) rfl ?_
          refine w_pure want_none (y_move (v := .int _ _) rfl rfl) rfl ?_
          refine w_nil ?_
          refine q_then (hN26 _ _ (Nx.intro (m.trains.length - (i + 1)) (by omega) (by repeat (first | exact agree_mix | refine agree_upd rfl ?_ | refine agree_updL rfl ?_ _ | refine agree_mixin rfl ?_)) ?_))
          exact ⟨i + 1, _, _, rfl, by omega, rfl, by rw [goesTo_yes hi2 (by assumption)]; exact own_snoc ho50, hs51.tail⟩
        ·
          try simp only [Bool.not_eq_true', Bool.not_eq_false', decide_eq_true_eq, decide_eq_false_iff_not, Int.not_lt, Int.not_le] at h43
          refine w_skip ?_
          refine q_blk_normal ?_
          refine q_then (hK34 _ _ ?_)
          refine w_region ?_
          refine w_pure want_none (y_add rfl rfl rfl rfl (by omega) (by omega)) rfl ?_
          refine w_pure want_none (y_move (v := .int _ _) rfl rfl) rfl ?_
          refine w_nil ?_
          refine q_then (hN26 _ _ (Nx.intro (m.trains.length - (i + 1)) (by omega) (by repeat (first | exact agree_mix | refine agree_upd rfl ?_ | refine agree_updL rfl ?_ _ | refine agree_mixin rfl ?_)) ?_))
          exact ⟨i + 1, v, B, rfl, by omega, rfl, by rw [goesTo_no hi2 (by assumption)]; exact hown, hs42⟩
      ·
        try simp only [Bool.not_eq_true', Bool.not_eq_false', decide_eq_true_eq, decide_eq_false_iff_not, Int.not_lt, Int.not_le] at h33
        refine w_exit ?_
        refine q_then_exit ?_
        refine q_then_exit ?_
        refine q_blk_this ?_
        refine q_then (hK22 _ _ ?_)
        refine w_seq (fun K53 hK52 => ?_)
        refine w_region ?_
        refine w_pure want_none (y_move (v := v) rfl rfl) rfl ?_
        refine w_pure want_none (y_assign (v := v) rfl rfl) rfl ?_
        refine w_pure want_none (y_assign (v := _) rfl rfl) rfl ?_
        refine w_nil ?_
        refine q_then (hK52 _ _ ?_)
        refine w_ret ?_
        refine q_ret (l := [.tmp 2, .tmp 3]) (vs := [_, _]) rfl ⟨⟨rfl, show _ = (v : Value) from rfl⟩, ⟨rfl, show _ = (.int _ _ : Value) from rfl⟩, trivial⟩ ?_
        have hil : i = m.trains.length := by omega
        subst hil
        have hq : goesP m = (goesTo m m.trains.length, 0) := by unfold goesP; rw [if_neg (by rw [enter_chk hee]; simp)]
        obtain ⟨ag, cg, rfl, hsg⟩ := own_sl_map (w0 := w0) hown rfl []
        rw [List.append_nil] at hsg
        exact ⟨_, ag, cg, by rw [hq]; rfl, by rw [hq]; exact hsg.top, eq2 hs⟩

end Go.Proofs
