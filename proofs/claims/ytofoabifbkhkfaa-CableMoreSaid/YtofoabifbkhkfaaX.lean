/- Walks of this seat, printed by gen.py over the engine: what each function returns, in whatever world. No conditions but those of each contract. -/
import Derived.Test.YtofoabifbkhkfaaW
import Derived.Test.YtofoabifbkhkfaaCSpecL
set_option linter.unusedVariables false
set_option linter.unusedSimpArgs false
set_option maxRecDepth 20000
namespace Go.Proofs
open Go.Rt
attribute [local irreducible] WL WC Con Yd At Ats Sl Agree DW

theorem do_small {p : Port} (hok : p.Ok) : (doC p).length ≤ 1728 := Nat.le_trans (List.length_filter_le _ _) (all_small _ _ (by omega) hok.len)
theorem plan_end {BD F : List (Nat × Obj)} {x : Nat × Obj} : BD ++ (x :: F) = (BD ++ [x]) ++ F := by simp
theorem rb_yes {p : Port} {L : List (List Int)} {i : Nat} (h1 : 1 ≤ i) (hi : i < L.length) (h : before p L[i] (rbUpto p L i) = true) : L[i] = rbUpto p L (i + 1) := by rw [rb_succ h1 hi]; unfold rsel; rw [if_pos h]
theorem rb_no {p : Port} {L : List (List Int)} {i : Nat} (h1 : 1 ≤ i) (hi : i < L.length) (h : before p L[i] (rbUpto p L i) = false) : rbUpto p L i = rbUpto p L (i + 1) := by rw [rb_succ h1 hi]; unfold rsel; rw [if_neg (by simp [h])]
theorem sl_eq {l m : List Int} {a : Option Addr} {c : Nat} {x y : Int} (h : l = m) (k : x = y) : [Value.slice a l.length c, .int .i64 x] = [Value.slice a m.length c, .int .i64 y] := by rw [h, k]
theorem sl_as {w0 : World} {L : List (Nat × Obj)} {a : Option Addr} {l m : List Int} (h : l = m) (hs : Sl w0 L a 1 (l.map fun x => [Value.int .i64 x])) : Sl w0 L a 1 (m.map fun x => [Value.int .i64 x]) := h ▸ hs
theorem c27 {w0 w : World} {F : List (Nat × Obj)} (p : Port) (a : Option Addr) (c : Nat) (hl3 : p.farms.length ≤ 9223372036854775807) (hc : p.farms.length ≤ c) (ha : Sl w0 F a 6 (rows p.farms)) (hnm : ∀ f ∈ p.farms, f.name.size ≤ 9223372036854775807)  (hs : St w0 w F) :
  Con Try.prog 27 [.agg (p.cells a c).toArray] w fun v w' => ∃ B aq cq, v = .tuple #[.slice aq (planL p).length cq, .int .i64 (planV p), .int .i64 (planE p)] ∧ Sl w0 (B ++ F) aq 1 ((planL p).map fun x => [Value.int .i64 x]) ∧ St w0 w' (B ++ F) := by
  refine con_of_wc (n := 49) Try.func27 rfl rfl (Nat.le_of_ble_eq_true rfl) ?_
  refine w_seq (fun K2 hK1 => ?_)
  refine w_region ?_
  refine w_box (v := .agg #[.int _ _, .int _ _, .int _ _, .slice _ _ _]) (cs := [_, _, _, _]) want_none rfl rfl rfl hs (fun b3 w4 hs5 => ?_)
  refine w_pure want_none (y_assign (v := _) rfl rfl) rfl ?_
  refine w_pure want_none (y_assign (v := _) rfl rfl) rfl ?_
  refine w_pure want_none (y_assign (v := _) rfl rfl) rfl ?_
  refine w_nil ?_
  refine q_then (hK1 _ _ ?_)
  refine w_seq (fun K7 hK6 => ?_)
  refine w_region ?_
  refine w_pure want_none (y_loadN (vs := [_, _, _, _]) Try.isAgg26 Try.sizeOf26 hs5 rfl rfl (ats_own (i := 0) (vs := [_, _, _, _]) rfl rfl)) rfl ?_
  refine w_call want_none Try.call17 rfl rfl rfl rfl (c17 p _ _ (by omega) (by omega) ha.cons hnm hs5) ?_
  rintro _ w9 ⟨rfl, hs10⟩
  refine w_pure want_none (y_move (v := .tuple _) rfl rfl) rfl ?_
  refine w_pure want_none (y_extract (v := .int _ _) rfl rfl rfl) rfl ?_
  refine w_pure want_none (y_extract (v := .int _ _) rfl rfl rfl) rfl ?_
  refine w_pure want_none (y_extract (v := .int _ _) rfl rfl rfl) rfl ?_
  refine w_pure want_none (y_assign (v := .int _ _) rfl rfl) rfl ?_
  refine w_pure want_none (y_assign (v := .int _ _) rfl rfl) rfl ?_
  refine w_pure want_none (y_assign (v := .int _ _) rfl rfl) rfl ?_
  refine w_nil ?_
  refine q_then (hK6 _ _ ?_)
  refine w_seq (fun K12 hK11 => ?_)
  refine w_seq (fun K14 hK13 => ?_)
  refine w_region ?_
  refine w_pure want_none (y_move (v := .int _ _) rfl rfl) rfl ?_
  refine w_pure want_none (y_neq rfl rfl rfl rfl) rfl ?_
  refine w_nil ?_
  refine q_then (hK13 _ _ ?_)
  refine w_cond rfl rfl (fun h15 => ?_) (fun h15 => ?_)
  ·
    try simp only [Bool.not_eq_true', Bool.not_eq_false', decide_eq_true_eq, decide_eq_false_iff_not, Int.not_lt, Int.not_le] at h15
    refine w_seq (fun K17 hK16 => ?_)
    refine w_region ?_
    refine w_pure want_none (y_move (v := .int _ _) rfl rfl) rfl ?_
    refine w_pure want_none (y_assign (v := _) rfl rfl) rfl ?_
    refine w_pure want_none (y_assign (v := _) rfl rfl) rfl ?_
    refine w_pure want_none (y_assign (v := .int _ _) rfl rfl) rfl ?_
    refine w_nil ?_
    refine q_then (hK16 _ _ ?_)
    refine w_ret ?_
    refine q_then_ret ?_
    refine q_ret (l := [.tmp 2, .tmp 3, .tmp 4]) (vs := [_, _, _]) rfl ⟨⟨rfl, show _ = (.slice _ _ _ : Value) from rfl⟩, ⟨rfl, show _ = (.int _ _ : Value) from rfl⟩, ⟨rfl, show _ = (.int _ _ : Value) from rfl⟩, trivial⟩ ?_
    first
      | (obtain ⟨e1, e2, e3⟩ := plan_e1 (p := p) (by assumption)
         refine ⟨[], none, 0, ?_, ?_, hs10.tail⟩
         · rw [e1, e2, e3]; rfl
         · rw [e1]; exact Sl.nil _ _)
      | (obtain ⟨e1, e2, e3⟩ := plan_e2 (p := p) (by assumption) (best_none (by omega))
         refine ⟨[], none, 0, ?_, ?_, hs10.tail⟩
         · rw [e1, e2, e3]; rfl
         · rw [e1]; exact Sl.nil _ _)
      | (have hil : i = (doC p).length := by omega
         subst hil
         obtain ⟨e1, e2, e3⟩ := plan_rb (p := p) (by assumption) hd0
         refine ⟨BD ++ [_], ab, cb, ?_, ?_, St.cast plan_end hs10⟩
         · rw [e1, e2, e3]; rfl
         · rw [e1]; exact hsb.mono fun _ h => St.cast plan_end.symm h)
  ·
    try simp only [Bool.not_eq_true', Bool.not_eq_false', decide_eq_true_eq, decide_eq_false_iff_not, Int.not_lt, Int.not_le] at h15
    refine w_skip ?_
    refine q_then (hK11 _ _ ?_)
    refine w_seq (fun K19 hK18 => ?_)
    have hok := check_ok (by assumption)
    have hlen3 := hok.len
    refine w_region ?_
    refine w_pure want_none (y_loadN (vs := [_, _, _, _]) Try.isAgg26 Try.sizeOf26 hs10 rfl rfl (ats_own (i := 0) (vs := [_, _, _, _]) rfl rfl)) rfl ?_
    refine w_call want_none Try.call47 rfl rfl rfl rfl (c47 p _ _ ha.cons hok hs10) ?_
    rintro _ w21 ⟨BD, vd, ad, cd, rfl, hsd, hed, hs22⟩
    replace hs22 := (show St _ _ (BD ++ (_ :: F)) from hs22)
    have hbx : Ats w0 ((b3, blk 26 (p.cells a c)) :: F) b3 0 (p.cells a c) := ats_own (i := 0) (vs := p.cells a c) rfl rfl
    refine w_pure want_none (y_assign (v := .slice _ _ _) rfl rfl) rfl ?_
    refine w_nil ?_
    refine q_then (hK18 _ _ ?_)
    refine w_seq (fun K24 hK23 => ?_)
    refine w_seq (fun K26 hK25 => ?_)
    refine w_region ?_
    refine w_pure want_none (y_move (v := .slice _ _ _) rfl rfl) rfl ?_
    refine w_pure want_none (y_lenS Try.underlying62 rfl rfl) rfl ?_
    refine w_pure want_none (y_eql rfl rfl rfl rfl) rfl ?_
    refine w_nil ?_
    refine q_then (hK25 _ _ ?_)
    refine w_cond rfl rfl (fun h27 => ?_) (fun h27 => ?_)
    ·
      try simp only [Bool.not_eq_true', Bool.not_eq_false', decide_eq_true_eq, decide_eq_false_iff_not, Int.not_lt, Int.not_le] at h27
      refine w_seq (fun K29 hK28 => ?_)
      refine w_region ?_
      refine w_pure want_none (y_assign (v := _) rfl rfl) rfl ?_
      refine w_pure want_none (y_assign (v := _) rfl rfl) rfl ?_
      refine w_pure want_none (y_assign (v := _) rfl rfl) rfl ?_
      refine w_nil ?_
      refine q_then (hK28 _ _ ?_)
      refine w_ret ?_
      refine q_then_ret ?_
      refine q_ret (l := [.tmp 2, .tmp 3, .tmp 4]) (vs := [_, _, _]) rfl ⟨⟨rfl, show _ = (.slice _ _ _ : Value) from rfl⟩, ⟨rfl, show _ = (.int _ _ : Value) from rfl⟩, ⟨rfl, show _ = (.int _ _ : Value) from rfl⟩, trivial⟩ ?_
      first
        | (obtain ⟨e1, e2, e3⟩ := plan_e1 (p := p) (by assumption)
           refine ⟨[], none, 0, ?_, ?_, hs22.drop.tail⟩
           · rw [e1, e2, e3]; rfl
           · rw [e1]; exact Sl.nil _ _)
        | (obtain ⟨e1, e2, e3⟩ := plan_e2 (p := p) (by assumption) (best_none (by omega))
           refine ⟨[], none, 0, ?_, ?_, hs22.drop.tail⟩
           · rw [e1, e2, e3]; rfl
           · rw [e1]; exact Sl.nil _ _)
        | (have hil : i = (doC p).length := by omega
           subst hil
           obtain ⟨e1, e2, e3⟩ := plan_rb (p := p) (by assumption) hd0
           refine ⟨BD ++ [_], ab, cb, ?_, ?_, St.cast plan_end hs22⟩
           · rw [e1, e2, e3]; rfl
           · rw [e1]; exact hsb.mono fun _ h => St.cast plan_end.symm h)
    ·
      try simp only [Bool.not_eq_true', Bool.not_eq_false', decide_eq_true_eq, decide_eq_false_iff_not, Int.not_lt, Int.not_le] at h27
      refine w_skip ?_
      refine q_then (hK23 _ _ ?_)
      refine w_seq (fun K31 hK30 => ?_)
      have hsm := do_small hok
      have hd0 : 0 < (doC p).length := by omega
      obtain ⟨bx, ox, b2, c2, rfl, hx, hsx0, hnx⟩ := el_at hsd hed hd0
      refine w_region ?_
      refine w_pure want_none (y_move (v := .slice _ _ _) rfl rfl) rfl ?_
      refine w_pure want_none (y_indexS Try.underlying62 Try.sizeOf27 rfl rfl rfl rfl (i := 0) rfl (by omega)) rfl ?_
      refine w_pure want_none (y_load1 Try.isAgg27 hs22 rfl rfl hx) rfl ?_
      refine w_pure want_none (y_assign (v := .slice _ _ _) rfl rfl) rfl ?_
      refine w_nil ?_
      refine q_then (hK30 _ _ ?_)
      refine w_seq (fun K33 hK32 => ?_)
      refine w_seq (fun K35 hK34 => ?_)
      refine w_region ?_
      refine w_pure want_none (y_assign (v := _) rfl rfl) rfl ?_
      refine w_nil ?_
      refine q_then (hK34 _ _ ?_)
      refine w_block ?_
      refine w_loop [9, 10, 28, 29, 30, 31, 32, 33, 34, 35, 36, 37, 38, 39, 40, 41, 42, 43, 44] [9, 10] (fun kk vs0 w => ∃ (i : Nat) (ab : Option Addr) (cb : Nat), vs0 = [.slice ab (rbUpto p (doC p) i).length cb, .int .i64 i] ∧ 1 ≤ i ∧ i ≤ (doC p).length ∧ kk = (doC p).length - i ∧ Sl w0 (BD ++ ((b3, blk 26 (p.cells a c)) :: F)) ab 1 ((rbUpto p (doC p) i).map fun x => [Value.int .i64 x]) ∧ St w0 w (BD ++ ((b3, blk 26 (p.cells a c)) :: F))) ((doC p).length - 1) ?_ ?_
      ·
        exact ⟨1, b2, c2, sl_eq (rb_one hd0).symm rfl, by omega, by omega, rfl, sl_as (rb_one hd0).symm hsx0, hs22⟩
      ·
        intro k vs μ w38 hI K37 hN36
        obtain ⟨i, ab, cb, rfl, hi1, hia, rfl, hsb, hs⟩ := hI
        refine w_seq (fun K40 hK39 => ?_)
        refine w_seq (fun K42 hK41 => ?_)
        refine w_region ?_
        refine w_pure want_none (y_move (v := .int _ _) rfl rfl) rfl ?_
        refine w_pure want_none (y_move (v := .slice _ _ _) rfl rfl) rfl ?_
        refine w_pure want_none (y_lenS Try.underlying62 rfl rfl) rfl ?_
        refine w_pure want_none (y_lss rfl rfl rfl rfl) rfl ?_
        refine w_nil ?_
        refine q_then (hK41 _ _ ?_)
        refine w_cond rfl rfl (fun h43 => ?_) (fun h43 => ?_)
        ·
          try simp only [Bool.not_eq_true', Bool.not_eq_false', decide_eq_true_eq, decide_eq_false_iff_not, Int.not_lt, Int.not_le] at h43
          refine w_skip ?_
          refine q_then (hK39 _ _ ?_)
          refine w_seq (fun K45 hK44 => ?_)
          refine w_block ?_
          refine w_seq (fun K47 hK46 => ?_)
          have hi2 : i < (doC p).length := by omega
          obtain ⟨bx2, ox2, b3, c3, hxe, hy, hsy, hny⟩ := el_at hsd hed hi2
          cases hxe
          refine w_draw [] [(0, 1), (1, 0), (2, 0), (3, 0), (4, 1), (5, 0), (6, 2)] Try_mo (by kernel_rfl) hs (fun w48 hs49 => ?_)
          refine d_take rfl want_none rfl hs49 (fun _ hq => (y_loadN (vs := [_, _, _, _]) Try.isAgg26 Try.sizeOf26 hq.drop rfl rfl hbx)) ?_
          refine d_any rfl want_none rfl (fun _ => (y_move (v := .slice _ _ _) rfl rfl)) ?_
          refine d_any rfl want_none rfl (fun _ => (y_move (v := .int _ _) rfl rfl)) ?_
          refine d_any rfl want_none rfl (fun _ => (y_indexS Try.underlying62 Try.sizeOf27 rfl rfl rfl rfl (i := _) rfl (by omega))) ?_
          refine d_take rfl want_none rfl hs49 (fun _ hq => (y_load1 Try.isAgg27 hq rfl rfl hy)) ?_
          refine d_any rfl want_none rfl (fun _ => (y_move (v := .slice _ _ _) rfl rfl)) ?_
          refine d_eff rfl ?_
          refine w_call want_none Try.call44 rfl rfl rfl rfl (c44 p _ _ ha.cons.app hok _ _ (doC p)[i] (do_len (List.getElem_mem hi2)) hsy (do_in (List.getElem_mem hi2)) _ _ (rbUpto p (doC p) i) (do_len (rb_in hi1 (by omega))) hsb (do_in (rb_in hi1 (by omega))) hs49) ?_
          rintro _ w51 ⟨rfl, hs52⟩
          refine w_nil ?_
          refine qn ⟨hs52, ?_⟩
          refine d_nil ?_
          refine q_then (hK46 _ _ ?_)
          refine w_cond rfl rfl (fun h53 => ?_) (fun h53 => ?_)
          ·
            try simp only [Bool.not_eq_true', Bool.not_eq_false', decide_eq_true_eq, decide_eq_false_iff_not, Int.not_lt, Int.not_le] at h53
            refine w_region ?_
            refine w_pure want_none (y_move (v := .slice _ _ _) rfl rfl) rfl ?_
            refine w_pure want_none (y_move (v := .int _ _) rfl rfl) rfl ?_
            refine w_pure want_none (y_indexS Try.underlying62 Try.sizeOf27 rfl rfl rfl rfl (i := _) rfl (by omega)) rfl ?_
            refine w_pure want_none (y_load1 Try.isAgg27 hs52 rfl rfl hy) rfl ?_
            refine w_pure want_none (y_assign (v := .slice _ _ _) rfl rfl) rfl ?_
            refine w_nil ?_
            refine q_blk_normal ?_
            refine q_then (hK44 _ _ ?_)
            refine w_region ?_
            refine w_pure want_none (y_move (v := .int _ _) rfl rfl) rfl ?_
            refine w_pure want_none (y_add rfl rfl rfl rfl (by omega) (by omega)) rfl ?_
            refine w_pure want_none (y_assign (v := .int _ _) rfl rfl) rfl ?_
            refine w_nil ?_
            refine q_then (hN36 _ _ (Nx.intro ((doC p).length - (i + 1)) (by omega) (by repeat (first | exact agree_mix | refine agree_upd rfl ?_ | refine agree_updL rfl ?_ _ | refine agree_mixin rfl ?_)) ?_))
            first
              | exact ⟨i + 1, b3, c3, sl_eq (rb_yes hi1 hi2 (by assumption)) rfl, by omega, by omega, rfl, sl_as (rb_yes hi1 hi2 (by assumption)) hsy, hs52⟩
              | exact ⟨i + 1, ab, cb, sl_eq (rb_no hi1 hi2 (by assumption)) rfl, by omega, by omega, rfl, sl_as (rb_no hi1 hi2 (by assumption)) hsb, hs52⟩
          ·
            try simp only [Bool.not_eq_true', Bool.not_eq_false', decide_eq_true_eq, decide_eq_false_iff_not, Int.not_lt, Int.not_le] at h53
            refine w_skip ?_
            refine q_blk_normal ?_
            refine q_then (hK44 _ _ ?_)
            refine w_region ?_
            refine w_pure want_none (y_move (v := .int _ _) rfl rfl) rfl ?_
            refine w_pure want_none (y_add rfl rfl rfl rfl (by omega) (by omega)) rfl ?_
            refine w_pure want_none (y_assign (v := .int _ _) rfl rfl) rfl ?_
            refine w_nil ?_
            refine q_then (hN36 _ _ (Nx.intro ((doC p).length - (i + 1)) (by omega) (by repeat (first | exact agree_mix | refine agree_upd rfl ?_ | refine agree_updL rfl ?_ _ | refine agree_mixin rfl ?_)) ?_))
            first
              | exact ⟨i + 1, b3, c3, sl_eq (rb_yes hi1 hi2 (by assumption)) rfl, by omega, by omega, rfl, sl_as (rb_yes hi1 hi2 (by assumption)) hsy, hs52⟩
              | exact ⟨i + 1, ab, cb, sl_eq (rb_no hi1 hi2 (by assumption)) rfl, by omega, by omega, rfl, sl_as (rb_no hi1 hi2 (by assumption)) hsb, hs52⟩
        ·
          try simp only [Bool.not_eq_true', Bool.not_eq_false', decide_eq_true_eq, decide_eq_false_iff_not, Int.not_lt, Int.not_le] at h43
          refine w_exit ?_
          refine q_then_exit ?_
          refine q_then_exit ?_
          refine q_blk_this ?_
          refine q_then (hK32 _ _ ?_)
          refine w_seq (fun K55 hK54 => ?_)
          refine w_region ?_
          refine w_pure want_none (y_move (v := .slice _ _ _) rfl rfl) rfl ?_
          refine w_pure want_none (y_loadN (vs := [_, _, _, _]) Try.isAgg26 Try.sizeOf26 hs.drop rfl rfl hbx) rfl ?_
          refine w_pure want_none (y_move (v := .slice _ _ _) rfl rfl) rfl ?_
          refine w_call want_none Try.call43 rfl rfl rfl rfl (c43 p _ _ ha.cons.app hok _ _ (rbUpto p (doC p) i) (do_len (rb_in hi1 (by omega))) hsb (do_in (rb_in hi1 (by omega))) hs) ?_
          rintro _ w57 ⟨rfl, hs58⟩
          refine w_pure want_none (y_assign (v := .slice _ _ _) rfl rfl) rfl ?_
          refine w_pure want_none (y_assign (v := .int _ _) rfl rfl) rfl ?_
          refine w_pure want_none (y_assign (v := _) rfl rfl) rfl ?_
          refine w_nil ?_
          refine q_then (hK54 _ _ ?_)
          refine w_ret ?_
          refine q_ret (l := [.tmp 2, .tmp 3, .tmp 4]) (vs := [_, _, _]) rfl ⟨⟨rfl, show _ = (.slice _ _ _ : Value) from rfl⟩, ⟨rfl, show _ = (.int _ _ : Value) from rfl⟩, ⟨rfl, show _ = (.int _ _ : Value) from rfl⟩, trivial⟩ ?_
          first
            | (obtain ⟨e1, e2, e3⟩ := plan_e1 (p := p) (by assumption)
               refine ⟨[], none, 0, ?_, ?_, hs58.drop.tail⟩
               · rw [e1, e2, e3]; rfl
               · rw [e1]; exact Sl.nil _ _)
            | (obtain ⟨e1, e2, e3⟩ := plan_e2 (p := p) (by assumption) (best_none (by omega))
               refine ⟨[], none, 0, ?_, ?_, hs58.drop.tail⟩
               · rw [e1, e2, e3]; rfl
               · rw [e1]; exact Sl.nil _ _)
            | (have hil : i = (doC p).length := by omega
               subst hil
               obtain ⟨e1, e2, e3⟩ := plan_rb (p := p) (by assumption) hd0
               refine ⟨BD ++ [_], ab, cb, ?_, ?_, St.cast plan_end hs58⟩
               · rw [e1, e2, e3]; rfl
               · rw [e1]; exact hsb.mono fun _ h => St.cast plan_end.symm h)

theorem rheld_e2 {p : Port} {z : Int} (h : (check p).2.2 = 0) (h2 : ¬ (0 ≤ z ∧ z ≤ p.farms.length - 1)) : heldD p z = 0 ∧ heldE p z = 4 := held_e2 h (by simp [in_out.1 h2])
theorem rheld_fi {p : Port} {z : Int} (h2 : 0 ≤ z ∧ z ≤ p.farms.length - 1) : ∃ f : Nat, z = f ∧ f < p.farms.length ∧ out 0 (p.farms.length - 1) z = false := held_fi (by simp [(out_iff _ _ _).2 h2])
theorem c30 {w0 w : World} {F : List (Nat × Obj)} (p : Port) (a : Option Addr) (c : Nat) (hl3 : p.farms.length ≤ 9223372036854775807) (hc : p.farms.length ≤ c) (ha : Sl w0 F a 6 (rows p.farms)) (hnm : ∀ f ∈ p.farms, f.name.size ≤ 9223372036854775807) (z : Int) (hs : St w0 w F) :
  Con Try.prog 30 [.agg (p.cells a c).toArray, .int .i64 z] w fun v w' => v = .tuple #[.int .i64 (heldD p z), .int .i64 (heldE p z)] ∧ St w0 w' F := by
  refine con_of_wc (n := 61) Try.func30 rfl rfl (Nat.le_of_ble_eq_true rfl) ?_
  refine w_seq (fun K2 hK1 => ?_)
  refine w_region ?_
  refine w_box (v := .agg #[.int _ _, .int _ _, .int _ _, .slice _ _ _]) (cs := [_, _, _, _]) want_none rfl rfl rfl hs (fun b3 w4 hs5 => ?_)
  refine w_pure want_none (y_assign (v := _) rfl rfl) rfl ?_
  refine w_pure want_none (y_assign (v := _) rfl rfl) rfl ?_
  refine w_nil ?_
  refine q_then (hK1 _ _ ?_)
  refine w_seq (fun K7 hK6 => ?_)
  refine w_region ?_
  refine w_pure want_none (y_loadN (vs := [_, _, _, _]) Try.isAgg26 Try.sizeOf26 hs5 rfl rfl (ats_own (i := 0) (vs := [_, _, _, _]) rfl rfl)) rfl ?_
  refine w_call want_none Try.call17 rfl rfl rfl rfl (c17 p _ _ (by omega) (by omega) ha.cons hnm hs5) ?_
  rintro _ w9 ⟨rfl, hs10⟩
  refine w_pure want_none (y_move (v := .tuple _) rfl rfl) rfl ?_
  refine w_pure want_none (y_extract (v := .int _ _) rfl rfl rfl) rfl ?_
  refine w_pure want_none (y_extract (v := .int _ _) rfl rfl rfl) rfl ?_
  refine w_pure want_none (y_extract (v := .int _ _) rfl rfl rfl) rfl ?_
  refine w_pure want_none (y_assign (v := .int _ _) rfl rfl) rfl ?_
  refine w_pure want_none (y_assign (v := .int _ _) rfl rfl) rfl ?_
  refine w_pure want_none (y_assign (v := .int _ _) rfl rfl) rfl ?_
  refine w_nil ?_
  refine q_then (hK6 _ _ ?_)
  refine w_seq (fun K12 hK11 => ?_)
  refine w_seq (fun K14 hK13 => ?_)
  refine w_region ?_
  refine w_pure want_none (y_move (v := .int _ _) rfl rfl) rfl ?_
  refine w_pure want_none (y_eql rfl rfl rfl rfl) rfl ?_
  refine w_pure want_none (y_move (v := .bool _) rfl rfl) rfl ?_
  refine w_split (fun h15 => ?_) (fun h15 => ?_)
  ·
    try simp only [Bool.not_eq_true', Bool.not_eq_false', decide_eq_true_eq, decide_eq_false_iff_not, Int.not_lt, Int.not_le] at h15
    refine w_pure (want_yes rfl rfl rfl) (y_move (v := .int _ _) rfl rfl) rfl ?_
    refine w_pure (want_yes rfl rfl rfl) (y_fieldAddr (o := 3) (i := 2) Try.underlying26 rfl Try.sizeOf24 rfl rfl rfl) rfl ?_
    refine w_pure (want_yes rfl rfl rfl) (y_load1 Try.isAgg24 hs10 rfl rfl (ats_own (i := 0) (vs := [_]) rfl rfl)) rfl ?_
    refine w_pure (want_yes rfl rfl rfl) (y_lenS Try.underlying24 rfl rfl) rfl ?_
    refine w_pure (want_yes rfl rfl rfl) (y_sub rfl rfl rfl rfl (by omega) (by omega)) rfl ?_
    refine w_call (want_yes rfl rfl rfl) Try.call45 rfl rfl rfl rfl (c45 _ _ _ hs10) ?_
    rintro _ w17 ⟨rfl, hs18⟩
    refine w_pure (want_yes rfl rfl rfl) (y_not rfl rfl) rfl ?_
    refine w_pure want_none (y_pickT (v := .bool _) rfl rfl rfl rfl) rfl ?_
    refine w_nil ?_
    refine q_then (hK13 _ _ ?_)
    refine w_cond rfl rfl (fun h19 => ?_) (fun h19 => ?_)
    ·
      try simp only [Bool.not_eq_true', Bool.not_eq_false', decide_eq_true_eq, decide_eq_false_iff_not, Int.not_lt, Int.not_le] at h19
      refine w_region ?_
      refine w_pure want_none (y_assign (v := _) rfl rfl) rfl ?_
      refine w_nil ?_
      refine q_then (hK11 _ _ ?_)
      refine w_seq (fun K21 hK20 => ?_)
      refine w_seq (fun K23 hK22 => ?_)
      refine w_region ?_
      refine w_pure want_none (y_move (v := .int _ _) rfl rfl) rfl ?_
      refine w_pure want_none (y_neq rfl rfl rfl rfl) rfl ?_
      refine w_nil ?_
      refine q_then (hK22 _ _ ?_)
      refine w_condT rfl rfl ?_
      refine w_seq (fun K25 hK24 => ?_)
      refine w_region ?_
      refine w_pure want_none (y_move (v := .int _ _) rfl rfl) rfl ?_
      refine w_pure want_none (y_assign (v := _) rfl rfl) rfl ?_
      refine w_pure want_none (y_assign (v := .int _ _) rfl rfl) rfl ?_
      refine w_nil ?_
      refine q_then (hK24 _ _ ?_)
      refine w_ret ?_
      refine q_then_ret ?_
      refine q_ret (l := [.tmp 4, .tmp 5]) (vs := [_, _]) rfl ⟨⟨rfl, show _ = (.int _ _ : Value) from rfl⟩, ⟨rfl, show _ = (.int _ _ : Value) from rfl⟩, trivial⟩ ?_
      first
        | (obtain ⟨e1, e2⟩ := held_e1 (p := p) (z := z) (by assumption); rw [e1, e2]; exact ⟨rfl, hs18.tail⟩)
        | (obtain ⟨e1, e2⟩ := rheld_e2 (p := p) (z := z) (by assumption) (by assumption); rw [e1, e2]; exact ⟨rfl, hs18.tail⟩)
        | (obtain ⟨e1, e2⟩ := held_down (p := p) (f := f) (by assumption) hfo (by omega); rw [e1, e2]; exact ⟨rfl, hs18.tail⟩)
        | (obtain ⟨e1, e2⟩ := held_never (p := p) (f := f) (by assumption) hfo (anyNever_true (i := i + 1) (by rw [anyNever_succ hi3, hnv, hgf, Bool.false_or]; exact decide_eq_true (by assumption))) (by omega); rw [e1, e2]; exact ⟨rfl, hs18.tail⟩)
        | (rw [anyNever_all (by rw [doP_length]; omega)] at hnv; obtain ⟨e1, e2⟩ := held_some (p := p) (f := f) (by assumption) hfo hnv (by omega); rw [e1, e2, ← heldUpto_all (i := i) (by rw [doP_length]; omega)]; exact ⟨rfl, hs18.tail⟩)
    ·
      try simp only [Bool.not_eq_true', Bool.not_eq_false', decide_eq_true_eq, decide_eq_false_iff_not, Int.not_lt, Int.not_le] at h19
      refine w_skip ?_
      refine q_then (hK11 _ _ ?_)
      refine w_seq (fun K27 hK26 => ?_)
      refine w_seq (fun K29 hK28 => ?_)
      refine w_region ?_
      refine w_pure want_none (y_move (v := .int _ _) rfl rfl) rfl ?_
      refine w_pure want_none (y_neq rfl rfl rfl rfl) rfl ?_
      refine w_nil ?_
      refine q_then (hK28 _ _ ?_)
      refine w_cond rfl rfl (fun h30 => ?_) (fun h30 => ?_)
      ·
        try simp only [Bool.not_eq_true', Bool.not_eq_false', decide_eq_true_eq, decide_eq_false_iff_not, Int.not_lt, Int.not_le] at h30
        contradiction
      ·
        try simp only [Bool.not_eq_true', Bool.not_eq_false', decide_eq_true_eq, decide_eq_false_iff_not, Int.not_lt, Int.not_le] at h30
        refine w_skip ?_
        refine q_then (hK26 _ _ ?_)
        refine w_seq (fun K32 hK31 => ?_)
        obtain ⟨f, rfl, hfl, hfo⟩ := rheld_fi (p := p) (by assumption)
        have hok := check_ok (by assumption)
        have hlen3 := hok.len
        have hsm := do_small hok
        refine w_region ?_
        refine w_pure want_none (y_loadN (vs := [_, _, _, _]) Try.isAgg26 Try.sizeOf26 hs18 rfl rfl (ats_own (i := 0) (vs := [_, _, _, _]) rfl rfl)) rfl ?_
        refine w_call want_none Try.call47 rfl rfl rfl rfl (c47 p _ _ ha.cons hok hs18) ?_
        rintro _ w34 ⟨BD, vd, ad, cd, rfl, hsd, hed, hs35⟩
        replace hs35 := (show St _ _ (BD ++ (_ :: F)) from hs35)
        have hbx : Ats w0 ((b3, blk 26 (p.cells a c)) :: F) b3 0 (p.cells a c) := ats_own (i := 0) (vs := p.cells a c) rfl rfl
        refine w_pure want_none (y_assign (v := .slice _ _ _) rfl rfl) rfl ?_
        refine w_nil ?_
        refine q_then (hK31 _ _ ?_)
        refine w_seq (fun K37 hK36 => ?_)
        refine w_seq (fun K39 hK38 => ?_)
        refine w_region ?_
        refine w_pure want_none (y_move (v := .slice _ _ _) rfl rfl) rfl ?_
        refine w_pure want_none (y_lenS Try.underlying62 rfl rfl) rfl ?_
        refine w_pure want_none (y_eql rfl rfl rfl rfl) rfl ?_
        refine w_nil ?_
        refine q_then (hK38 _ _ ?_)
        refine w_cond rfl rfl (fun h40 => ?_) (fun h40 => ?_)
        ·
          try simp only [Bool.not_eq_true', Bool.not_eq_false', decide_eq_true_eq, decide_eq_false_iff_not, Int.not_lt, Int.not_le] at h40
          refine w_seq (fun K42 hK41 => ?_)
          refine w_region ?_
          refine w_pure want_none (y_assign (v := _) rfl rfl) rfl ?_
          refine w_pure want_none (y_assign (v := _) rfl rfl) rfl ?_
          refine w_nil ?_
          refine q_then (hK41 _ _ ?_)
          refine w_ret ?_
          refine q_then_ret ?_
          refine q_ret (l := [.tmp 4, .tmp 5]) (vs := [_, _]) rfl ⟨⟨rfl, show _ = (.int _ _ : Value) from rfl⟩, ⟨rfl, show _ = (.int _ _ : Value) from rfl⟩, trivial⟩ ?_
          first
            | (obtain ⟨e1, e2⟩ := held_e1 (p := p) (z := z) (by assumption); rw [e1, e2]; exact ⟨rfl, hs35.drop.tail⟩)
            | (obtain ⟨e1, e2⟩ := rheld_e2 (p := p) (z := z) (by assumption) (by assumption); rw [e1, e2]; exact ⟨rfl, hs35.drop.tail⟩)
            | (obtain ⟨e1, e2⟩ := held_down (p := p) (f := f) (by assumption) hfo (by omega); rw [e1, e2]; exact ⟨rfl, hs35.drop.tail⟩)
            | (obtain ⟨e1, e2⟩ := held_never (p := p) (f := f) (by assumption) hfo (anyNever_true (i := i + 1) (by rw [anyNever_succ hi3, hnv, hgf, Bool.false_or]; exact decide_eq_true (by assumption))) (by omega); rw [e1, e2]; exact ⟨rfl, hs35.drop.tail⟩)
            | (rw [anyNever_all (by rw [doP_length]; omega)] at hnv; obtain ⟨e1, e2⟩ := held_some (p := p) (f := f) (by assumption) hfo hnv (by omega); rw [e1, e2, ← heldUpto_all (i := i) (by rw [doP_length]; omega)]; exact ⟨rfl, hs35.drop.tail⟩)
        ·
          try simp only [Bool.not_eq_true', Bool.not_eq_false', decide_eq_true_eq, decide_eq_false_iff_not, Int.not_lt, Int.not_le] at h40
          refine w_skip ?_
          refine q_then (hK36 _ _ ?_)
          refine w_seq (fun K44 hK43 => ?_)
          refine w_region ?_
          refine w_pure want_none (y_assign (v := _) rfl rfl) rfl ?_
          refine w_nil ?_
          refine q_then (hK43 _ _ ?_)
          refine w_seq (fun K46 hK45 => ?_)
          refine w_seq (fun K48 hK47 => ?_)
          refine w_region ?_
          refine w_pure want_none (y_assign (v := _) rfl rfl) rfl ?_
          refine w_nil ?_
          refine q_then (hK47 _ _ ?_)
          refine w_block ?_
          refine w_loop [4, 5, 10, 11, 37, 38, 39, 40, 41, 42, 43, 44, 45, 46, 47, 48, 49, 50, 51, 52, 53, 54, 55, 56, 57, 58, 59] [10, 11] (fun kk vs0 w => ∃ (i : Nat), vs0 = [.int .i64 (heldUpto p f i), .int .i64 i] ∧ i ≤ (doC p).length ∧ kk = (doC p).length - i ∧ anyNever p f i = false ∧ St w0 w (BD ++ ((b3, blk 26 (p.cells a c)) :: F))) ((doC p).length) ?_ ?_
          ·
            exact ⟨0, rfl, by omega, by omega, rfl, hs35⟩
          ·
            intro k vs μ w51 hI K50 hN49
            obtain ⟨i, rfl, hia, rfl, hnv, hs⟩ := hI
            refine w_seq (fun K53 hK52 => ?_)
            refine w_seq (fun K55 hK54 => ?_)
            refine w_region ?_
            refine w_pure want_none (y_move (v := .int _ _) rfl rfl) rfl ?_
            refine w_pure want_none (y_move (v := .slice _ _ _) rfl rfl) rfl ?_
            refine w_pure want_none (y_lenS Try.underlying62 rfl rfl) rfl ?_
            refine w_pure want_none (y_lss rfl rfl rfl rfl) rfl ?_
            refine w_nil ?_
            refine q_then (hK54 _ _ ?_)
            refine w_cond rfl rfl (fun h56 => ?_) (fun h56 => ?_)
            ·
              try simp only [Bool.not_eq_true', Bool.not_eq_false', decide_eq_true_eq, decide_eq_false_iff_not, Int.not_lt, Int.not_le] at h56
              refine w_skip ?_
              refine q_then (hK52 _ _ ?_)
              refine w_seq (fun K58 hK57 => ?_)
              refine w_block ?_
              refine w_seq (fun K60 hK59 => ?_)
              refine w_seq (fun K62 hK61 => ?_)
              have hi2 : i < (doC p).length := by omega
              obtain ⟨bx2, ox2, b3, c3, rfl, hy, hsy, hny⟩ := el_at hsd hed hi2
              have hln := do_len (List.getElem_mem hi2)
              have hfi : f < ((doC p)[i]).length := by omega
              obtain ⟨bl, ol, rfl, hz⟩ := sl_ints hsy hfi
              have hi3 : i < (doP p).length := by rw [doP_length]; exact hi2
              have hgf := doP_get hok hi2 hi3 hfi
              refine w_region ?_
              refine w_pure want_none (y_move (v := .slice _ _ _) rfl rfl) rfl ?_
              refine w_pure want_none (y_move (v := .int _ _) rfl rfl) rfl ?_
              refine w_pure want_none (y_indexS Try.underlying62 Try.sizeOf27 rfl rfl rfl rfl (i := _) rfl (by omega)) rfl ?_
              refine w_pure want_none (y_load1 Try.isAgg27 hs rfl rfl hy) rfl ?_
              refine w_pure want_none (y_move (v := .int _ _) rfl rfl) rfl ?_
              refine w_pure want_none (y_indexS Try.underlying27 Try.sizeOf3 rfl rfl rfl rfl (i := _) rfl (by omega)) rfl ?_
              refine w_pure want_none (y_load1 Try.isAgg3 hs rfl rfl hz) rfl ?_
              refine w_pure want_none (y_eql rfl rfl rfl rfl) rfl ?_
              refine w_nil ?_
              refine q_then (hK61 _ _ ?_)
              refine w_cond rfl rfl (fun h63 => ?_) (fun h63 => ?_)
              ·
                try simp only [Bool.not_eq_true', Bool.not_eq_false', decide_eq_true_eq, decide_eq_false_iff_not, Int.not_lt, Int.not_le] at h63
                refine w_seq (fun K65 hK64 => ?_)
                refine w_region ?_
                refine w_pure want_none (y_assign (v := _) rfl rfl) rfl ?_
                refine w_pure want_none (y_assign (v := _) rfl rfl) rfl ?_
                refine w_nil ?_
                refine q_then (hK64 _ _ ?_)
                refine w_ret ?_
                refine q_then_ret ?_
                refine q_blk_ret ?_
                refine q_then_ret ?_
                refine q_then_ret ?_
                refine q_blk_ret ?_
                refine q_then_ret ?_
                refine q_ret (l := [.tmp 4, .tmp 5]) (vs := [_, _]) rfl ⟨⟨rfl, show _ = (.int _ _ : Value) from rfl⟩, ⟨rfl, show _ = (.int _ _ : Value) from rfl⟩, trivial⟩ ?_
                first
                  | (obtain ⟨e1, e2⟩ := held_e1 (p := p) (z := z) (by assumption); rw [e1, e2]; exact ⟨rfl, hs.drop.tail⟩)
                  | (obtain ⟨e1, e2⟩ := rheld_e2 (p := p) (z := z) (by assumption) (by assumption); rw [e1, e2]; exact ⟨rfl, hs.drop.tail⟩)
                  | (obtain ⟨e1, e2⟩ := held_down (p := p) (f := f) (by assumption) hfo (by omega); rw [e1, e2]; exact ⟨rfl, hs.drop.tail⟩)
                  | (obtain ⟨e1, e2⟩ := held_never (p := p) (f := f) (by assumption) hfo (anyNever_true (i := i + 1) (by rw [anyNever_succ hi3, hnv, hgf, Bool.false_or]; exact decide_eq_true (by assumption))) (by omega); rw [e1, e2]; exact ⟨rfl, hs.drop.tail⟩)
                  | (rw [anyNever_all (by rw [doP_length]; omega)] at hnv; obtain ⟨e1, e2⟩ := held_some (p := p) (f := f) (by assumption) hfo hnv (by omega); rw [e1, e2, ← heldUpto_all (i := i) (by rw [doP_length]; omega)]; exact ⟨rfl, hs.drop.tail⟩)
              ·
                try simp only [Bool.not_eq_true', Bool.not_eq_false', decide_eq_true_eq, decide_eq_false_iff_not, Int.not_lt, Int.not_le] at h63
                refine w_skip ?_
                refine q_then (hK59 _ _ ?_)
                refine w_region ?_
                refine w_pure want_none (y_move (v := .int _ _) rfl rfl) rfl ?_
                refine w_pure want_none (y_move (v := .slice _ _ _) rfl rfl) rfl ?_
                refine w_pure want_none (y_move (v := .int _ _) rfl rfl) rfl ?_
                refine w_pure want_none (y_indexS Try.underlying62 Try.sizeOf27 rfl rfl rfl rfl (i := _) rfl (by omega)) rfl ?_
                refine w_pure want_none (y_load1 Try.isAgg27 hs rfl rfl hy) rfl ?_
                refine w_pure want_none (y_move (v := .int _ _) rfl rfl) rfl ?_
                refine w_pure want_none (y_indexS Try.underlying27 Try.sizeOf3 rfl rfl rfl rfl (i := _) rfl (by omega)) rfl ?_
                refine w_pure want_none (y_load1 Try.isAgg3 hs rfl rfl hz) rfl ?_
                refine w_pure want_none (y_max2 rfl rfl rfl rfl) rfl ?_
                refine w_pure want_none (y_assign (v := .int _ _) rfl rfl) rfl ?_
                refine w_nil ?_
                refine q_blk_normal ?_
                refine q_then (hK57 _ _ ?_)
                refine w_region ?_
                refine w_pure want_none (y_move (v := .int _ _) rfl rfl) rfl ?_
                refine w_pure want_none (y_add rfl rfl rfl rfl (by omega) (by omega)) rfl ?_
                refine w_pure want_none (y_assign (v := .int _ _) rfl rfl) rfl ?_
                refine w_nil ?_
                refine q_then (hN49 _ _ (Nx.intro ((doC p).length - (i + 1)) (by omega) (by repeat (first | exact agree_mix | refine agree_upd rfl ?_ | refine agree_updL rfl ?_ _ | refine agree_mixin rfl ?_)) ?_))
                exact ⟨i + 1, iv2 (by rw [heldUpto_succ hi3, hgf]) rfl, by omega, rfl, by rw [anyNever_succ hi3, hnv, hgf, Bool.false_or]; exact decide_eq_false (by assumption), hs⟩
            ·
              try simp only [Bool.not_eq_true', Bool.not_eq_false', decide_eq_true_eq, decide_eq_false_iff_not, Int.not_lt, Int.not_le] at h56
              refine w_exit ?_
              refine q_then_exit ?_
              refine q_then_exit ?_
              refine q_blk_this ?_
              refine q_then (hK45 _ _ ?_)
              refine w_seq (fun K67 hK66 => ?_)
              refine w_region ?_
              refine w_pure want_none (y_move (v := .int _ _) rfl rfl) rfl ?_
              refine w_pure want_none (y_assign (v := .int _ _) rfl rfl) rfl ?_
              refine w_pure want_none (y_assign (v := _) rfl rfl) rfl ?_
              refine w_nil ?_
              refine q_then (hK66 _ _ ?_)
              refine w_ret ?_
              refine q_ret (l := [.tmp 4, .tmp 5]) (vs := [_, _]) rfl ⟨⟨rfl, show _ = (.int _ _ : Value) from rfl⟩, ⟨rfl, show _ = (.int _ _ : Value) from rfl⟩, trivial⟩ ?_
              first
                | (obtain ⟨e1, e2⟩ := held_e1 (p := p) (z := z) (by assumption); rw [e1, e2]; exact ⟨rfl, hs.drop.tail⟩)
                | (obtain ⟨e1, e2⟩ := rheld_e2 (p := p) (z := z) (by assumption) (by assumption); rw [e1, e2]; exact ⟨rfl, hs.drop.tail⟩)
                | (obtain ⟨e1, e2⟩ := held_down (p := p) (f := f) (by assumption) hfo (by omega); rw [e1, e2]; exact ⟨rfl, hs.drop.tail⟩)
                | (obtain ⟨e1, e2⟩ := held_never (p := p) (f := f) (by assumption) hfo (anyNever_true (i := i + 1) (by rw [anyNever_succ hi3, hnv, hgf, Bool.false_or]; exact decide_eq_true (by assumption))) (by omega); rw [e1, e2]; exact ⟨rfl, hs.drop.tail⟩)
                | (rw [anyNever_all (by rw [doP_length]; omega)] at hnv; obtain ⟨e1, e2⟩ := held_some (p := p) (f := f) (by assumption) hfo hnv (by omega); rw [e1, e2, ← heldUpto_all (i := i) (by rw [doP_length]; omega)]; exact ⟨rfl, hs.drop.tail⟩)
  ·
    try simp only [Bool.not_eq_true', Bool.not_eq_false', decide_eq_true_eq, decide_eq_false_iff_not, Int.not_lt, Int.not_le] at h15
    refine w_skipop rfl rfl rfl ?_
    refine w_skipop rfl rfl rfl ?_
    refine w_skipop rfl rfl rfl ?_
    refine w_skipop rfl rfl rfl ?_
    refine w_skipop rfl rfl rfl ?_
    refine w_skipop rfl rfl rfl ?_
    refine w_skipop rfl rfl rfl ?_
    refine w_pure want_none (y_pickF (v := _) rfl rfl rfl rfl) rfl ?_
    refine w_nil ?_
    refine q_then (hK13 _ _ ?_)
    refine w_condF rfl rfl ?_
    refine w_skip ?_
    refine q_then (hK11 _ _ ?_)
    refine w_seq (fun K69 hK68 => ?_)
    refine w_seq (fun K71 hK70 => ?_)
    refine w_region ?_
    refine w_pure want_none (y_move (v := .int _ _) rfl rfl) rfl ?_
    refine w_pure want_none (y_neq rfl rfl rfl rfl) rfl ?_
    refine w_nil ?_
    refine q_then (hK70 _ _ ?_)
    refine w_cond rfl rfl (fun h72 => ?_) (fun h72 => ?_)
    ·
      try simp only [Bool.not_eq_true', Bool.not_eq_false', decide_eq_true_eq, decide_eq_false_iff_not, Int.not_lt, Int.not_le] at h72
      refine w_seq (fun K74 hK73 => ?_)
      refine w_region ?_
      refine w_pure want_none (y_move (v := .int _ _) rfl rfl) rfl ?_
      refine w_pure want_none (y_assign (v := _) rfl rfl) rfl ?_
      refine w_pure want_none (y_assign (v := .int _ _) rfl rfl) rfl ?_
      refine w_nil ?_
      refine q_then (hK73 _ _ ?_)
      refine w_ret ?_
      refine q_then_ret ?_
      refine q_ret (l := [.tmp 4, .tmp 5]) (vs := [_, _]) rfl ⟨⟨rfl, show _ = (.int _ _ : Value) from rfl⟩, ⟨rfl, show _ = (.int _ _ : Value) from rfl⟩, trivial⟩ ?_
      first
        | (obtain ⟨e1, e2⟩ := held_e1 (p := p) (z := z) (by assumption); rw [e1, e2]; exact ⟨rfl, hs10.tail⟩)
        | (obtain ⟨e1, e2⟩ := rheld_e2 (p := p) (z := z) (by assumption) (by assumption); rw [e1, e2]; exact ⟨rfl, hs10.tail⟩)
        | (obtain ⟨e1, e2⟩ := held_down (p := p) (f := f) (by assumption) hfo (by omega); rw [e1, e2]; exact ⟨rfl, hs10.tail⟩)
        | (obtain ⟨e1, e2⟩ := held_never (p := p) (f := f) (by assumption) hfo (anyNever_true (i := i + 1) (by rw [anyNever_succ hi3, hnv, hgf, Bool.false_or]; exact decide_eq_true (by assumption))) (by omega); rw [e1, e2]; exact ⟨rfl, hs10.tail⟩)
        | (rw [anyNever_all (by rw [doP_length]; omega)] at hnv; obtain ⟨e1, e2⟩ := held_some (p := p) (f := f) (by assumption) hfo hnv (by omega); rw [e1, e2, ← heldUpto_all (i := i) (by rw [doP_length]; omega)]; exact ⟨rfl, hs10.tail⟩)
    ·
      try simp only [Bool.not_eq_true', Bool.not_eq_false', decide_eq_true_eq, decide_eq_false_iff_not, Int.not_lt, Int.not_le] at h72
      contradiction

end Go.Proofs
