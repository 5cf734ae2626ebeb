/- Own texts of this claim, joined. No conditions. -/
import Derived.Test.YtiemgahjdgajmaaHHandNextsa
import Derived.Test.YtiemgahjdgajmaaHHandNextsb
import Derived.Test.YtiemgahjdgajmaaHHandNextsc
import Derived.Test.YtiemgahjdgajmaaHHandNextsd
import Derived.Test.YtiemgahjdgajmaaHHandNextse
import Derived.Test.YtiemgahjdgajmaaHHandNextsf
import Derived.Test.YtiemgahjdgajmaaHHandNextsg
/- Walks of this seat, printed by gen.py over the engine: what each function returns, in whatever world. No conditions but those of each contract. -/
set_option linter.unusedVariables false
set_option linter.unusedSimpArgs false
set_option maxRecDepth 20000
namespace Go.Proofs
open Go.Rt Go.Rt.Ha
attribute [local irreducible] WL WC Con Yd At Ats Sl Agree DW

theorem iv3Q {a b c d e f : Int} (h : a = b) (h2 : c = d) (h3 : e = f) : [Value.int .i64 a, Value.int .i64 c, Value.int .i64 e] = [Value.int .i64 b, Value.int .i64 d, Value.int .i64 f] := by rw [h, h2, h3]
theorem c33 {w0 w : World} {F : List (Nat × Obj)} (l : Lot) (p : At3) (hm : LIn w0 F l p)  (hs : St w0 w F) :
  Con Try.prog 33 [.agg (l.cells p).toArray] w fun v w' => v = .tuple #[.int .i64 (nextP l).1, .int .i64 (nextP l).2.1, .int .i64 (nextP l).2.2] ∧ St w0 w' F := by
  refine con_of_wc (n := 62) Try.func33 rfl rfl (Nat.le_of_ble_eq_true rfl) ?_
  have hlb0 := hm.lb
  refine w_seq (fun K2 hK1 => ?_)
  refine w_region ?_
  refine w_box (v := .agg #[.slice _ _ _, .slice _ _ _, .slice _ _ _]) (cs := [_, _, _]) want_none rfl rfl rfl hs (fun b3 w4 hs5 => ?_)
  refine w_pure want_none (y_assign (v := _) rfl rfl) rfl ?_
  refine w_pure want_none (y_assign (v := _) rfl rfl) rfl ?_
  refine w_pure want_none (y_assign (v := _) rfl rfl) rfl ?_
  refine w_nil ?_
  refine q_then (hK1 _ _ ?_)
  refine w_seq (fun K7 hK6 => ?_)
  have hbx := ats_ofR (i := 0) (vs := l.cells p) hs5 rfl rfl
  refine w_region ?_
  refine w_pure want_none (y_loadN (vs := [_, _, _]) Try.isAgg26 Try.sizeOf26 hs5 rfl rfl hbx) rfl ?_
  refine w_call want_none Try.call17 rfl rfl rfl rfl (c17 l p hm.cons hs5) ?_
  rintro _ w9 ⟨rfl, hs10⟩
  refine w_pure want_none (y_move (v := .tuple _) rfl rfl) rfl ?_
  refine w_pure want_none (y_extract (v := .int _ _) rfl rfl rfl) rfl ?_
  refine w_pure want_none (y_extract (v := .int _ _) rfl rfl rfl) rfl ?_
  refine w_pure want_none (y_extract (v := .int _ _) rfl rfl rfl) rfl ?_
  refine w_pure want_none (y_assign (v := .int _ _) rfl rfl) rfl ?_
  refine w_pure want_none (y_assign (v := .int _ _) rfl rfl) rfl ?_
  refine w_pure want_none (y_assign (v := .int _ _) rfl rfl) rfl ?_
  refine w_nil ?_
  refine q_then (hK6 _ _ ?_)
  refine w_seq (fun K12 hK11 => ?_)
  refine w_region ?_
  refine w_pure want_none (y_loadN (vs := [_, _, _]) Try.isAgg26 Try.sizeOf26 hs10 rfl rfl hbx) rfl ?_
  refine w_pure want_none (y_move (v := .int _ _) rfl rfl) rfl ?_
  refine w_call want_none Try.call72 rfl rfl rfl rfl (c72 l p hm.cons (check l).2.2 (fun h => check_ok h) hs10) ?_
  rintro _ w14 (⟨hee, rfl, hs15⟩ | ⟨hee, B, vs, a, c, rfl, hslB, helB, hs15⟩)
  ·
   refine w_pure want_none (y_move (v := .tuple _) rfl rfl) rfl ?_
   refine w_pure want_none (y_extract (v := .slice _ _ _) rfl rfl rfl) rfl ?_
   refine w_pure want_none (y_extract (v := .int _ _) rfl rfl rfl) rfl ?_
   refine w_pure want_none (y_assign (v := .slice _ _ _) rfl rfl) rfl ?_
   refine w_pure want_none (y_assign (v := .int _ _) rfl rfl) rfl ?_
   refine w_nil ?_
   refine q_then (hK11 _ _ ?_)
   refine w_seq (fun K17 hK16 => ?_)
   refine w_seq (fun K19 hK18 => ?_)
   refine w_region ?_
   refine w_pure want_none (y_move (v := .int _ _) rfl rfl) rfl ?_
   refine w_pure want_none (y_neq rfl rfl rfl rfl) rfl ?_
   refine w_nil ?_
   refine q_then (hK18 _ _ ?_)
   refine w_cond rfl rfl (fun h20 => ?_) (fun h20 => ?_)
   ·
    try simp only [Bool.not_eq_true', Bool.not_eq_false', decide_eq_true_eq, decide_eq_false_iff_not, Int.not_lt, Int.not_le] at h20
    refine w_seq (fun K22 hK21 => ?_)
    refine w_region ?_
    refine w_pure want_none (y_move (v := .int _ _) rfl rfl) rfl ?_
    refine w_pure want_none (y_assign (v := _) rfl rfl) rfl ?_
    refine w_pure want_none (y_assign (v := _) rfl rfl) rfl ?_
    refine w_pure want_none (y_assign (v := .int _ _) rfl rfl) rfl ?_
    refine w_nil ?_
    refine q_then (hK21 _ _ ?_)
    refine w_ret ?_
    refine q_then_ret ?_
    refine q_ret (l := [.tmp 2, .tmp 3, .tmp 4]) (vs := [_, _, _]) rfl ⟨⟨rfl, show _ = (.int _ _ : Value) from rfl⟩, ⟨rfl, show _ = (.int _ _ : Value) from rfl⟩, ⟨rfl, show _ = (.int _ _ : Value) from rfl⟩, trivial⟩ ?_
    exact ⟨by rw [← next_same]; unfold nextR; rw [if_pos (by rw [← kE_chk]; exact hee), ← kE_chk]; rfl, hs15.tail⟩
   ·
    exfalso
    try simp only [Bool.not_eq_true', Bool.not_eq_false', decide_eq_true_eq, decide_eq_false_iff_not, Int.not_lt, Int.not_le] at h20
    first | exact hee h20 | exact h20 hee
  ·
   replace hs15 := (show St _ _ (B ++ (_ :: F)) from hs15)
   have hke := kE_zero hee
   have hok := check_ok hke.1
   have hlg := hok.lg
   have hlb := hok.lb
   have hlc := hok.lc
   have hwl := ways_len hok 0
   have hwp : 0 < (Ha.ways l 0).length := by cases hw : Ha.ways l 0 with | nil => exact absurd hw hke.2 | cons _ _ => simp
   refine w_pure want_none (y_move (v := .tuple _) rfl rfl) rfl ?_
   refine w_pure want_none (y_extract (v := .slice _ _ _) rfl rfl rfl) rfl ?_
   refine w_pure want_none (y_extract (v := .int _ _) rfl rfl rfl) rfl ?_
   refine w_pure want_none (y_assign (v := .slice _ _ _) rfl rfl) rfl ?_
   refine w_pure want_none (y_assign (v := .int _ _) rfl rfl) rfl ?_
   refine w_nil ?_
   refine q_then (hK11 _ _ ?_)
   refine w_seq (fun K24 hK23 => ?_)
   refine w_seq (fun K26 hK25 => ?_)
   refine w_region ?_
   refine w_pure want_none (y_move (v := .int _ _) rfl rfl) rfl ?_
   refine w_pure want_none (y_neq rfl rfl rfl rfl) rfl ?_
   refine w_nil ?_
   refine q_then (hK25 _ _ ?_)
   refine w_condF rfl rfl ?_
   refine w_skip ?_
   refine q_then (hK23 _ _ ?_)
   refine w_seq (fun K28 hK27 => ?_)
   refine w_region ?_
   refine w_pure want_none (y_assign (v := _) rfl rfl) rfl ?_
   refine w_pure want_none (y_assign (v := _) rfl rfl) rfl ?_
   refine w_nil ?_
   refine q_then (hK27 _ _ ?_)
   refine w_seq (fun K30 hK29 => ?_)
   refine w_seq (fun K32 hK31 => ?_)
   refine w_region ?_
   refine w_pure want_none (y_assign (v := _) rfl rfl) rfl ?_
   refine w_nil ?_
   refine q_then (hK31 _ _ ?_)
   refine w_block ?_
   refine w_loop [9, 10, 11, 12, 28, 29, 30, 31, 32, 33, 34, 35, 36, 37, 38, 39, 40, 41, 42, 43, 44, 45, 46, 47, 48, 49, 50, 51, 52, 53, 54, 55, 56, 57] [9, 10, 11] (fun k vs0 w => ∃ (q : Nat), vs0 = [.int .i64 (nextRTo (Ha.ways l 0) q).1, .int .i64 (nextRTo (Ha.ways l 0) q).2, .int .i64 q] ∧ q ≤ l.bunches.length ∧ k = l.bunches.length - q ∧ St w0 w (B ++ ((b3, blk 26 (l.cells p)) :: F))) (l.bunches.length) ?_ ?_
   ·
    exact ⟨0, rfl, by omega, by omega, hs15⟩
   ·
    intro k vs μ w35 hI K34 hN33
    obtain ⟨q, rfl, hqa, rfl, hs⟩ := hI
    refine w_seq (fun K37 hK36 => ?_)
    refine w_seq (fun K39 hK38 => ?_)
    refine w_region ?_
    refine w_pure want_none (y_move (v := .int _ _) rfl rfl) rfl ?_
    refine w_pure want_none (y_fieldAddr (o := 1) (i := 1) Try.underlying26 rfl Try.sizeOf23 rfl rfl rfl) rfl ?_
    refine w_pure want_none (y_load1 Try.isAgg23 hs.drop rfl rfl (show Ats _ _ _ _ [_] from Ats.part hbx 1 1)) rfl ?_
    refine w_pure want_none (y_lenS Try.underlying23 rfl rfl) rfl ?_
    refine w_pure want_none (y_lss rfl rfl rfl rfl) rfl ?_
    refine w_nil ?_
    refine q_then (hK38 _ _ ?_)
    refine w_cond rfl rfl (fun h40 => ?_) (fun h40 => ?_)
    ·
     try simp only [Bool.not_eq_true', Bool.not_eq_false', decide_eq_true_eq, decide_eq_false_iff_not, Int.not_lt, Int.not_le] at h40
     refine w_skip ?_
     refine q_then (hK36 _ _ ?_)
     refine w_seq (fun K42 hK41 => ?_)
     refine w_block ?_
     refine w_seq (fun K44 hK43 => ?_)
     have hq2 : q < l.bunches.length := by omega
     refine w_region ?_
     refine w_pure want_none (y_move (v := .slice _ _ _) rfl rfl) rfl ?_
     refine w_pure want_none (y_move (v := .int _ _) rfl rfl) rfl ?_
     refine w_call want_none Try.call74 rfl rfl rfl rfl (c74 _ _ (Ha.ways l 0) vs hslB.top helB.top hwl hwp q (fun h hh => by rw [way_len hh]; omega) hs) ?_
     rintro _ w46 ⟨rfl, hs47⟩
     refine w_alloc (cs := [_, _]) want_none Try.zeroValue34 rfl hs47 (fun b48 w49 hs50 => ?_)
     refine w_store (i := 0) (v := .agg #[.int _ _, .int _ _]) (vs := [_, _]) want_none Try.sizeOf34 rfl rfl rfl rfl rfl (by simp [Value.oneCell']) hs50 rfl (Nat.le_of_ble_eq_true rfl) (fun w51 hs52 => ?_)
     refine w_nil ?_
     refine q_then (hK43 _ _ ?_)
     refine w_seq (fun K54 hK53 => ?_)
     refine w_region ?_
     refine w_pure want_none (y_fieldAddr (o := 0) (i := 0) Try.underlying34 rfl Try.sizeOf3 rfl rfl rfl) rfl ?_
     refine w_pure want_none (y_load1 Try.isAgg3 hs52 rfl rfl (ats_own (i := 0) (vs := [_]) rfl rfl)) rfl ?_
     refine w_pure want_none (y_fieldAddr (o := 1) (i := 1) Try.underlying34 rfl Try.sizeOf3 rfl rfl rfl) rfl ?_
     refine w_pure want_none (y_load1 Try.isAgg3 hs52 rfl rfl (ats_own (i := 0) (vs := [_]) rfl rfl)) rfl ?_
     refine w_pure want_none (y_lss rfl rfl rfl rfl) rfl ?_
     refine w_pure want_none (y_move (v := .bool _) rfl rfl) rfl ?_
     refine w_split (fun h55 => ?_) (fun h55 => ?_)
     ·
      try simp only [Bool.not_eq_true', Bool.not_eq_false', decide_eq_true_eq, decide_eq_false_iff_not, Int.not_lt, Int.not_le] at h55
      refine w_pure (want_yes rfl rfl rfl) (y_move (v := .int _ _) rfl rfl) rfl ?_
      refine w_pure (want_yes rfl rfl rfl) (y_lss rfl rfl rfl rfl) rfl ?_
      refine w_pure (want_yes rfl rfl rfl) (y_move (v := .bool _) rfl rfl) rfl ?_
      refine w_split (fun h56 => ?_) (fun h56 => ?_)
      ·
       try simp only [Bool.not_eq_true', Bool.not_eq_false', decide_eq_true_eq, decide_eq_false_iff_not, Int.not_lt, Int.not_le] at h56
       refine w_skipop rfl rfl rfl ?_
       refine w_skipop rfl rfl rfl ?_
       refine w_skipop rfl rfl rfl ?_
       refine w_skipop rfl rfl rfl ?_
       refine w_skipop rfl rfl rfl ?_
       refine w_pure (want_yes rfl rfl rfl) (y_pickT (v := _) rfl rfl rfl rfl) rfl ?_
       refine w_pure want_none (y_pickT (v := .bool _) rfl rfl rfl rfl) rfl ?_
       refine w_nil ?_
       refine q_then (hK53 _ _ ?_)
       refine w_condT rfl rfl ?_
       refine w_region ?_
       refine w_pure want_none (y_move (v := .int _ _) rfl rfl) rfl ?_
       refine w_pure want_none (y_move (v := .slice _ _ _) rfl rfl) rfl ?_
       refine w_pure want_none (y_move (v := .int _ _) rfl rfl) rfl ?_
       refine w_call want_none Try.call55 rfl rfl rfl rfl (c55 _ _ (Ha.ways l 0) vs hslB.top.cons helB.top.cons hwl q (fun h hh => by rw [way_len hh]; omega) hs52) ?_
       rintro _ w58 ⟨rfl, hs59⟩
       refine w_pure want_none (y_assign (v := .int _ _) rfl rfl) rfl ?_
       refine w_pure want_none (y_assign (v := .int _ _) rfl rfl) rfl ?_
       refine w_nil ?_
       refine q_blk_normal ?_
       refine q_then (hK41 _ _ ?_)
       refine w_region ?_
       refine w_pure want_none (y_move (v := .int _ _) rfl rfl) rfl ?_
       refine w_pure want_none (y_add rfl rfl rfl rfl (by omega) (by omega)) rfl ?_
       refine w_pure want_none (y_assign (v := .int _ _) rfl rfl) rfl ?_
       refine w_nil ?_
       refine q_then (hN33 _ _ (Nx.intro (l.bunches.length - (q + 1)) (by omega) (by repeat (first | exact agree_mix | refine agree_upd rfl ?_ | refine agree_updL rfl ?_ _ | refine agree_mixin rfl ?_)) ?_))
       first
         | (have hn := nextR_yes (ws := (Ha.ways l 0)) (k := q) (by omega) (by omega)
            exact ⟨q + 1, iv3Q (by rw [hn]) (by rw [hn]) rfl, by omega, rfl, hs59.tail⟩)
         | (have hn := nextR_no (ws := (Ha.ways l 0)) (k := q) (by omega)
            exact ⟨q + 1, iv3Q (by rw [hn]) (by rw [hn]) rfl, by omega, rfl, hs59.tail⟩)
      ·
       try simp only [Bool.not_eq_true', Bool.not_eq_false', decide_eq_true_eq, decide_eq_false_iff_not, Int.not_lt, Int.not_le] at h56
       refine w_pure (want_yes rfl rfl rfl) (y_move (v := .slice _ _ _) rfl rfl) rfl ?_
       refine w_pure (want_yes rfl rfl rfl) (y_move (v := .int _ _) rfl rfl) rfl ?_
       refine w_call (want_yes rfl rfl rfl) Try.call55 rfl rfl rfl rfl (c55 _ _ (Ha.ways l 0) vs hslB.top.cons helB.top.cons hwl q (fun h hh => by rw [way_len hh]; omega) hs52) ?_
       rintro _ w61 ⟨rfl, hs62⟩
       refine w_pure (want_yes rfl rfl rfl) (y_move (v := .int _ _) rfl rfl) rfl ?_
       refine w_pure (want_yes rfl rfl rfl) (y_lss rfl rfl rfl rfl) rfl ?_
       refine w_pure (want_yes rfl rfl rfl) (y_pickF (v := .bool _) rfl rfl rfl rfl) rfl ?_
       refine w_pure want_none (y_pickT (v := .bool _) rfl rfl rfl rfl) rfl ?_
       refine w_nil ?_
       refine q_then (hK53 _ _ ?_)
       refine w_cond rfl rfl (fun h63 => ?_) (fun h63 => ?_)
       ·
        try simp only [Bool.not_eq_true', Bool.not_eq_false', decide_eq_true_eq, decide_eq_false_iff_not, Int.not_lt, Int.not_le] at h63
        refine w_region ?_
        refine w_pure want_none (y_move (v := .int _ _) rfl rfl) rfl ?_
        refine w_pure want_none (y_move (v := .slice _ _ _) rfl rfl) rfl ?_
        refine w_pure want_none (y_move (v := .int _ _) rfl rfl) rfl ?_
        refine w_call want_none Try.call55 rfl rfl rfl rfl (c55 _ _ (Ha.ways l 0) vs hslB.top.cons helB.top.cons hwl q (fun h hh => by rw [way_len hh]; omega) hs62) ?_
        rintro _ w65 ⟨rfl, hs66⟩
        refine w_pure want_none (y_assign (v := .int _ _) rfl rfl) rfl ?_
        refine w_pure want_none (y_assign (v := .int _ _) rfl rfl) rfl ?_
        refine w_nil ?_
        refine q_blk_normal ?_
        refine q_then (hK41 _ _ ?_)
        refine w_region ?_
        refine w_pure want_none (y_move (v := .int _ _) rfl rfl) rfl ?_
        refine w_pure want_none (y_add rfl rfl rfl rfl (by omega) (by omega)) rfl ?_
        refine w_pure want_none (y_assign (v := .int _ _) rfl rfl) rfl ?_
        refine w_nil ?_
        refine q_then (hN33 _ _ (Nx.intro (l.bunches.length - (q + 1)) (by omega) (by repeat (first | exact agree_mix | refine agree_upd rfl ?_ | refine agree_updL rfl ?_ _ | refine agree_mixin rfl ?_)) ?_))
        first
          | (have hn := nextR_yes (ws := (Ha.ways l 0)) (k := q) (by omega) (by omega)
             exact ⟨q + 1, iv3Q (by rw [hn]) (by rw [hn]) rfl, by omega, rfl, hs66.tail⟩)
          | (have hn := nextR_no (ws := (Ha.ways l 0)) (k := q) (by omega)
             exact ⟨q + 1, iv3Q (by rw [hn]) (by rw [hn]) rfl, by omega, rfl, hs66.tail⟩)
       ·
        try simp only [Bool.not_eq_true', Bool.not_eq_false', decide_eq_true_eq, decide_eq_false_iff_not, Int.not_lt, Int.not_le] at h63
        refine w_skip ?_
        refine q_blk_normal ?_
        refine q_then (hK41 _ _ ?_)
        refine w_region ?_
        refine w_pure want_none (y_move (v := .int _ _) rfl rfl) rfl ?_
        refine w_pure want_none (y_add rfl rfl rfl rfl (by omega) (by omega)) rfl ?_
        refine w_pure want_none (y_assign (v := .int _ _) rfl rfl) rfl ?_
        refine w_nil ?_
        refine q_then (hN33 _ _ (Nx.intro (l.bunches.length - (q + 1)) (by omega) (by repeat (first | exact agree_mix | refine agree_upd rfl ?_ | refine agree_updL rfl ?_ _ | refine agree_mixin rfl ?_)) ?_))
        first
          | (have hn := nextR_yes (ws := (Ha.ways l 0)) (k := q) (by omega) (by omega)
             exact ⟨q + 1, iv3Q (by rw [hn]) (by rw [hn]) rfl, by omega, rfl, hs62.tail⟩)
          | (have hn := nextR_no (ws := (Ha.ways l 0)) (k := q) (by omega)
             exact ⟨q + 1, iv3Q (by rw [hn]) (by rw [hn]) rfl, by omega, rfl, hs62.tail⟩)
     ·
      try simp only [Bool.not_eq_true', Bool.not_eq_false', decide_eq_true_eq, decide_eq_false_iff_not, Int.not_lt, Int.not_le] at h55
      refine w_skipop rfl rfl rfl ?_
      refine w_skipop rfl rfl rfl ?_
      refine w_skipop rfl rfl rfl ?_
      refine w_skipop' rfl rfl rfl ?_
      refine w_skipop' rfl rfl rfl ?_
      refine w_skipop' rfl rfl rfl ?_
      refine w_skipop' rfl rfl rfl ?_
      refine w_skipop' rfl rfl rfl ?_
      refine w_skipop rfl rfl rfl ?_
      refine w_pure want_none (y_pickF (v := _) rfl rfl rfl rfl) rfl ?_
      refine w_nil ?_
      refine q_then (hK53 _ _ ?_)
      refine w_condF rfl rfl ?_
      refine w_skip ?_
      refine q_blk_normal ?_
      refine q_then (hK41 _ _ ?_)
      refine w_region ?_
      refine w_pure want_none (y_move (v := .int _ _) rfl rfl) rfl ?_
      refine w_pure want_none (y_add rfl rfl rfl rfl (by omega) (by omega)) rfl ?_
      refine w_pure want_none (y_assign (v := .int _ _) rfl rfl) rfl ?_
      refine w_nil ?_
      refine q_then (hN33 _ _ (Nx.intro (l.bunches.length - (q + 1)) (by omega) (by repeat (first | exact agree_mix | refine agree_upd rfl ?_ | refine agree_updL rfl ?_ _ | refine agree_mixin rfl ?_)) ?_))
      first
        | (have hn := nextR_yes (ws := (Ha.ways l 0)) (k := q) (by omega) (by omega)
           exact ⟨q + 1, iv3Q (by rw [hn]) (by rw [hn]) rfl, by omega, rfl, hs52.tail⟩)
        | (have hn := nextR_no (ws := (Ha.ways l 0)) (k := q) (by omega)
           exact ⟨q + 1, iv3Q (by rw [hn]) (by rw [hn]) rfl, by omega, rfl, hs52.tail⟩)
    ·
     try simp only [Bool.not_eq_true', Bool.not_eq_false', decide_eq_true_eq, decide_eq_false_iff_not, Int.not_lt, Int.not_le] at h40
     refine w_exit ?_
     refine q_then_exit ?_
     refine q_then_exit ?_
     refine q_blk_this ?_
     refine q_then (hK29 _ _ ?_)
     refine w_seq (fun K68 hK67 => ?_)
     refine w_seq (fun K70 hK69 => ?_)
     refine w_region ?_
     refine w_pure want_none (y_move (v := .int _ _) rfl rfl) rfl ?_
     refine w_pure want_none (y_lss rfl rfl rfl rfl) rfl ?_
     refine w_nil ?_
     refine q_then (hK69 _ _ ?_)
     refine w_cond rfl rfl (fun h71 => ?_) (fun h71 => ?_)
     ·
      try simp only [Bool.not_eq_true', Bool.not_eq_false', decide_eq_true_eq, decide_eq_false_iff_not, Int.not_lt, Int.not_le] at h71
      refine w_seq (fun K73 hK72 => ?_)
      refine w_region ?_
      refine w_pure want_none (y_assign (v := _) rfl rfl) rfl ?_
      refine w_pure want_none (y_assign (v := _) rfl rfl) rfl ?_
      refine w_pure want_none (y_assign (v := _) rfl rfl) rfl ?_
      refine w_nil ?_
      refine q_then (hK72 _ _ ?_)
      refine w_ret ?_
      refine q_then_ret ?_
      refine q_ret (l := [.tmp 2, .tmp 3, .tmp 4]) (vs := [_, _, _]) rfl ⟨⟨rfl, show _ = (.int _ _ : Value) from rfl⟩, ⟨rfl, show _ = (.int _ _ : Value) from rfl⟩, ⟨rfl, show _ = (.int _ _ : Value) from rfl⟩, trivial⟩ ?_
      have hqn : q = l.bunches.length := by omega
      subst hqn
      first
        | exact ⟨by rw [← next_same]; unfold nextR; rw [if_neg (by rw [← kE_chk, hee]; simp), if_pos (by assumption)]; rfl, hs.drop.tail⟩
        | exact ⟨by rw [← next_same]; unfold nextR; rw [if_neg (by rw [← kE_chk, hee]; simp), if_neg (by omega)]; rfl, hs.drop.tail⟩
     ·
      try simp only [Bool.not_eq_true', Bool.not_eq_false', decide_eq_true_eq, decide_eq_false_iff_not, Int.not_lt, Int.not_le] at h71
      refine w_skip ?_
      refine q_then (hK67 _ _ ?_)
      refine w_seq (fun K75 hK74 => ?_)
      refine w_region ?_
      refine w_pure want_none (y_move (v := .int _ _) rfl rfl) rfl ?_
      refine w_pure want_none (y_move (v := .int _ _) rfl rfl) rfl ?_
      refine w_pure want_none (y_assign (v := .int _ _) rfl rfl) rfl ?_
      refine w_pure want_none (y_assign (v := .int _ _) rfl rfl) rfl ?_
      refine w_pure want_none (y_assign (v := _) rfl rfl) rfl ?_
      refine w_nil ?_
      refine q_then (hK74 _ _ ?_)
      refine w_ret ?_
      refine q_ret (l := [.tmp 2, .tmp 3, .tmp 4]) (vs := [_, _, _]) rfl ⟨⟨rfl, show _ = (.int _ _ : Value) from rfl⟩, ⟨rfl, show _ = (.int _ _ : Value) from rfl⟩, ⟨rfl, show _ = (.int _ _ : Value) from rfl⟩, trivial⟩ ?_
      have hqn : q = l.bunches.length := by omega
      subst hqn
      first
        | exact ⟨by rw [← next_same]; unfold nextR; rw [if_neg (by rw [← kE_chk, hee]; simp), if_pos (by assumption)]; rfl, hs.drop.tail⟩
        | exact ⟨by rw [← next_same]; unfold nextR; rw [if_neg (by rw [← kE_chk, hee]; simp), if_neg (by omega)]; rfl, hs.drop.tail⟩

theorem isEmpty_pos {ws : List (List Int)} (h : 0 < ws.length) : (!ws.isEmpty) = true := by cases ws with | nil => simp at h | cons _ _ => rfl
theorem getD_zero {ws : List (List Int)} (h : 0 < ws.length) : ws.getD 0 [] = ws[0] := by simp [List.getD, h]
theorem c35 {w0 w : World} {F : List (Nat × Obj)} (l : Lot) (p : At3) (hm : LIn w0 F l p)  (hs : St w0 w F) :
  Con Try.prog 35 [.agg (l.cells p).toArray] w fun v w' => ∃ B a c, v = .tuple #[.slice a (wrongP l).1.length c, .int .i64 (wrongP l).2] ∧ Sl w0 B a 1 ((wrongP l).1.map fun x => [Value.int .i64 x]) ∧ St w0 w' (B ++ F) := by
  refine con_of_wc (n := 58) Try.func35 rfl rfl (Nat.le_of_ble_eq_true rfl) ?_
  refine w_seq (fun K2 hK1 => ?_)
  refine w_region ?_
  refine w_box (v := .agg #[.slice _ _ _, .slice _ _ _, .slice _ _ _]) (cs := [_, _, _]) want_none rfl rfl rfl hs (fun b3 w4 hs5 => ?_)
  refine w_pure want_none (y_assign (v := _) rfl rfl) rfl ?_
  refine w_pure want_none (y_assign (v := _) rfl rfl) rfl ?_
  refine w_nil ?_
  refine q_then (hK1 _ _ ?_)
  refine w_seq (fun K7 hK6 => ?_)
  have hbx := ats_ofR (i := 0) (vs := l.cells p) hs5 rfl rfl
  refine w_region ?_
  refine w_pure want_none (y_loadN (vs := [_, _, _]) Try.isAgg26 Try.sizeOf26 hs5 rfl rfl hbx) rfl ?_
  refine w_call want_none Try.call17 rfl rfl rfl rfl (c17 l p hm.cons hs5) ?_
  rintro _ w9 ⟨rfl, hs10⟩
  refine w_pure want_none (y_move (v := .tuple _) rfl rfl) rfl ?_
  refine w_pure want_none (y_extract (v := .int _ _) rfl rfl rfl) rfl ?_
  refine w_pure want_none (y_extract (v := .int _ _) rfl rfl rfl) rfl ?_
  refine w_pure want_none (y_extract (v := .int _ _) rfl rfl rfl) rfl ?_
  refine w_pure want_none (y_assign (v := .int _ _) rfl rfl) rfl ?_
  refine w_pure want_none (y_assign (v := .int _ _) rfl rfl) rfl ?_
  refine w_pure want_none (y_assign (v := .int _ _) rfl rfl) rfl ?_
  refine w_nil ?_
  refine q_then (hK6 _ _ ?_)
  refine w_seq (fun K12 hK11 => ?_)
  refine w_seq (fun K14 hK13 => ?_)
  refine w_region ?_
  refine w_pure want_none (y_move (v := .int _ _) rfl rfl) rfl ?_
  refine w_pure want_none (y_neq rfl rfl rfl rfl) rfl ?_
  refine w_nil ?_
  refine q_then (hK13 _ _ ?_)
  refine w_cond rfl rfl (fun h15 => ?_) (fun h15 => ?_)
  ·
   try simp only [Bool.not_eq_true', Bool.not_eq_false', decide_eq_true_eq, decide_eq_false_iff_not, Int.not_lt, Int.not_le] at h15
   refine w_seq (fun K17 hK16 => ?_)
   refine w_region ?_
   refine w_pure want_none (y_move (v := .int _ _) rfl rfl) rfl ?_
   refine w_pure want_none (y_assign (v := _) rfl rfl) rfl ?_
   refine w_pure want_none (y_assign (v := .int _ _) rfl rfl) rfl ?_
   refine w_nil ?_
   refine q_then (hK16 _ _ ?_)
   refine w_ret ?_
   refine q_then_ret ?_
   refine q_ret (l := [.tmp 2, .tmp 3]) (vs := [_, _]) rfl ⟨⟨rfl, show _ = (.slice _ _ _ : Value) from rfl⟩, ⟨rfl, show _ = (.int _ _ : Value) from rfl⟩, trivial⟩ ?_
   first
     | (have hq : wrongP l = ([], (check l).2.2) := by unfold wrongP; rw [if_pos (by assumption)]
        exact ⟨[], none, 0, by rw [hq]; rfl, by rw [hq]; exact Sl.nil _ _, hs10.tail⟩)
     | (have hq := wrongP_some (by assumption) (cfind_here hk2 hf1 hf2 hq2 (isEmpty_pos (by omega)))
        exact ⟨CB, b2, c2, by rw [hq]; rfl, by rw [hq]; exact hsx0, (kq_own hs10.drop)⟩)
     | (have hkn : k = l.counts.length := by omega
        subst hkn
        have hq := wrongP_none (by assumption) hf1
        rw [getD_zero (by rw [hch1]; simp)] at hq
        exact ⟨DB, b2, c2, by rw [hq]; rfl, by rw [hq]; exact hsx0, hs10⟩)
  ·
   try simp only [Bool.not_eq_true', Bool.not_eq_false', decide_eq_true_eq, decide_eq_false_iff_not, Int.not_lt, Int.not_le] at h15
   refine w_skip ?_
   refine q_then (hK11 _ _ ?_)
   refine w_seq (fun K19 hK18 => ?_)
   refine w_seq (fun K21 hK20 => ?_)
   have hok := check_ok (by assumption)
   have hlc := hok.lc
   refine w_region ?_
   refine w_pure want_none (y_assign (v := _) rfl rfl) rfl ?_
   refine w_nil ?_
   refine q_then (hK20 _ _ ?_)
   refine w_block ?_
   refine w_loop [2, 3, 7, 8, 9, 19, 20, 21, 22, 23, 24, 25, 26, 27, 28, 29, 30, 31, 32, 33, 34, 35, 36, 37, 38, 39, 40, 41, 42, 43, 44, 45, 46, 47, 48] [7] (fun kk vs0 w => ∃ (k : Nat), vs0 = [.int .i64 k] ∧ k ≤ l.counts.length ∧ kk = l.counts.length - k ∧ (choicesTo l.counts.length k).find? (fun x => !(waysR l x).isEmpty) = none ∧ St w0 w ((b3, blk 26 (l.cells p)) :: F)) (l.counts.length) ?_ ?_
   ·
    exact ⟨0, rfl, by omega, by omega, rfl, hs10⟩
   ·
    intro k vs μ w24 hI K23 hN22
    obtain ⟨k, rfl, hka, rfl, hf1, hs⟩ := hI
    refine w_seq (fun K26 hK25 => ?_)
    refine w_seq (fun K28 hK27 => ?_)
    refine w_region ?_
    refine w_pure want_none (y_move (v := .int _ _) rfl rfl) rfl ?_
    refine w_pure want_none (y_fieldAddr (o := 2) (i := 2) Try.underlying26 rfl Try.sizeOf24 rfl rfl rfl) rfl ?_
    refine w_pure want_none (y_load1 Try.isAgg24 hs rfl rfl (show Ats _ _ _ _ [_] from Ats.part hbx 2 1)) rfl ?_
    refine w_pure want_none (y_lenS Try.underlying24 rfl rfl) rfl ?_
    refine w_pure want_none (y_lss rfl rfl rfl rfl) rfl ?_
    refine w_nil ?_
    refine q_then (hK27 _ _ ?_)
    refine w_cond rfl rfl (fun h29 => ?_) (fun h29 => ?_)
    ·
     try simp only [Bool.not_eq_true', Bool.not_eq_false', decide_eq_true_eq, decide_eq_false_iff_not, Int.not_lt, Int.not_le] at h29
     refine w_skip ?_
     refine q_then (hK25 _ _ ?_)
     refine w_seq (fun K31 hK30 => ?_)
     refine w_block ?_
     refine w_seq (fun K33 hK32 => ?_)
     have hk2 : k < l.counts.length := by omega
     have hcm := choices_max (below := l.counts.length) (i := k) (by omega) (by omega)
     have hcl := choices_len (below := l.counts.length) k
     refine w_region ?_
     refine w_pure want_none (y_fieldAddr (o := 2) (i := 2) Try.underlying26 rfl Try.sizeOf24 rfl rfl rfl) rfl ?_
     refine w_pure want_none (y_load1 Try.isAgg24 hs rfl rfl (show Ats _ _ _ _ [_] from Ats.part hbx 2 1)) rfl ?_
     refine w_pure want_none (y_lenS Try.underlying24 rfl rfl) rfl ?_
     refine w_pure want_none (y_move (v := .int _ _) rfl rfl) rfl ?_
     refine w_call want_none Try.call87 rfl rfl rfl rfl (c87 l.counts.length k (by omega) (by omega) hs) ?_
     rintro _ w35 ⟨CB, vc, ac, cc, rfl, hslC, helC, hs36⟩
     replace hs36 := (show St _ _ (CB ++ (_ :: F)) from hs36)
     refine w_pure want_none (y_assign (v := .slice _ _ _) rfl rfl) rfl ?_
     refine w_nil ?_
     refine q_then (hK32 _ _ ?_)
     refine w_seq (fun K38 hK37 => ?_)
     refine w_region ?_
     refine w_pure want_none (y_assign (v := _) rfl rfl) rfl ?_
     refine w_nil ?_
     refine q_then (hK37 _ _ ?_)
     refine w_block ?_
     refine w_loop [2, 3, 9, 31, 32, 33, 34, 35, 36, 37, 38, 39, 40, 41, 42, 43, 44, 45, 46, 47, 48] [9] (fun kk vs0 w => ∃ (q : Nat), vs0 = [.int .i64 q] ∧ q ≤ (choices l.counts.length k).length ∧ kk = (choices l.counts.length k).length - q ∧ ((choices l.counts.length k).take q).find? (fun x => !(waysR l x).isEmpty) = none ∧ St w0 w (CB ++ ((b3, blk 26 (l.cells p)) :: F))) ((choices l.counts.length k).length) ?_ ?_
     ·
      exact ⟨0, rfl, by omega, by omega, rfl, hs36⟩
     ·
      intro k vs μ w41 hI K40 hN39
      obtain ⟨q, rfl, hqa, rfl, hf2, hs⟩ := hI
      refine w_seq (fun K43 hK42 => ?_)
      refine w_seq (fun K45 hK44 => ?_)
      refine w_region ?_
      refine w_pure want_none (y_move (v := .int _ _) rfl rfl) rfl ?_
      refine w_pure want_none (y_move (v := .slice _ _ _) rfl rfl) rfl ?_
      refine w_pure want_none (y_lenS Try.underlying64 rfl rfl) rfl ?_
      refine w_pure want_none (y_lss rfl rfl rfl rfl) rfl ?_
      refine w_nil ?_
      refine q_then (hK44 _ _ ?_)
      refine w_cond rfl rfl (fun h46 => ?_) (fun h46 => ?_)
      ·
       try simp only [Bool.not_eq_true', Bool.not_eq_false', decide_eq_true_eq, decide_eq_false_iff_not, Int.not_lt, Int.not_le] at h46
       refine w_skip ?_
       refine q_then (hK42 _ _ ?_)
       refine w_seq (fun K48 hK47 => ?_)
       refine w_block ?_
       refine w_seq (fun K50 hK49 => ?_)
       have hq2 : q < (choices l.counts.length k).length := by omega
       obtain ⟨bx, ox, b2, c2, hac, hx0, hsx0, hnx⟩ := el_at hslC helC hq2
       subst hac
       have hx := hx0.top (F := (b3, blk 26 (l.cells p)) :: F)
       have hxl := (hcl _ (List.getElem_mem hq2)).1
       refine w_draw [] [(0, 1), (1, 0), (2, 0), (3, 0), (4, 1), (5, 2), (6, 0), (7, 0)] Try_mo (drawOK_of (by kernel_rfl)) hs (fun w51 hs52 => ?_)
       refine d_take rfl want_none rfl hs52 (fun _ hq => (y_loadN (vs := [_, _, _]) Try.isAgg26 Try.sizeOf26 hq.drop rfl rfl hbx)) ?_
       refine d_any rfl want_none rfl (fun _ => (y_move (v := .slice _ _ _) rfl rfl)) ?_
       refine d_any rfl want_none rfl (fun _ => (y_move (v := .int _ _) rfl rfl)) ?_
       refine d_any rfl want_none rfl (fun _ => (y_indexS Try.underlying64 Try.sizeOf37 rfl rfl rfl rfl (i := _) rfl (by omega))) ?_
       refine d_take rfl want_none rfl hs52 (fun _ hq => (y_load1 Try.isAgg37 hq rfl rfl hx)) ?_
       refine d_eff rfl ?_
       refine w_call want_none Try.call45 rfl rfl rfl rfl (c45 l p hm.cons.app hok _ _ ((choices l.counts.length k)[q]'hq2) (by omega) hsx0.top hs52) ?_
       rintro _ w54 ⟨WB, vw, aw, cw, rfl, hslW, helW, hs55⟩
       replace hs55 := (show St _ _ (WB ++ (CB ++ (_ :: F))) from hs55)
       refine w_nil ?_
       refine qn ⟨hs55.drop, ?_⟩
       refine d_any rfl want_none rfl (fun _ => (y_lenS Try.underlying64 rfl rfl)) ?_
       refine d_any rfl want_none rfl (fun _ => (y_gtr rfl rfl rfl rfl)) ?_
       refine d_nil ?_
       refine q_then (hK49 _ _ ?_)
       refine w_cond rfl rfl (fun h56 => ?_) (fun h56 => ?_)
       ·
        try simp only [Bool.not_eq_true', Bool.not_eq_false', decide_eq_true_eq, decide_eq_false_iff_not, Int.not_lt, Int.not_le] at h56
        refine w_seq (fun K58 hK57 => ?_)
        refine w_region ?_
        refine w_pure want_none (y_move (v := .slice _ _ _) rfl rfl) rfl ?_
        refine w_pure want_none (y_move (v := .int _ _) rfl rfl) rfl ?_
        refine w_pure want_none (y_indexS Try.underlying64 Try.sizeOf37 rfl rfl rfl rfl (i := _) rfl (by omega)) rfl ?_
        refine w_pure want_none (y_load1 Try.isAgg37 hs55.drop rfl rfl hx) rfl ?_
        refine w_pure want_none (y_assign (v := .slice _ _ _) rfl rfl) rfl ?_
        refine w_pure want_none (y_assign (v := _) rfl rfl) rfl ?_
        refine w_nil ?_
        refine q_then (hK57 _ _ ?_)
        refine w_ret ?_
        refine q_blk_ret ?_
        refine q_then_ret ?_
        refine q_then_ret ?_
        refine q_blk_ret ?_
        refine q_blk_ret ?_
        refine q_then_ret ?_
        refine q_then_ret ?_
        refine q_blk_ret ?_
        refine q_then_ret ?_
        refine q_ret (l := [.tmp 2, .tmp 3]) (vs := [_, _]) rfl ⟨⟨rfl, show _ = (.slice _ _ _ : Value) from rfl⟩, ⟨rfl, show _ = (.int _ _ : Value) from rfl⟩, trivial⟩ ?_
        first
          | (have hq : wrongP l = ([], (check l).2.2) := by unfold wrongP; rw [if_pos (by assumption)]
             exact ⟨[], none, 0, by rw [hq]; rfl, by rw [hq]; exact Sl.nil _ _, hs55.drop.drop.tail⟩)
          | (have hq := wrongP_some (by assumption) (cfind_here hk2 hf1 hf2 hq2 (isEmpty_pos (by omega)))
             exact ⟨CB, b2, c2, by rw [hq]; rfl, by rw [hq]; exact hsx0, (kq_own hs55.drop)⟩)
          | (have hkn : k = l.counts.length := by omega
             subst hkn
             have hq := wrongP_none (by assumption) hf1
             rw [getD_zero (by rw [hch1]; simp)] at hq
             exact ⟨DB, b2, c2, by rw [hq]; rfl, by rw [hq]; exact hsx0, (kq_own (kq_opq hs55))⟩)
       ·
        try simp only [Bool.not_eq_true', Bool.not_eq_false', decide_eq_true_eq, decide_eq_false_iff_not, Int.not_lt, Int.not_le] at h56
        refine w_skip ?_
        refine q_blk_normal ?_
        refine q_then (hK47 _ _ ?_)
        refine w_region ?_
        refine w_pure want_none (y_move (v := .int _ _) rfl rfl) rfl ?_
        refine w_pure want_none (y_add rfl rfl rfl rfl (by omega) (by omega)) rfl ?_
        refine w_pure want_none (y_assign (v := .int _ _) rfl rfl) rfl ?_
        refine w_nil ?_
        refine q_then (hN39 _ _ (Nx.intro ((choices l.counts.length k).length - (q + 1)) (by omega) (by repeat (first | exact agree_mix | refine agree_upd rfl ?_ | refine agree_updL rfl ?_ _ | refine agree_mixin rfl ?_)) ?_))
        exact ⟨q + 1, rfl, by omega, rfl, cfind_next hf2 hq2 (by rw [List.length_eq_zero_iff.1 (show (waysR l ((choices l.counts.length k)[q]'hq2)).length = 0 by omega)]; rfl), hs55.drop⟩
      ·
       try simp only [Bool.not_eq_true', Bool.not_eq_false', decide_eq_true_eq, decide_eq_false_iff_not, Int.not_lt, Int.not_le] at h46
       refine w_exit ?_
       refine q_then_exit ?_
       refine q_then_exit ?_
       refine q_blk_this ?_
       refine q_blk_normal ?_
       refine q_then (hK30 _ _ ?_)
       refine w_region ?_
       refine w_pure want_none (y_move (v := .int _ _) rfl rfl) rfl ?_
       refine w_pure want_none (y_add rfl rfl rfl rfl (by omega) (by omega)) rfl ?_
       refine w_pure want_none (y_assign (v := .int _ _) rfl rfl) rfl ?_
       refine w_nil ?_
       refine q_then (hN22 _ _ (Nx.intro (l.counts.length - (k + 1)) (by omega) (by repeat (first | exact agree_mix | refine agree_upd rfl ?_ | refine agree_updL rfl ?_ _ | refine agree_mixin rfl ?_)) ?_))
       exact ⟨k + 1, rfl, by omega, rfl, cfind_on hf1 hf2 (by omega), hs.drop⟩
    ·
     try simp only [Bool.not_eq_true', Bool.not_eq_false', decide_eq_true_eq, decide_eq_false_iff_not, Int.not_lt, Int.not_le] at h29
     refine w_exit ?_
     refine q_then_exit ?_
     refine q_then_exit ?_
     refine q_blk_this ?_
     refine q_then (hK18 _ _ ?_)
     refine w_seq (fun K60 hK59 => ?_)
     refine w_region ?_
     refine w_pure want_none (y_fieldAddr (o := 2) (i := 2) Try.underlying26 rfl Try.sizeOf24 rfl rfl rfl) rfl ?_
     refine w_pure want_none (y_load1 Try.isAgg24 hs rfl rfl (show Ats _ _ _ _ [_] from Ats.part hbx 2 1)) rfl ?_
     refine w_pure want_none (y_lenS Try.underlying24 rfl rfl) rfl ?_
     refine w_pure want_none (y_fieldAddr (o := 2) (i := 2) Try.underlying26 rfl Try.sizeOf24 rfl rfl rfl) rfl ?_
     refine w_pure want_none (y_load1 Try.isAgg24 hs rfl rfl (show Ats _ _ _ _ [_] from Ats.part hbx 2 1)) rfl ?_
     refine w_pure want_none (y_lenS Try.underlying24 rfl rfl) rfl ?_
     refine w_call want_none Try.call87 rfl rfl rfl rfl (c87 l.counts.length l.counts.length (by omega) (by omega) hs) ?_
     rintro _ w62 ⟨DB, vd, ad, cd, rfl, hslD, helD, hs63⟩
     replace hs63 := (show St _ _ (DB ++ (_ :: F)) from hs63)
     have hch1 := (choices_fin l.counts.length (by omega)).2.1
     obtain ⟨bx, ox, b2, c2, hac, hx0, hsx0, hnx⟩ := el_at hslD helD (k := 0) (by rw [hch1]; simp)
     subst hac
     have hx := hx0.top (F := (b3, blk 26 (l.cells p)) :: F)
     refine w_pure want_none (y_indexS Try.underlying64 Try.sizeOf37 rfl rfl rfl rfl (i := 0) rfl (by rw [hch1]; simp)) rfl ?_
     refine w_pure want_none (y_load1 Try.isAgg37 hs63 rfl rfl hx) rfl ?_
     refine w_pure want_none (y_assign (v := .slice _ _ _) rfl rfl) rfl ?_
     refine w_pure want_none (y_assign (v := _) rfl rfl) rfl ?_
     refine w_nil ?_
     refine q_then (hK59 _ _ ?_)
     refine w_ret ?_
     refine q_ret (l := [.tmp 2, .tmp 3]) (vs := [_, _]) rfl ⟨⟨rfl, show _ = (.slice _ _ _ : Value) from rfl⟩, ⟨rfl, show _ = (.int _ _ : Value) from rfl⟩, trivial⟩ ?_
     first
       | (have hq : wrongP l = ([], (check l).2.2) := by unfold wrongP; rw [if_pos (by assumption)]
          exact ⟨[], none, 0, by rw [hq]; rfl, by rw [hq]; exact Sl.nil _ _, hs63.drop.tail⟩)
       | (have hq := wrongP_some (by assumption) (cfind_here hk2 hf1 hf2 hq2 (isEmpty_pos (by omega)))
          exact ⟨CB, b2, c2, by rw [hq]; rfl, by rw [hq]; exact hsx0, (kq_own hs63.drop)⟩)
       | (have hkn : k = l.counts.length := by omega
          subst hkn
          have hq := wrongP_none (by assumption) hf1
          rw [getD_zero (by rw [hch1]; simp)] at hq
          exact ⟨DB, b2, c2, by rw [hq]; rfl, by rw [hq]; exact hsx0, (kq_own hs63)⟩)

end Go.Proofs
/- Walks of this seat, printed by gen.py over the engine: what each function returns, in whatever world. No conditions but those of each contract. -/
set_option linter.unusedVariables false
set_option linter.unusedSimpArgs false
set_option maxRecDepth 20000
namespace Go.Proofs
open Go.Rt Go.Rt.Ha
attribute [local irreducible] WL WC Con Yd At Ats Sl Agree DW

theorem wrong_short (l : Lot) : (wrongP l).1.length ≤ 4 := by
  unfold wrongP
  split
  · simp
  · rename_i h
    have hok := check_ok (Decidable.not_not.1 h)
    have h1 := hok.lc
    have := few_len (fun b => !(Ha.ways l b).isEmpty) l.counts.length (1 <<< l.counts.length)
    unfold fewest; dsimp only; omega
theorem c7 {w0 w : World} {F : List (Nat × Obj)} (l : Lot) (p : At3) (hm : LIn w0 F l p)  (hs : St w0 w F) :
  Con Try.prog 7 [.agg (l.cells p).toArray] w fun v w' => v = .bool true ∧ St w0 w' F := by
  refine con_of_wc (n := 57) Try.func7 rfl rfl (Nat.le_of_ble_eq_true rfl) ?_
  refine w_seq (fun K2 hK1 => ?_)
  refine w_region ?_
  refine w_box (v := .agg #[.slice _ _ _, .slice _ _ _, .slice _ _ _]) (cs := [_, _, _]) want_none rfl rfl rfl hs (fun b3 w4 hs5 => ?_)
  refine w_pure want_none (y_assign (v := _) rfl rfl) rfl ?_
  refine w_nil ?_
  refine q_then (hK1 _ _ ?_)
  refine w_seq (fun K7 hK6 => ?_)
  have hbx := ats_of (i := 0) (vs := l.cells p) hs5 rfl rfl
  refine w_region ?_
  refine w_pure want_none (y_loadN (vs := [_, _, _]) Try.isAgg26 Try.sizeOf26 hs5 rfl rfl hbx) rfl ?_
  refine w_call want_none Try.call32 rfl rfl rfl rfl (c32 l _ hm.cons hs5) ?_
  rintro _ w9 ⟨rfl, hs10⟩
  refine w_pure want_none (y_move (v := .tuple _) rfl rfl) rfl ?_
  refine w_pure want_none (y_extract (v := .int _ _) rfl rfl rfl) rfl ?_
  refine w_pure want_none (y_extract (v := .int _ _) rfl rfl rfl) rfl ?_
  refine w_pure want_none (y_extract (v := .int _ _) rfl rfl rfl) rfl ?_
  refine w_pure want_none (y_assign (v := .int _ _) rfl rfl) rfl ?_
  refine w_pure want_none (y_assign (v := .int _ _) rfl rfl) rfl ?_
  refine w_pure want_none (y_assign (v := .int _ _) rfl rfl) rfl ?_
  refine w_nil ?_
  refine q_then (hK6 _ _ ?_)
  refine w_seq (fun K12 hK11 => ?_)
  refine w_region ?_
  refine w_pure want_none (y_loadN (vs := [_, _, _]) Try.isAgg26 Try.sizeOf26 hs10 rfl rfl hbx) rfl ?_
  refine w_call want_none Try.call33 rfl rfl rfl rfl (c33 l _ hm.cons hs10) ?_
  rintro _ w14 ⟨rfl, hs15⟩
  refine w_pure want_none (y_move (v := .tuple _) rfl rfl) rfl ?_
  refine w_pure want_none (y_extract (v := .int _ _) rfl rfl rfl) rfl ?_
  refine w_pure want_none (y_extract (v := .int _ _) rfl rfl rfl) rfl ?_
  refine w_pure want_none (y_extract (v := .int _ _) rfl rfl rfl) rfl ?_
  refine w_pure want_none (y_assign (v := .int _ _) rfl rfl) rfl ?_
  refine w_pure want_none (y_assign (v := .int _ _) rfl rfl) rfl ?_
  refine w_pure want_none (y_assign (v := .int _ _) rfl rfl) rfl ?_
  refine w_nil ?_
  refine q_then (hK11 _ _ ?_)
  refine w_seq (fun K17 hK16 => ?_)
  refine w_seq (fun K19 hK18 => ?_)
  refine w_region ?_
  refine w_pure want_none (y_move (v := .int _ _) rfl rfl) rfl ?_
  refine w_pure want_none (y_move (v := .int _ _) rfl rfl) rfl ?_
  refine w_pure want_none (y_neq rfl rfl rfl rfl) rfl ?_
  refine w_pure want_none (y_move (v := .bool _) rfl rfl) rfl ?_
  refine w_split (fun h20 => ?_) (fun h20 => ?_)
  ·
   exfalso; simp at h20
  ·
   try simp only [Bool.not_eq_true', Bool.not_eq_false', decide_eq_true_eq, decide_eq_false_iff_not, Int.not_lt, Int.not_le] at h20
   refine w_pure (want_yes rfl rfl rfl) (y_move (v := .int _ _) rfl rfl) rfl ?_
   refine w_pure (want_yes rfl rfl rfl) (y_move (v := .int _ _) rfl rfl) rfl ?_
   refine w_pure (want_yes rfl rfl rfl) (y_neq rfl rfl rfl rfl) rfl ?_
   refine w_pure want_none (y_pickF (v := .bool _) rfl rfl rfl rfl) rfl ?_
   refine w_pure want_none (y_move (v := .bool _) rfl rfl) rfl ?_
   refine w_split (fun h21 => ?_) (fun h21 => ?_)
   ·
    exfalso; simp at h21
   ·
    try simp only [Bool.not_eq_true', Bool.not_eq_false', decide_eq_true_eq, decide_eq_false_iff_not, Int.not_lt, Int.not_le] at h21
    refine w_pure (want_yes rfl rfl rfl) (y_move (v := .int _ _) rfl rfl) rfl ?_
    refine w_pure (want_yes rfl rfl rfl) (y_move (v := .int _ _) rfl rfl) rfl ?_
    refine w_pure (want_yes rfl rfl rfl) (y_neq rfl rfl rfl rfl) rfl ?_
    refine w_pure want_none (y_pickF (v := .bool _) rfl rfl rfl rfl) rfl ?_
    refine w_nil ?_
    refine q_then (hK18 _ _ ?_)
    refine w_cond rfl rfl (fun h22 => ?_) (fun h22 => ?_)
    ·
     exfalso; simp at h22
    ·
     try simp only [Bool.not_eq_true', Bool.not_eq_false', decide_eq_true_eq, decide_eq_false_iff_not, Int.not_lt, Int.not_le] at h22
     refine w_skip ?_
     refine q_then (hK16 _ _ ?_)
     refine w_seq (fun K24 hK23 => ?_)
     refine w_region ?_
     refine w_pure want_none (y_loadN (vs := [_, _, _]) Try.isAgg26 Try.sizeOf26 hs15 rfl rfl hbx) rfl ?_
     refine w_call want_none Try.call34 rfl rfl rfl rfl (c34 l _ hm.cons hs15) ?_
     rintro _ w26 ⟨B1, a1, c1, rfl, hq1, hs27⟩
     replace hs27 := (show St _ _ (B1 ++ (_ :: F)) from hs27)
     refine w_pure want_none (y_move (v := .tuple _) rfl rfl) rfl ?_
     refine w_pure want_none (y_extract (v := .slice _ _ _) rfl rfl rfl) rfl ?_
     refine w_pure want_none (y_extract (v := .int _ _) rfl rfl rfl) rfl ?_
     refine w_pure want_none (y_assign (v := .slice _ _ _) rfl rfl) rfl ?_
     refine w_pure want_none (y_assign (v := .int _ _) rfl rfl) rfl ?_
     refine w_nil ?_
     refine q_then (hK23 _ _ ?_)
     refine w_seq (fun K29 hK28 => ?_)
     refine w_region ?_
     refine w_pure want_none (y_loadN (vs := [_, _, _]) Try.isAgg26 Try.sizeOf26 hs27.drop rfl rfl hbx) rfl ?_
     refine w_call want_none Try.call35 rfl rfl rfl rfl (c35 l _ hm.cons.app hs27) ?_
     rintro _ w31 ⟨B2, a2, c2, rfl, hq2, hs32⟩
     replace hs32 := (show St _ _ (B2 ++ (B1 ++ (_ :: F))) from hs32)
     refine w_pure want_none (y_move (v := .tuple _) rfl rfl) rfl ?_
     refine w_pure want_none (y_extract (v := .slice _ _ _) rfl rfl rfl) rfl ?_
     refine w_pure want_none (y_extract (v := .int _ _) rfl rfl rfl) rfl ?_
     refine w_pure want_none (y_assign (v := .slice _ _ _) rfl rfl) rfl ?_
     refine w_pure want_none (y_assign (v := .int _ _) rfl rfl) rfl ?_
     refine w_nil ?_
     refine q_then (hK28 _ _ ?_)
     refine w_seq (fun K34 hK33 => ?_)
     refine w_region ?_
     refine w_pure want_none (y_move (v := .slice _ _ _) rfl rfl) rfl ?_
     refine w_pure want_none (y_move (v := .slice _ _ _) rfl rfl) rfl ?_
     refine w_call want_none Try.call25 rfl rfl rfl rfl (c25 _ _ (wrongP l).1 (wrongP l).1 _ _ (by have := wrong_short l; omega) hq1.top.app hq2.top hs32) ?_
     rintro _ w36 ⟨rfl, hs37⟩
     refine w_pure want_none (y_move (v := .bool _) rfl rfl) rfl ?_
     refine w_split (fun h38 => ?_) (fun h38 => ?_)
     ·
      try simp only [Bool.not_eq_true', Bool.not_eq_false', decide_eq_true_eq, decide_eq_false_iff_not, Int.not_lt, Int.not_le] at h38
      refine w_pure (want_yes rfl rfl rfl) (y_move (v := .int _ _) rfl rfl) rfl ?_
      refine w_pure (want_yes rfl rfl rfl) (y_move (v := .int _ _) rfl rfl) rfl ?_
      refine w_pure (want_yes rfl rfl rfl) (y_eql rfl rfl rfl rfl) rfl ?_
      refine w_pure want_none (y_pickT (v := .bool _) rfl rfl rfl rfl) rfl ?_
      refine w_pure want_none (y_move (v := .bool _) rfl rfl) rfl ?_
      refine w_split (fun h39 => ?_) (fun h39 => ?_)
      ·
       try simp only [Bool.not_eq_true', Bool.not_eq_false', decide_eq_true_eq, decide_eq_false_iff_not, Int.not_lt, Int.not_le] at h39
       refine w_call (want_yes rfl rfl rfl) Try.call20 rfl rfl rfl rfl (c20 hs37) ?_
       rintro _ w41 ⟨rfl, hs42⟩
       refine w_pure want_none (y_pickT (v := .bool _) rfl rfl rfl rfl) rfl ?_
       refine w_pure want_none (y_assign (v := .bool _) rfl rfl) rfl ?_
       refine w_nil ?_
       refine q_then (hK33 _ _ ?_)
       refine w_ret ?_
       refine q_ret (l := [.tmp 2]) (vs := [_]) rfl ⟨⟨rfl, show _ = (.bool _ : Value) from rfl⟩, trivial⟩ ?_
       exact ⟨rfl, hs42.drop.drop.tail⟩
      ·
       exfalso; simp at h39
     ·
      exfalso; simp at h38

end Go.Proofs
