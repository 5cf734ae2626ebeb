/- Walks of this seat, printed by gen.py over the engine: what each function returns, in whatever world. No conditions but those of each contract. -/
import Derived.Test.YtofoabifbkhkfaaF
set_option linter.unusedVariables false
set_option linter.unusedSimpArgs false
set_option maxRecDepth 20000
namespace Go.Proofs
open Go.Rt
attribute [local irreducible] WL WC Con Yd At Ats Sl Agree DW
theorem Try_flat83 : flatInts Try.prog 83 3 = true := by kernel_rfl
theorem Try_G_fb4 (x0 : Int) (x1 : Int) (x2 : Int) (w : World) : (Instr.buildSlice 86 1 [(0, .agg #[.int .i64 x0, .int .i64 x1, .int .i64 x2])].toArray).run Try.prog w = .ok (.slice (some ⟨w.heap.size, 0, none⟩) 1 1) (w.alloc (Go.Rt.blk 89 [.int .i64 x0, .int .i64 x1, .int .i64 x2])) := by kernel_rfl
theorem Try_info89 : Try.prog.info? 89 = some Try.t89 := by kernel_rfl
abbrev lrows (l : List Load) : List (List Value) := l.map fun x => iv x.ints
/-- What the memo of a port that is looked at holds: of each key the loads of these cables. -/
def Memo (w0 : World) (p : Port) (m : Nat) (M : List (Nat × Obj)) : Prop := ∃ es ck BL, M = (m, .map es ck) :: BL ∧ ∀ e ∈ es.toList, ∃ l a c, l.length = 3 ∧ e.key = ia l ∧ e.val = .slice a (loads p l).length c ∧ Sl w0 BL a 3 (lrows (loads p l))
theorem memo_new (w0 : World) (p : Port) (m : Nat) : Memo w0 p m [(m, .map #[] 0)] := ⟨#[], 0, [], rfl, fun e he => by simp at he⟩
theorem lcells_succ {p : Port} {l : List Int} {i : Nat} (hi : (i : Int) < p.chi - p.clo + 1) : (lrows ((loads p l).take i)).flatten ++ [iv (on p.farms l (p.clo + i)).ints].flatten = (lrows ((loads p l).take (i + 1))).flatten := by
  rw [loads_take_succ l hi]; simp [lrows]
theorem c54f {w0 w : World} {F : List (Nat × Obj)} (p : Port) (a : Option Addr) (c m pb : Nat) (hp : Ats w0 F pb 0 [.int .i64 p.hold, .int .i64 p.clo, .int .i64 p.chi, .slice a p.farms.length c, .map (some m)]) (ha : Sl w0 F a 6 (rows p.farms)) (hok : p.Ok) (l : List Int) (hlen : l.length = 3) (hl1 : ∀ x ∈ l, -1 ≤ x ∧ x ≤ 10) (es : Array MapEntry) (ck : Nat) (BL : List (Nat × Obj)) (j : Nat) (av : Option Addr) (nv cv : Nat) (hf : ∀ w, (Instr.findKey 83 (ia l) es.toList).run Try.prog w = .ok (some (j, .slice av nv cv)) w) (hs : St w0 w ((m, .map es ck) :: (BL ++ F))) :
  Con Try.prog 54 [.pointer (some ⟨pb, 0, none⟩), ia l] w fun v w' => v = .slice av nv cv ∧ St w0 w' ((m, .map es ck) :: (BL ++ F)) := by
  refine con_of_wc (n := 59) Try.func54 rfl rfl (Nat.le_of_ble_eq_true rfl) ?_
  refine w_seq (fun K2 hK1 => ?_)
  refine w_region ?_
  refine w_boxI (l := _) want_none rfl rfl rfl hs (fun b3 w4 hs5 => ?_)
  refine w_pure want_none (y_assign (v := _) rfl rfl) rfl ?_
  refine w_nil ?_
  refine q_then (hK1 _ _ ?_)
  refine w_seq (fun K7 hK6 => ?_)
  refine w_seq (fun K9 hK8 => ?_)
  refine w_draw [] [(0, 0), (1, 0), (2, 0), (3, 1), (4, 1), (5, 1), (6, 0), (7, 0), (8, 0), (9, 0), (10, 0)] Try_mo (by kernel_rfl) hs5 (fun w10 hs11 => ?_)
  refine d_any rfl want_none rfl (fun _ => (y_move (v := .pointer _) rfl rfl)) ?_
  refine d_any rfl want_none rfl (fun _ => (y_nilCheck rfl rfl)) ?_
  refine d_any rfl want_none rfl (fun _ => (y_fieldAddr (o := 4) (i := 1) Try.underlying119 rfl Try.sizeOf117 rfl rfl rfl)) ?_
  refine d_take rfl want_none rfl hs11 (fun _ hq => (y_load1 Try.isAgg117 hq.tail.tail.drop rfl rfl (show Ats _ _ _ _ [_] from Ats.part hp 4 1))) ?_
  refine d_take rfl want_none rfl hs11 (fun _ hq => (y_loadI (i := 0) Try.isAgg83 Try.sizeOf83 (by first | omega | rfl | (simp only [List.length_map, List.length_set, List.length_append, List.length_take, List.length_drop, List.length_replicate, List.length_cons, List.length_nil] <;> omega)) hq rfl rfl rfl)) ?_
  refine d_take rfl want_none rfl hs11 (fun _ hq => (y_lookupS (i := 1) (l := l) Try.underlying117 Try.underlying83 (by omega) Try.underlying3 Try.sizeOf3 hq rfl rfl rfl rfl rfl rfl hf)) ?_
  refine d_any rfl want_none rfl (fun _ => (y_move (v := .tuple _) rfl rfl)) ?_
  refine d_any rfl want_none rfl (fun _ => (y_extract (v := .slice _ _ _) rfl rfl rfl)) ?_
  refine d_any rfl want_none rfl (fun _ => (y_extract (v := .bool _) rfl rfl rfl)) ?_
  refine d_any rfl want_none rfl (fun _ => (y_assign (v := .slice _ _ _) rfl rfl)) ?_
  refine d_any rfl want_none rfl (fun _ => (y_assign (v := .bool _) rfl rfl)) ?_
  refine d_nil ?_
  refine q_then (hK8 _ _ ?_)
  refine w_seq (fun K13 hK12 => ?_)
  refine w_region ?_
  refine w_pure want_none (y_move (v := .bool _) rfl rfl) rfl ?_
  refine w_nil ?_
  refine q_then (hK12 _ _ ?_)
  refine w_condT rfl rfl ?_
  refine w_seq (fun K15 hK14 => ?_)
  refine w_region ?_
  refine w_pure want_none (y_move (v := .slice _ _ _) rfl rfl) rfl ?_
  refine w_pure want_none (y_assign (v := .slice _ _ _) rfl rfl) rfl ?_
  refine w_nil ?_
  refine q_then (hK14 _ _ ?_)
  refine w_ret ?_
  refine q_then_ret ?_
  refine q_ret (l := [.tmp 4]) (vs := [_]) rfl ⟨⟨rfl, show _ = (.slice _ _ _ : Value) from rfl⟩, trivial⟩ ?_
  exact ⟨rfl, hs11.tail⟩

theorem c54n {w0 w : World} {F : List (Nat × Obj)} (p : Port) (a : Option Addr) (c m pb : Nat) (hp : Ats w0 F pb 0 [.int .i64 p.hold, .int .i64 p.clo, .int .i64 p.chi, .slice a p.farms.length c, .map (some m)]) (ha : Sl w0 F a 6 (rows p.farms)) (hok : p.Ok) (l : List Int) (hlen : l.length = 3) (hl1 : ∀ x ∈ l, -1 ≤ x ∧ x ≤ 10) (es : Array MapEntry) (ck : Nat) (BL : List (Nat × Obj)) (hf : ∀ w, (Instr.findKey 83 (ia l) es.toList).run Try.prog w = .ok none w) (hs : St w0 w ((m, .map es ck) :: (BL ++ F))) :
  Con Try.prog 54 [.pointer (some ⟨pb, 0, none⟩), ia l] w fun v w' => ∃ B a c, v = .slice a (loads p l).length c ∧ Sl w0 B a 3 (lrows (loads p l)) ∧ St w0 w' ((m, .map (es.push { key := ia l, val := v, born := ck }) (ck + 1)) :: (B ++ (BL ++ F))) := by
  refine con_of_wc (n := 59) Try.func54 rfl rfl (Nat.le_of_ble_eq_true rfl) ?_
  have hcome := hok.come
  refine w_seq (fun K2 hK1 => ?_)
  refine w_region ?_
  refine w_boxI (l := _) want_none rfl rfl rfl hs (fun b3 w4 hs5 => ?_)
  refine w_pure want_none (y_assign (v := _) rfl rfl) rfl ?_
  refine w_nil ?_
  refine q_then (hK1 _ _ ?_)
  refine w_seq (fun K7 hK6 => ?_)
  refine w_seq (fun K9 hK8 => ?_)
  refine w_draw [] [(0, 0), (1, 0), (2, 0), (3, 1), (4, 1), (5, 1), (6, 0), (7, 0), (8, 0), (9, 0), (10, 0)] Try_mo (by kernel_rfl) hs5 (fun w10 hs11 => ?_)
  refine d_any rfl want_none rfl (fun _ => (y_move (v := .pointer _) rfl rfl)) ?_
  refine d_any rfl want_none rfl (fun _ => (y_nilCheck rfl rfl)) ?_
  refine d_any rfl want_none rfl (fun _ => (y_fieldAddr (o := 4) (i := 1) Try.underlying119 rfl Try.sizeOf117 rfl rfl rfl)) ?_
  refine d_take rfl want_none rfl hs11 (fun _ hq => (y_load1 Try.isAgg117 hq.tail.tail.drop rfl rfl (show Ats _ _ _ _ [_] from Ats.part hp 4 1))) ?_
  refine d_take rfl want_none rfl hs11 (fun _ hq => (y_loadI (i := 0) Try.isAgg83 Try.sizeOf83 (by first | omega | rfl | (simp only [List.length_map, List.length_set, List.length_append, List.length_take, List.length_drop, List.length_replicate, List.length_cons, List.length_nil] <;> omega)) hq rfl rfl rfl)) ?_
  refine d_take rfl want_none rfl hs11 (fun _ hq => (y_lookupN (i := 1) (l := l) Try.underlying117 Try.underlying83 (by omega) Try.underlying3 Try.sizeOf3 Try.zeroValue86 hq rfl rfl rfl rfl rfl rfl hf)) ?_
  refine d_any rfl want_none rfl (fun _ => (y_move (v := .tuple _) rfl rfl)) ?_
  refine d_any rfl want_none rfl (fun _ => (y_extract (v := .slice _ _ _) rfl rfl rfl)) ?_
  refine d_any rfl want_none rfl (fun _ => (y_extract (v := .bool _) rfl rfl rfl)) ?_
  refine d_any rfl want_none rfl (fun _ => (y_assign (v := .slice _ _ _) rfl rfl)) ?_
  refine d_any rfl want_none rfl (fun _ => (y_assign (v := .bool _) rfl rfl)) ?_
  refine d_nil ?_
  refine q_then (hK8 _ _ ?_)
  refine w_seq (fun K13 hK12 => ?_)
  refine w_region ?_
  refine w_pure want_none (y_move (v := .bool _) rfl rfl) rfl ?_
  refine w_nil ?_
  refine q_then (hK12 _ _ ?_)
  refine w_condF rfl rfl ?_
  refine w_skip ?_
  refine q_then (hK6 _ _ ?_)
  refine w_seq (fun K15 hK14 => ?_)
  refine w_region ?_
  refine w_pure want_none (y_assign (v := _) rfl rfl) rfl ?_
  refine w_nil ?_
  refine q_then (hK14 _ _ ?_)
  refine w_seq (fun K17 hK16 => ?_)
  refine w_seq (fun K19 hK18 => ?_)
  refine w_draw [] [(0, 0), (1, 0), (2, 0), (3, 0), (4, 0), (5, 1), (6, 0), (7, 0), (8, 0), (9, 0), (10, 0), (11, 1), (12, 0), (13, 0), (14, 0)] Try_mo (by kernel_rfl) hs11 (fun w20 hs21 => ?_)
  refine d_any rfl want_none rfl (fun _ => (y_move (v := .pointer _) rfl rfl)) ?_
  refine d_any rfl want_none rfl (fun _ => (y_nilCheck rfl rfl)) ?_
  refine d_any rfl want_none rfl (fun _ => (y_fieldAddr (o := 0) (i := 0) Try.underlying119 rfl Try.sizeOf26 rfl rfl rfl)) ?_
  refine d_any rfl want_none rfl (fun _ => (y_fieldAddr (o := 1) (i := 1) Try.underlying26 rfl Try.sizeOf23 rfl rfl rfl)) ?_
  refine d_any rfl want_none rfl (fun _ => (y_fieldAddr (o := 1) (i := 1) Try.underlying23 rfl Try.sizeOf3 rfl rfl rfl)) ?_
  refine d_take rfl want_none rfl hs21 (fun _ hq => (y_load1 Try.isAgg3 hq.tail.tail.drop rfl rfl (show Ats _ _ _ _ [_] from Ats.part hp 2 1))) ?_
  refine d_any rfl want_none rfl (fun _ => (y_move (v := .pointer _) rfl rfl)) ?_
  refine d_any rfl want_none rfl (fun _ => (y_nilCheck rfl rfl)) ?_
  refine d_any rfl want_none rfl (fun _ => (y_fieldAddr (o := 0) (i := 0) Try.underlying119 rfl Try.sizeOf26 rfl rfl rfl)) ?_
  refine d_any rfl want_none rfl (fun _ => (y_fieldAddr (o := 1) (i := 1) Try.underlying26 rfl Try.sizeOf23 rfl rfl rfl)) ?_
  refine d_any rfl want_none rfl (fun _ => (y_fieldAddr (o := 0) (i := 0) Try.underlying23 rfl Try.sizeOf3 rfl rfl rfl)) ?_
  refine d_take rfl want_none rfl hs21 (fun _ hq => (y_load1 Try.isAgg3 hq.tail.tail.drop rfl rfl (show Ats _ _ _ _ [_] from Ats.part hp 1 1))) ?_
  refine d_any rfl want_none rfl (fun _ => (y_sub rfl rfl rfl rfl (by omega) (by omega))) ?_
  refine d_any rfl want_none rfl (fun _ => (y_add rfl rfl rfl rfl (by omega) (by omega))) ?_
  refine d_any rfl want_none rfl (fun _ => (y_move (v := _) rfl rfl)) ?_
  refine d_nil ?_
  refine q_then (hK18 _ _ ?_)
  refine w_block ?_
  refine w_loop [7, 8, 34, 35, 36, 37, 38, 39, 40, 41, 42, 43, 44, 45, 46, 47, 48, 49, 50, 51] [7, 34] (fun k vs w => ∃ (i : Nat) (v : Value) (B : List (Nat × Obj)), vs = [v, .int .i64 i] ∧ (i : Int) ≤ p.chi - p.clo + 1 ∧ k = (p.chi - p.clo + 1 - i).toNat ∧ Rt.Own v 89 3 i (lrows ((loads p l).take i)).flatten B ∧ St w0 w ((b3, blk 83 (iv l)) :: (m, .map es ck) :: (B ++ (BL ++ F)))) ((p.chi - p.clo + 1).toNat) ?_ ?_
  ·
    exact ⟨0, _, [], rfl, by omega, by simp, own_nil 89 3, hs21⟩
  ·
    intro k vs μ w24 hI K23 hN22
    obtain ⟨i, v, B, rfl, hia, rfl, hown, hs⟩ := hI
    refine w_seq (fun K26 hK25 => ?_)
    refine w_region ?_
    refine w_pure want_none (y_lss rfl rfl rfl rfl) rfl ?_
    refine w_nil ?_
    refine q_then (hK25 _ _ ?_)
    refine w_seq (fun K28 hK27 => ?_)
    refine w_cond rfl rfl (fun h29 => ?_) (fun h29 => ?_)
    ·
      try simp only [Bool.not_eq_true', Bool.not_eq_false', decide_eq_true_eq, decide_eq_false_iff_not, Int.not_lt, Int.not_le] at h29
      refine w_skip ?_
      refine q_then (hK27 _ _ ?_)
      refine w_seq (fun K31 hK30 => ?_)
      refine w_block ?_
      refine w_seq (fun K33 hK32 => ?_)
      refine w_region ?_
      refine w_pure want_none (y_move (v := .int _ _) rfl rfl) rfl ?_
      refine w_pure want_none (y_assign (v := .int _ _) rfl rfl) rfl ?_
      refine w_nil ?_
      refine q_then (hK32 _ _ ?_)
      refine w_draw [13] [(0, 0), (1, 0), (2, 1), (3, 0), (4, 0), (5, 0), (6, 0), (7, 0), (8, 1), (9, 0), (10, 0), (11, 2), (12, 2), (13, 3), (14, 0)] Try_mo (by kernel_rfl) hs (fun w34 hs35 => ?_)
      refine d_any rfl want_none rfl (fun _ => (y_move (v := v) rfl rfl)) ?_
      refine d_any rfl want_none rfl (fun _ => (y_move (v := .pointer _) rfl rfl)) ?_
      refine d_take rfl want_none rfl hs35 (fun _ hq => (y_loadI (i := 0) Try.isAgg83 Try.sizeOf83 (by first | omega | rfl | (simp only [List.length_map, List.length_set, List.length_append, List.length_take, List.length_drop, List.length_replicate, List.length_cons, List.length_nil] <;> omega)) hq rfl rfl rfl)) ?_
      refine d_any rfl want_none rfl (fun _ => (y_move (v := .pointer _) rfl rfl)) ?_
      refine d_any rfl want_none rfl (fun _ => (y_nilCheck rfl rfl)) ?_
      refine d_any rfl want_none rfl (fun _ => (y_fieldAddr (o := 0) (i := 0) Try.underlying119 rfl Try.sizeOf26 rfl rfl rfl)) ?_
      refine d_any rfl want_none rfl (fun _ => (y_fieldAddr (o := 1) (i := 1) Try.underlying26 rfl Try.sizeOf23 rfl rfl rfl)) ?_
      refine d_any rfl want_none rfl (fun _ => (y_fieldAddr (o := 0) (i := 0) Try.underlying23 rfl Try.sizeOf3 rfl rfl rfl)) ?_
      refine d_take rfl want_none rfl hs35 (fun _ hq => (y_load1 Try.isAgg3 hq.tail.tail.drop.drop rfl rfl (show Ats _ _ _ _ [_] from Ats.part hp 1 1))) ?_
      refine d_any rfl want_none rfl (fun _ => (y_move (v := .int _ _) rfl rfl)) ?_
      refine d_any rfl want_none rfl (fun _ => (y_add rfl rfl rfl rfl (by omega) (by omega))) ?_
      refine d_eff rfl ?_
      refine w_call want_none Try.call84 rfl rfl rfl rfl (c84 p _ c m pb hp.app.app.cons.cons ha.app.app.cons.cons hok _ (by assumption) (by assumption) _ (by omega) (by omega) hs35) ?_
      rintro _ w37 ⟨rfl, hs38⟩
      refine w_nil ?_
      refine qn ⟨hs38, ?_⟩
      refine d_eff rfl ?_
      refine w_bslice (ps := [(0, _)]) (pv := [(0, .agg #[.int _ _, .int _ _, .int _ _])]) (cs := [_, _, _]) want_none rfl rfl (fun w => Try_G_fb4 _ _ _ w) hs38 (fun b39 w40 hs41 => ?_)
      refine w_nil ?_
      refine qn ⟨hs41.tail, ?_⟩
      refine d_late rfl ?_
      refine w_append (X := (_ :: _ :: _ :: [])) (B := B) (rows := [[_, _, _]]) (sz := 3) (bytes := 24) want_none Try.underlying86 Try_info89 rfl rfl rfl rfl rfl rfl rfl rfl rfl hs41 hown (sl_own (i := 0) rfl (by simp) rfl) rfl (by simp) (by simp [Value.oneCell']) (by simp only [maxLen]; omega) (by omega) (fun v42 w43 B44 ho45 hs46 => ?_)
      replace hs46 := (show St _ _ (_ :: _ :: _ :: B44 ++ (BL ++ (F))) from hs46)
      refine w_nil ?_
      refine qn ?_
      refine d_any rfl want_none rfl (fun _ => (y_assign (v := v42) rfl rfl)) ?_
      refine d_nil ?_
      refine q_blk_normal ?_
      refine q_then (hK30 _ _ ?_)
      refine w_region ?_
      refine w_pure want_none (y_add rfl rfl rfl rfl (by omega) (by omega)) rfl ?_
      refine w_pure want_none (y_move (v := .int _ _) rfl rfl) rfl ?_
      refine w_nil ?_
      refine q_then (hN22 _ _ (Nx.intro ((p.chi - p.clo + 1 - (i + 1 : Nat)).toNat) (by omega) (by repeat (first | exact agree_mix | refine agree_upd rfl ?_ | refine agree_updL rfl ?_ _ | refine agree_mixin rfl ?_)) ?_))
      exact ⟨i + 1, _, _, rfl, by omega, rfl, by rw [← lcells_succ (by omega)]; exact ho45, hs46.tail⟩
    ·
      try simp only [Bool.not_eq_true', Bool.not_eq_false', decide_eq_true_eq, decide_eq_false_iff_not, Int.not_lt, Int.not_le] at h29
      refine w_exit ?_
      refine q_then_exit ?_
      refine q_then_exit ?_
      refine q_blk_this ?_
      refine q_then (hK16 _ _ ?_)
      refine w_seq (fun K48 hK47 => ?_)
      refine w_draw [6] [(0, 0), (1, 0), (2, 0), (3, 1), (4, 1), (5, 0), (6, 3)] Try_mo (by kernel_rfl) hs (fun w49 hs50 => ?_)
      refine d_any rfl want_none rfl (fun _ => (y_move (v := .pointer _) rfl rfl)) ?_
      refine d_any rfl want_none rfl (fun _ => (y_nilCheck rfl rfl)) ?_
      refine d_any rfl want_none rfl (fun _ => (y_fieldAddr (o := 4) (i := 1) Try.underlying119 rfl Try.sizeOf117 rfl rfl rfl)) ?_
      refine d_take rfl want_none rfl hs50 (fun _ hq => (y_load1 Try.isAgg117 hq.tail.tail.drop.drop rfl rfl (show Ats _ _ _ _ [_] from Ats.part hp 4 1))) ?_
      refine d_take rfl want_none rfl hs50 (fun _ hq => (y_loadI (i := 0) Try.isAgg83 Try.sizeOf83 (by first | omega | rfl | (simp only [List.length_map, List.length_set, List.length_append, List.length_take, List.length_drop, List.length_replicate, List.length_cons, List.length_nil] <;> omega)) hq rfl rfl rfl)) ?_
      refine d_any rfl want_none rfl (fun _ => (y_move (v := v) rfl rfl)) ?_
      refine d_late rfl ?_
      refine w_mapAdd (i := 1) (l := l) want_none Try.underlying117 Try.underlying83 (by omega) Try.underlying3 Try.sizeOf3 rfl rfl rfl rfl rfl rfl rfl hs50 rfl hf (fun w51 hs52 => ?_)
      refine w_nil ?_
      refine qn ?_
      refine d_nil ?_
      refine q_then (hK47 _ _ ?_)
      refine w_seq (fun K54 hK53 => ?_)
      refine w_region ?_
      refine w_pure want_none (y_move (v := v) rfl rfl) rfl ?_
      refine w_pure want_none (y_assign (v := v) rfl rfl) rfl ?_
      refine w_nil ?_
      refine q_then (hK53 _ _ ?_)
      refine w_ret ?_
      refine q_ret (l := [.tmp 4]) (vs := [_]) rfl ⟨⟨rfl, show _ = (v : Value) from rfl⟩, trivial⟩ ?_
      obtain ⟨aw, cw, rfl, hsl⟩ := hown.sl (w0 := w0) (rows := lrows (loads p l)) (by intro row hr; obtain ⟨x, _, rfl⟩ := List.mem_map.1 hr; rfl) (by rw [List.length_map, loads_len]; omega) (by rw [List.take_of_length_le (by rw [loads_len]; omega)]) []
      rw [List.append_nil] at hsl
      rw [List.length_map] at *
      exact ⟨B, aw, cw, rfl, hsl, hs52.tail⟩

theorem loads_con {w0 w : World} {X M F : List (Nat × Obj)} (p : Port) (a : Option Addr) (c m pb : Nat) (hp : Ats w0 F pb 0 [.int .i64 p.hold, .int .i64 p.clo, .int .i64 p.chi, .slice a p.farms.length c, .map (some m)]) (ha : Sl w0 F a 6 (rows p.farms)) (hok : p.Ok) (l : List Int) (hlen : l.length = 3) (hl1 : ∀ x ∈ l, -1 ≤ x ∧ x ≤ 10) (hM : Memo w0 p m M) (hs : St w0 w (X ++ (M ++ F))) :
    Con Try.prog 54 [.pointer (some ⟨pb, 0, none⟩), ia l] w fun v w' => ∃ M' a c, v = .slice a (loads p l).length c ∧ Memo w0 p m M' ∧ Sl w0 (X ++ (M' ++ F)) a 3 (lrows (loads p l)) ∧ St w0 w' (X ++ (M' ++ F)) := by
  obtain ⟨es, ck, BL, rfl, hes⟩ := hM
  have hs1 : St w0 w ((m, .map es ck) :: (BL ++ (X ++ F))) := hs.perm (perm_mid X ((m, .map es ck) :: BL) F)
  rcases run_findKey (P := Try.prog) Try.underlying83 (by rw [hlen]; exact Try_flat83) es.toList (fun e he => by obtain ⟨l', _, _, h1, h2, _⟩ := hes e he; exact ⟨l', by omega, h2⟩) with ⟨hf, hne⟩ | ⟨j, e, hf, hmem, hkey⟩
  · refine (c54n p a c m pb (hp.app (L' := X)) (ha.app (L' := X)) hok l hlen hl1 es ck BL hf hs1).mono ?_
    rintro v w' ⟨B, av, cv, rfl, hsl, hs2⟩
    refine ⟨(m, .map (es.push { key := ia l, val := .slice av (loads p l).length cv, born := ck }) (ck + 1)) :: (B ++ BL), av, cv, rfl, ⟨_, _, _, rfl, fun e he => ?_⟩, ?_, ?_⟩
    · rw [Array.toList_push, List.mem_append] at he
      rcases he with he | he
      · obtain ⟨l', a', c', h1, h2, h3, h4⟩ := hes e he
        exact ⟨l', a', c', h1, h2, h3, h4.app⟩
      · rw [List.mem_singleton] at he
        subst he
        exact ⟨l, av, cv, hlen, rfl, rfl, hsl.mono fun w' h => by have := h.perm List.perm_append_comm; exact this.drop⟩
    · exact hsl.mono fun w' h => by
        have h3 : St w0 w' ((m, .map (es.push { key := ia l, val := .slice av (loads p l).length cv, born := ck }) (ck + 1)) :: (B ++ BL)) := h.drop.front
        exact h3.tail.front
    · have e : ((m, .map (es.push { key := ia l, val := .slice av (loads p l).length cv, born := ck }) (ck + 1)) :: (B ++ (BL ++ (X ++ F))) : List (Nat × Obj)) = ((m, .map (es.push { key := ia l, val := .slice av (loads p l).length cv, born := ck }) (ck + 1)) :: (B ++ BL)) ++ (X ++ F) := by simp
      rw [e] at hs2
      exact hs2.perm (perm_mid _ _ _)
  · obtain ⟨l', a', c', h1, h2, h3, h4⟩ := hes e hmem
    have hll : l' = l := ia_inj (h2.symm.trans hkey)
    subst hll
    rw [h3] at hf
    refine (c54f p a c m pb (hp.app (L' := X)) (ha.app (L' := X)) hok l' hlen hl1 es ck BL j a' _ c' hf hs1).mono ?_
    rintro v w' ⟨rfl, hs2⟩
    have hs3 : St w0 w' (X ++ (((m, .map es ck) :: BL) ++ F)) := hs2.perm (perm_mid X ((m, .map es ck) :: BL) F).symm
    refine ⟨_, a', c', rfl, ⟨es, ck, BL, rfl, hes⟩, ?_, hs3⟩
    exact h4.mono fun w' h => by
      have h3 : St w0 w' ((m, .map es ck) :: BL) := h.drop.front
      exact h3.tail

end Go.Proofs
