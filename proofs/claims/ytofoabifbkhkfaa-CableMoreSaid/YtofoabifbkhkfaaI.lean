/- Walks of this seat, printed by gen.py over the engine: what each function returns, in whatever world. No conditions but those of each contract. -/
import Derived.Test.YtofoabifbkhkfaaH
import Derived.Test.YtofoabifbkhkfaaCSpec5
set_option linter.unusedVariables false
set_option linter.unusedSimpArgs false
set_option maxRecDepth 20000
namespace Go.Proofs
open Go.Rt
attribute [local irreducible] WL WC Con Yd At Ats Sl Agree DW

theorem sl_load {w0 : World} {F : List (Nat × Obj)} {a : Option Addr} {l : List Load} {i : Nat} (h : Sl w0 F a 3 (lrows l)) (hi : i < l.length) :
    ∃ b off, a = some ⟨b, off, none⟩ ∧ Ats w0 F b (off + i * 3) [.int .i64 l[i].least, .int .i64 l[i].most, .int .i64 l[i].vain] := by
  obtain ⟨b, off, ha, _, hat⟩ := h.at (i := i) (row := iv l[i].ints) (by simp [hi])
  exact ⟨b, off, ha, hat⟩
theorem loads_con2 {w0 w : World} {X M F : List (Nat × Obj)} (p : Port) (a : Option Addr) (c m pb : Nat) (hp : Ats w0 F pb 0 [.int .i64 p.hold, .int .i64 p.clo, .int .i64 p.chi, .slice a p.farms.length c, .map (some m)]) (ha : Sl w0 F a 6 (rows p.farms)) (hok : p.Ok) (l : List Int) (hlen : l.length = 3) (hl1 : ∀ x ∈ l, -1 ≤ x ∧ x ≤ 10) (hM : Memo w0 p m M) (hs : St w0 w (X ++ (M ++ F))) :
    Con Try.prog 54 [.pointer (some ⟨pb, 0, none⟩), ia l] w fun v w' => ∃ Z M' a c, v = .slice a (loads p l).length c ∧ Memo w0 p m M' ∧ Z = X ++ (M' ++ F) ∧ Sl w0 Z a 3 (lrows (loads p l)) ∧ St w0 w' Z :=
  (loads_con p a c m pb hp ha hok l hlen hl1 hM hs).mono fun v w' ⟨M', a, c, h1, h2, h3, h4⟩ => ⟨_, M', a, c, h1, h2, rfl, h3, h4⟩
theorem c57 {w0 w : World} {X M F : List (Nat × Obj)} (p : Port) (a : Option Addr) (c m pb : Nat) (hp : Ats w0 F pb 0 [.int .i64 p.hold, .int .i64 p.clo, .int .i64 p.chi, .slice a p.farms.length c, .map (some m)]) (ha : Sl w0 F a 6 (rows p.farms)) (hok : p.Ok) (l : List Int) (hlen : l.length = 3) (hl1 : ∀ x ∈ l, -1 ≤ x ∧ x ≤ 10) (hM : Memo w0 p m M) (hs : St w0 w (X ++ (M ++ F))) :
  Con Try.prog 57 [.pointer (some ⟨pb, 0, none⟩), ia l] w fun v w' => v = .int .i64 (vain p l) ∧ ∃ M', Memo w0 p m M' ∧ St w0 w' (X ++ (M' ++ F)) := by
  refine con_of_wc (n := 21) Try.func57 rfl rfl (Nat.le_of_ble_eq_true rfl) ?_
  have hcome := hok.come
  have hll := loads_len p l
  refine w_seq (fun K2 hK1 => ?_)
  refine w_region ?_
  refine w_boxI (l := _) want_none rfl rfl rfl hs (fun b3 w4 hs5 => ?_)
  refine w_pure want_none (y_assign (v := _) rfl rfl) rfl ?_
  refine w_nil ?_
  refine q_then (hK1 _ _ ?_)
  refine w_seq (fun K7 hK6 => ?_)
  refine w_seq (fun K9 hK8 => ?_)
  refine w_region ?_
  refine w_pure want_none (y_move (v := .pointer _) rfl rfl) rfl ?_
  refine w_pure want_none (y_loadI (i := 0) Try.isAgg83 Try.sizeOf83 (by first | omega | rfl | (simp only [List.length_map, List.length_set, List.length_append, List.length_take, List.length_drop, List.length_replicate, List.length_cons, List.length_nil] <;> omega)) hs5 rfl rfl rfl) rfl ?_
  refine w_call want_none Try.call54 rfl rfl rfl rfl (loads_con2 (X := _ :: X) p _ c m pb hp ha hok l hlen hl1 hM hs5) ?_
  rintro _ w11 ⟨Z, M1, al, cl, rfl, hM1, hz, hsl, hs12⟩
  refine w_pure want_none (y_lenS Try.underlying86 rfl rfl) rfl ?_
  refine w_pure want_none (y_move (v := _) rfl rfl) rfl ?_
  refine w_nil ?_
  refine q_then (hK8 _ _ ?_)
  refine w_block ?_
  refine w_loop [4, 6, 11, 12, 13, 14, 15, 16, 17, 18, 19] [4, 11] (fun k vs w => ∃ i : Nat, vs = [.int .i64 (vainUpto p l i), .int .i64 i] ∧ i ≤ (loads p l).length ∧ k = (loads p l).length - i ∧ St w0 w Z) ((loads p l).length) ?_ ?_
  ·
    exact ⟨0, rfl, by omega, by omega, hs12⟩
  ·
    intro k vs μ w15 hI K14 hN13
    obtain ⟨i, rfl, hia, rfl, hs⟩ := hI
    refine w_seq (fun K17 hK16 => ?_)
    refine w_region ?_
    refine w_pure want_none (y_lss rfl rfl rfl rfl) rfl ?_
    refine w_nil ?_
    refine q_then (hK16 _ _ ?_)
    refine w_seq (fun K19 hK18 => ?_)
    refine w_cond rfl rfl (fun h20 => ?_) (fun h20 => ?_)
    ·
      try simp only [Bool.not_eq_true', Bool.not_eq_false', decide_eq_true_eq, decide_eq_false_iff_not, Int.not_lt, Int.not_le] at h20
      refine w_skip ?_
      refine q_then (hK18 _ _ ?_)
      refine w_seq (fun K22 hK21 => ?_)
      refine w_block ?_
      refine w_seq (fun K24 hK23 => ?_)
      have hx2 : i < (loads p l).length := by omega
      obtain ⟨bx, ox, rfl, hx⟩ := sl_load hsl hx2
      refine w_region ?_
      refine w_pure want_none (y_indexS Try.underlying86 Try.sizeOf89 rfl rfl rfl rfl (i := _) rfl (by omega)) rfl ?_
      refine w_pure want_none (y_loadN (vs := [_, _, _]) Try.isAgg89 Try.sizeOf89 hs rfl rfl hx) rfl ?_
      refine w_alloc (cs := [_, _, _]) want_none Try.zeroValue89 rfl hs (fun b25 w26 hs27 => ?_)
      refine w_store (i := 0) (v := .agg #[.int _ _, .int _ _, .int _ _]) (vs := [_, _, _]) want_none Try.sizeOf89 rfl rfl rfl rfl rfl (by simp [Value.oneCell']) hs27 rfl (Nat.le_of_ble_eq_true rfl) (fun w28 hs29 => ?_)
      refine w_nil ?_
      refine q_then (hK23 _ _ ?_)
      refine w_region ?_
      refine w_pure want_none (y_move (v := .int _ _) rfl rfl) rfl ?_
      refine w_pure want_none (y_fieldAddr (o := 2) (i := 2) Try.underlying89 rfl Try.sizeOf3 rfl rfl rfl) rfl ?_
      refine w_pure want_none (y_load1 Try.isAgg3 hs29 rfl rfl (ats_own (i := 0) (vs := [_]) rfl rfl)) rfl ?_
      refine w_pure want_none (y_max2 rfl rfl rfl rfl) rfl ?_
      refine w_pure want_none (y_assign (v := .int _ _) rfl rfl) rfl ?_
      refine w_nil ?_
      refine q_blk_normal ?_
      refine q_then (hK21 _ _ ?_)
      refine w_region ?_
      refine w_pure want_none (y_add rfl rfl rfl rfl (by omega) (by omega)) rfl ?_
      refine w_pure want_none (y_move (v := .int _ _) rfl rfl) rfl ?_
      refine w_nil ?_
      refine q_then (hN13 _ _ (Nx.intro ((loads p l).length - (i + 1)) (by omega) (by repeat (first | exact agree_mix | refine agree_upd rfl ?_ | refine agree_updL rfl ?_ _ | refine agree_mixin rfl ?_)) ?_))
      exact ⟨i + 1, iv2 (vainUpto_get hx2) rfl, by omega, rfl, hs29.tail⟩
    ·
      try simp only [Bool.not_eq_true', Bool.not_eq_false', decide_eq_true_eq, decide_eq_false_iff_not, Int.not_lt, Int.not_le] at h20
      refine w_exit ?_
      refine q_then_exit ?_
      refine q_then_exit ?_
      refine q_blk_this ?_
      refine q_then (hK6 _ _ ?_)
      refine w_seq (fun K31 hK30 => ?_)
      refine w_region ?_
      refine w_pure want_none (y_move (v := .int _ _) rfl rfl) rfl ?_
      refine w_pure want_none (y_assign (v := .int _ _) rfl rfl) rfl ?_
      refine w_nil ?_
      refine q_then (hK30 _ _ ?_)
      refine w_ret ?_
      refine q_ret (l := [.tmp 4]) (vs := [_]) rfl ⟨⟨rfl, show _ = (.int _ _ : Value) from rfl⟩, trivial⟩ ?_
      exact ⟨congrArg (Value.int .i64) (vainUpto_all l (by omega)), M1, hM1, (show St w0 _ (_ :: (X ++ (M1 ++ F))) from St.cast hz hs).tail⟩

theorem cut_yes {n : Int} {f : Farm} {c : Int} (h : ¬ c = -1) : cutStep n (f, c) = n + f.hi := by unfold cutStep; rw [if_neg h]
theorem cut_no {n : Int} {f : Farm} {c : Int} (h : c = -1) : cutStep n (f, c) = n := by unfold cutStep; rw [if_pos h]
theorem c62 {w0 w : World} {F : List (Nat × Obj)} (p : Port) (a : Option Addr) (c m pb : Nat) (hp : Ats w0 F pb 0 [.int .i64 p.hold, .int .i64 p.clo, .int .i64 p.chi, .slice a p.farms.length c, .map (some m)]) (ha : Sl w0 F a 6 (rows p.farms)) (hok : p.Ok) (l : List Int) (hlen : l.length = 3) (hl1 : ∀ x ∈ l, -1 ≤ x ∧ x ≤ 10) (hs : St w0 w F) :
  Con Try.prog 62 [.pointer (some ⟨pb, 0, none⟩), ia l] w fun v w' => v = .int .i64 (cut p.farms l) ∧ St w0 w' F := by
  refine con_of_wc (n := 29) Try.func62 rfl rfl (Nat.le_of_ble_eq_true rfl) ?_
  have hlen3 := hok.len
  refine w_seq (fun K2 hK1 => ?_)
  refine w_region ?_
  refine w_boxI (l := _) want_none rfl rfl rfl hs (fun b3 w4 hs5 => ?_)
  refine w_pure want_none (y_assign (v := _) rfl rfl) rfl ?_
  refine w_nil ?_
  refine q_then (hK1 _ _ ?_)
  refine w_seq (fun K7 hK6 => ?_)
  refine w_seq (fun K9 hK8 => ?_)
  refine w_region ?_
  refine w_pure want_none (y_move (v := .pointer _) rfl rfl) rfl ?_
  refine w_pure want_none (y_nilCheck rfl rfl) rfl ?_
  refine w_pure want_none (y_fieldAddr (o := 0) (i := 0) Try.underlying119 rfl Try.sizeOf26 rfl rfl rfl) rfl ?_
  refine w_pure want_none (y_fieldAddr (o := 3) (i := 2) Try.underlying26 rfl Try.sizeOf24 rfl rfl rfl) rfl ?_
  refine w_pure want_none (y_load1 Try.isAgg24 hs5.tail rfl rfl (show Ats _ _ _ _ [_] from Ats.part hp 3 1)) rfl ?_
  refine w_pure want_none (y_lenS Try.underlying24 rfl rfl) rfl ?_
  refine w_pure want_none (y_move (v := _) rfl rfl) rfl ?_
  refine w_nil ?_
  refine q_then (hK8 _ _ ?_)
  refine w_block ?_
  refine w_loop [4, 5, 6, 13, 14, 15, 16, 17, 18, 19, 20, 21, 22, 23, 24, 25, 26, 27] [4, 13] (fun k vs w => ∃ (i : Nat) (x : Int), x = cutUpto p.farms l i ∧ vs = [.int .i64 x, .int .i64 i] ∧ i ≤ p.farms.length ∧ k = p.farms.length - i ∧ St w0 w ((b3, blk 83 (iv l)) :: F)) (p.farms.length) ?_ ?_
  ·
    exact ⟨0, 0, rfl, rfl, by omega, by omega, hs5⟩
  ·
    intro k vs μ w12 hI K11 hN10
    obtain ⟨i, x, hxx, rfl, hia, rfl, hs⟩ := hI
    refine w_seq (fun K14 hK13 => ?_)
    refine w_region ?_
    refine w_pure want_none (y_lss rfl rfl rfl rfl) rfl ?_
    refine w_nil ?_
    refine q_then (hK13 _ _ ?_)
    refine w_seq (fun K16 hK15 => ?_)
    refine w_cond rfl rfl (fun h17 => ?_) (fun h17 => ?_)
    ·
      try simp only [Bool.not_eq_true', Bool.not_eq_false', decide_eq_true_eq, decide_eq_false_iff_not, Int.not_lt, Int.not_le] at h17
      refine w_skip ?_
      refine q_then (hK15 _ _ ?_)
      refine w_seq (fun K19 hK18 => ?_)
      refine w_block ?_
      refine w_seq (fun K21 hK20 => ?_)
      have hi2 : i < p.farms.length := by omega
      have hi3 : i < l.length := by omega
      obtain ⟨bx, ox, rfl, hx⟩ := sl_farm ha hi2
      have hfo := hok.farm _ (List.getElem_mem hi2)
      have hfo2 := hfo
      unfold Farm.Ok at hfo2
      have hgd : l[i] = l.getD i 0 := by simp [List.getD, hi3]
      have hl2 := hl1 (l.getD i 0) (by rw [← hgd]; exact List.getElem_mem hi3)
      have hb := cutUpto_bound (fs := p.farms) (l := l) i (by omega) hok.farm
      rw [← hxx] at hb
      refine w_region ?_
      refine w_pure want_none (y_move (v := .int _ _) rfl rfl) rfl ?_
      refine w_pure want_none (y_indexS Try.underlying24 Try.sizeOf60 rfl rfl rfl rfl (i := _) rfl (by omega)) rfl ?_
      refine w_pure want_none (y_loadN (vs := [_, _, _, _, _, _]) Try.isAgg60 Try.sizeOf60 hs.tail rfl rfl hx) rfl ?_
      refine w_alloc (cs := [_, _, _, _, _, _]) want_none Try.zeroValue60 rfl hs (fun b22 w23 hs24 => ?_)
      refine w_pure want_none (y_assign (v := .int _ _) rfl rfl) rfl ?_
      refine w_store (i := 0) (v := .agg #[.string _, .int _ _, .int _ _, .int _ _, .int _ _, .int _ _]) (vs := [_, _, _, _, _, _]) want_none Try.sizeOf60 rfl rfl rfl rfl rfl (by simp [Value.oneCell']) hs24 rfl (Nat.le_of_ble_eq_true rfl) (fun w25 hs26 => ?_)
      refine w_nil ?_
      refine q_then (hK20 _ _ ?_)
      refine w_seq (fun K28 hK27 => ?_)
      refine w_region ?_
      refine w_pure want_none (y_move (v := .int _ _) rfl rfl) rfl ?_
      refine w_pure want_none (y_indexA Try.underlying83 Try.sizeOf3 rfl rfl rfl rfl (i := i) rfl (by omega)) rfl ?_
      refine w_pure want_none (y_load1 Try.isAgg3 hs26 rfl rfl (ats_ints (i := 1) (j := i) rfl (by first | omega | rfl | (simp only [List.length_map, List.length_set, List.length_append, List.length_take, List.length_drop, List.length_replicate, List.length_cons, List.length_nil] <;> omega)))) rfl ?_
      refine w_pure want_none (y_neq rfl rfl rfl rfl) rfl ?_
      refine w_nil ?_
      refine q_then (hK27 _ _ ?_)
      refine w_cond rfl rfl (fun h29 => ?_) (fun h29 => ?_)
      ·
        try simp only [Bool.not_eq_true', Bool.not_eq_false', decide_eq_true_eq, decide_eq_false_iff_not, Int.not_lt, Int.not_le] at h29
        refine w_region ?_
        refine w_pure want_none (y_move (v := .int _ _) rfl rfl) rfl ?_
        refine w_pure want_none (y_fieldAddr (o := 4) (i := 4) Try.underlying60 rfl Try.sizeOf23 rfl rfl rfl) rfl ?_
        refine w_pure want_none (y_fieldAddr (o := 1) (i := 1) Try.underlying23 rfl Try.sizeOf3 rfl rfl rfl) rfl ?_
        refine w_pure want_none (y_load1 Try.isAgg3 hs26 rfl rfl (ats_own (i := 0) (vs := [_]) rfl rfl)) rfl ?_
        refine w_pure want_none (y_add rfl rfl rfl rfl (by omega) (by omega)) rfl ?_
        refine w_pure want_none (y_assign (v := .int _ _) rfl rfl) rfl ?_
        refine w_nil ?_
        refine q_blk_normal ?_
        refine q_then (hK18 _ _ ?_)
        refine w_region ?_
        refine w_pure want_none (y_add rfl rfl rfl rfl (by omega) (by omega)) rfl ?_
        refine w_pure want_none (y_move (v := .int _ _) rfl rfl) rfl ?_
        refine w_nil ?_
        refine q_then (hN10 _ _ (Nx.intro (p.farms.length - (i + 1)) (by omega) (by repeat (first | exact agree_mix | refine agree_upd rfl ?_ | refine agree_updL rfl ?_ _ | refine agree_mixin rfl ?_)) ?_))
        first
          | exact ⟨i + 1, x + p.farms[i].hi, (by rw [cutUpto_succ hi2 hi3, ← hxx]; exact (cut_yes (by assumption)).symm), rfl, by omega, rfl, hs26.tail⟩
          | exact ⟨i + 1, x, (by rw [cutUpto_succ hi2 hi3, ← hxx]; exact (cut_no (by assumption)).symm), rfl, by omega, rfl, hs26.tail⟩
      ·
        try simp only [Bool.not_eq_true', Bool.not_eq_false', decide_eq_true_eq, decide_eq_false_iff_not, Int.not_lt, Int.not_le] at h29
        refine w_skip ?_
        refine q_blk_normal ?_
        refine q_then (hK18 _ _ ?_)
        refine w_region ?_
        refine w_pure want_none (y_add rfl rfl rfl rfl (by omega) (by omega)) rfl ?_
        refine w_pure want_none (y_move (v := .int _ _) rfl rfl) rfl ?_
        refine w_nil ?_
        refine q_then (hN10 _ _ (Nx.intro (p.farms.length - (i + 1)) (by omega) (by repeat (first | exact agree_mix | refine agree_upd rfl ?_ | refine agree_updL rfl ?_ _ | refine agree_mixin rfl ?_)) ?_))
        first
          | exact ⟨i + 1, x + p.farms[i].hi, (by rw [cutUpto_succ hi2 hi3, ← hxx]; exact (cut_yes (by assumption)).symm), rfl, by omega, rfl, hs26.tail⟩
          | exact ⟨i + 1, x, (by rw [cutUpto_succ hi2 hi3, ← hxx]; exact (cut_no (by assumption)).symm), rfl, by omega, rfl, hs26.tail⟩
    ·
      try simp only [Bool.not_eq_true', Bool.not_eq_false', decide_eq_true_eq, decide_eq_false_iff_not, Int.not_lt, Int.not_le] at h17
      refine w_exit ?_
      refine q_then_exit ?_
      refine q_then_exit ?_
      refine q_blk_this ?_
      refine q_then (hK6 _ _ ?_)
      refine w_seq (fun K31 hK30 => ?_)
      refine w_region ?_
      refine w_pure want_none (y_move (v := .int _ _) rfl rfl) rfl ?_
      refine w_pure want_none (y_assign (v := .int _ _) rfl rfl) rfl ?_
      refine w_nil ?_
      refine q_then (hK30 _ _ ?_)
      refine w_ret ?_
      refine q_ret (l := [.tmp 4]) (vs := [_]) rfl ⟨⟨rfl, show _ = (.int _ _ : Value) from rfl⟩, trivial⟩ ?_
      exact ⟨congrArg (Value.int .i64) (by rw [hxx]; exact cutUpto_all (by omega)), hs.tail⟩

theorem c67 {w0 w : World} {F : List (Nat × Obj)} (p : Port) (a : Option Addr) (c m pb : Nat) (hp : Ats w0 F pb 0 [.int .i64 p.hold, .int .i64 p.clo, .int .i64 p.chi, .slice a p.farms.length c, .map (some m)]) (ha : Sl w0 F a 6 (rows p.farms)) (hok : p.Ok) (l : List Int) (hlen : l.length = 3) (hl1 : ∀ x ∈ l, -1 ≤ x ∧ x ≤ 10) (f0 : Int) (hf0 : 0 ≤ f0) (hf1 : f0 ≤ 11) (hs : St w0 w F) :
  Con Try.prog 67 [.pointer (some ⟨pb, 0, none⟩), ia l, .int .i64 f0] w fun v w' => v = .int .i64 (worst p l f0) ∧ St w0 w' F := by
  refine con_of_wc (n := 88) Try.func67 rfl rfl (Nat.le_of_ble_eq_true rfl) ?_
  have hlen3 := hok.len
  have hcome := hok.come
  refine w_seq (fun K2 hK1 => ?_)
  refine w_region ?_
  refine w_boxI (l := _) want_none rfl rfl rfl hs (fun b3 w4 hs5 => ?_)
  refine w_pure want_none (y_assign (v := _) rfl rfl) rfl ?_
  refine w_nil ?_
  refine q_then (hK1 _ _ ?_)
  refine w_seq (fun K7 hK6 => ?_)
  refine w_seq (fun K9 hK8 => ?_)
  refine w_region ?_
  refine w_pure want_none (y_move (v := .pointer _) rfl rfl) rfl ?_
  refine w_pure want_none (y_nilCheck rfl rfl) rfl ?_
  refine w_pure want_none (y_fieldAddr (o := 0) (i := 0) Try.underlying119 rfl Try.sizeOf26 rfl rfl rfl) rfl ?_
  refine w_pure want_none (y_fieldAddr (o := 1) (i := 1) Try.underlying26 rfl Try.sizeOf23 rfl rfl rfl) rfl ?_
  refine w_pure want_none (y_fieldAddr (o := 0) (i := 0) Try.underlying23 rfl Try.sizeOf3 rfl rfl rfl) rfl ?_
  refine w_pure want_none (y_load1 Try.isAgg3 hs5.tail rfl rfl (show Ats _ _ _ _ [_] from Ats.part hp 1 1)) rfl ?_
  refine w_pure want_none (y_assign (v := .int _ _) rfl rfl) rfl ?_
  refine w_nil ?_
  refine q_then (hK8 _ _ ?_)
  refine w_block ?_
  refine w_loop [6, 7, 8, 9, 10, 11, 18, 19, 20, 21, 22, 23, 24, 25, 26, 27, 28, 29, 30, 31, 32, 33, 34, 35, 36, 37, 38, 39, 40, 41, 42, 43, 44, 45, 46, 47, 48, 49, 50, 51, 52, 53, 54, 55, 56, 57, 58, 59, 60, 61, 62, 63, 64, 65, 66, 67, 68, 69, 70, 71, 72, 73, 74, 75, 76, 77, 78, 79, 80, 81, 82, 83, 84, 85, 86] [6, 7] (fun k vs w => ∃ (q : Nat), vs = [.int .i64 (vainUpto p l q), .int .i64 (p.clo + q)] ∧ (q : Int) ≤ p.chi - p.clo + 1 ∧ k = (p.chi - p.clo + 1 - q).toNat ∧ fullTUpto p l f0 q = true ∧ St w0 w ((b3, blk 83 (iv l)) :: F)) ((p.chi - p.clo + 1).toNat) ?_ ?_
  ·
    exact ⟨0, iv2 (show (0 : Int) = vainUpto p l 0 from rfl) (by omega), by omega, by simp, by simp [fullTUpto], hs5⟩
  ·
    intro k vs μ w12 hI K11 hN10
    obtain ⟨q, rfl, hq, rfl, hfu, hs⟩ := hI
    refine w_seq (fun K14 hK13 => ?_)
    refine w_seq (fun K16 hK15 => ?_)
    refine w_region ?_
    refine w_pure want_none (y_move (v := .int _ _) rfl rfl) rfl ?_
    refine w_pure want_none (y_move (v := .pointer _) rfl rfl) rfl ?_
    refine w_pure want_none (y_nilCheck rfl rfl) rfl ?_
    refine w_pure want_none (y_fieldAddr (o := 0) (i := 0) Try.underlying119 rfl Try.sizeOf26 rfl rfl rfl) rfl ?_
    refine w_pure want_none (y_fieldAddr (o := 1) (i := 1) Try.underlying26 rfl Try.sizeOf23 rfl rfl rfl) rfl ?_
    refine w_pure want_none (y_fieldAddr (o := 1) (i := 1) Try.underlying23 rfl Try.sizeOf3 rfl rfl rfl) rfl ?_
    refine w_pure want_none (y_load1 Try.isAgg3 hs.tail rfl rfl (show Ats _ _ _ _ [_] from Ats.part hp 2 1)) rfl ?_
    refine w_pure want_none (y_leq rfl rfl rfl rfl) rfl ?_
    refine w_nil ?_
    refine q_then (hK15 _ _ ?_)
    refine w_cond rfl rfl (fun h17 => ?_) (fun h17 => ?_)
    ·
      try simp only [Bool.not_eq_true', Bool.not_eq_false', decide_eq_true_eq, decide_eq_false_iff_not, Int.not_lt, Int.not_le] at h17
      refine w_skip ?_
      refine q_then (hK13 _ _ ?_)
      refine w_seq (fun K19 hK18 => ?_)
      refine w_block ?_
      refine w_seq (fun K21 hK20 => ?_)
      refine w_region ?_
      refine w_pure want_none (y_move (v := .pointer _) rfl rfl) rfl ?_
      refine w_pure want_none (y_loadI (i := 0) Try.isAgg83 Try.sizeOf83 (by first | omega | rfl | (simp only [List.length_map, List.length_set, List.length_append, List.length_take, List.length_drop, List.length_replicate, List.length_cons, List.length_nil] <;> omega)) hs rfl rfl rfl) rfl ?_
      refine w_pure want_none (y_move (v := .int _ _) rfl rfl) rfl ?_
      refine w_call want_none Try.call84 rfl rfl rfl rfl (c84 p _ c m pb hp.cons ha.cons hok l hlen hl1 _ (by omega) (by omega) hs) ?_
      rintro _ w23 ⟨rfl, hs24⟩
      refine w_alloc (cs := [_, _, _]) want_none Try.zeroValue89 rfl hs24 (fun b25 w26 hs27 => ?_)
      refine w_store (i := 0) (v := .agg #[.int _ _, .int _ _, .int _ _]) (vs := [_, _, _]) want_none Try.sizeOf89 rfl rfl rfl rfl rfl (by simp [Value.oneCell']) hs27 rfl (Nat.le_of_ble_eq_true rfl) (fun w28 hs29 => ?_)
      refine w_nil ?_
      refine q_then (hK20 _ _ ?_)
      refine w_seq (fun K31 hK30 => ?_)
      refine w_seq (fun K33 hK32 => ?_)
      refine w_region ?_
      refine w_pure want_none (y_move (v := .pointer _) rfl rfl) rfl ?_
      refine w_pure want_none (y_nilCheck rfl rfl) rfl ?_
      refine w_pure want_none (y_fieldAddr (o := 0) (i := 0) Try.underlying119 rfl Try.sizeOf26 rfl rfl rfl) rfl ?_
      refine w_pure want_none (y_fieldAddr (o := 3) (i := 2) Try.underlying26 rfl Try.sizeOf24 rfl rfl rfl) rfl ?_
      refine w_pure want_none (y_load1 Try.isAgg24 hs29.tail.tail rfl rfl (show Ats _ _ _ _ [_] from Ats.part hp 3 1)) rfl ?_
      refine w_pure want_none (y_lenS Try.underlying24 rfl rfl) rfl ?_
      refine w_pure want_none (y_move (v := _) rfl rfl) rfl ?_
      refine w_nil ?_
      refine q_then (hK32 _ _ ?_)
      refine w_block ?_
      refine w_loop [9, 10, 11, 38, 39, 40, 41, 42, 43, 44, 45, 46, 47, 48, 49, 50, 51, 52, 53, 54, 55, 56, 57, 58, 59, 60, 61, 62, 63, 64, 65, 66, 67, 68, 69, 70, 71, 72, 73, 74] [38] (fun k vs w => ∃ (i : Nat) (x : Int), x = leastUpto p.farms l f0 (p.clo + q) i ∧ vs = [.int .i64 i] ∧ i ≤ p.farms.length ∧ k = p.farms.length - i ∧ St w0 w ((b25, blk 89 [.int .i64 x, .int .i64 (on p.farms l (p.clo + q)).most, .int .i64 (on p.farms l (p.clo + q)).vain]) :: (b3, blk 83 (iv l)) :: F)) (p.farms.length) ?_ ?_
      ·
        exact ⟨0, _, rfl, rfl, by omega, by omega, hs29⟩
      ·
        intro k vs μ w36 hI K35 hN34
        obtain ⟨i, x, hxx, rfl, hia, rfl, hs⟩ := hI
        refine w_seq (fun K38 hK37 => ?_)
        refine w_region ?_
        refine w_pure want_none (y_lss rfl rfl rfl rfl) rfl ?_
        refine w_nil ?_
        refine q_then (hK37 _ _ ?_)
        refine w_seq (fun K40 hK39 => ?_)
        refine w_cond rfl rfl (fun h41 => ?_) (fun h41 => ?_)
        ·
          try simp only [Bool.not_eq_true', Bool.not_eq_false', decide_eq_true_eq, decide_eq_false_iff_not, Int.not_lt, Int.not_le] at h41
          refine w_skip ?_
          refine q_then (hK39 _ _ ?_)
          refine w_seq (fun K43 hK42 => ?_)
          refine w_block ?_
          refine w_seq (fun K45 hK44 => ?_)
          have hi2 : i < p.farms.length := by omega
          have hi3 : i < l.length := by omega
          obtain ⟨bx, ox, rfl, hx⟩ := sl_farm ha hi2
          have hfo := hok.farm _ (List.getElem_mem hi2)
          have hfo2 := hfo
          unfold Farm.Ok at hfo2
          have hgd : l[i] = l.getD i 0 := by simp [List.getD, hi3]
          have hl2 := hl1 (l.getD i 0) (by rw [← hgd]; exact List.getElem_mem hi3)
          have hb := leastUpto_bound (fs := p.farms) (l := l) f0 (p.clo + q) i (by omega) (by omega) hok.farm
          rw [← hxx] at hb
          refine w_region ?_
          refine w_pure want_none (y_move (v := .int _ _) rfl rfl) rfl ?_
          refine w_pure want_none (y_indexS Try.underlying24 Try.sizeOf60 rfl rfl rfl rfl (i := _) rfl (by omega)) rfl ?_
          refine w_pure want_none (y_loadN (vs := [_, _, _, _, _, _]) Try.isAgg60 Try.sizeOf60 hs.tail.tail rfl rfl hx) rfl ?_
          refine w_alloc (cs := [_, _, _, _, _, _]) want_none Try.zeroValue60 rfl hs (fun b46 w47 hs48 => ?_)
          refine w_pure want_none (y_assign (v := .int _ _) rfl rfl) rfl ?_
          refine w_store (i := 0) (v := .agg #[.string _, .int _ _, .int _ _, .int _ _, .int _ _, .int _ _]) (vs := [_, _, _, _, _, _]) want_none Try.sizeOf60 rfl rfl rfl rfl rfl (by simp [Value.oneCell']) hs48 rfl (Nat.le_of_ble_eq_true rfl) (fun w49 hs50 => ?_)
          refine w_nil ?_
          refine q_then (hK44 _ _ ?_)
          refine w_seq (fun K52 hK51 => ?_)
          refine w_region ?_
          refine w_pure want_none (y_move (v := .int _ _) rfl rfl) rfl ?_
          refine w_pure want_none (y_fieldAddr (o := 1) (i := 1) Try.underlying60 rfl Try.sizeOf3 rfl rfl rfl) rfl ?_
          refine w_pure want_none (y_load1 Try.isAgg3 hs50 rfl rfl (ats_own (i := 0) (vs := [_]) rfl rfl)) rfl ?_
          refine w_pure want_none (y_sub rfl rfl rfl rfl (by omega) (by omega)) rfl ?_
          refine w_pure want_none (y_fieldAddr (o := 2) (i := 2) Try.underlying60 rfl Try.sizeOf3 rfl rfl rfl) rfl ?_
          refine w_pure want_none (y_load1 Try.isAgg3 hs50 rfl rfl (ats_own (i := 0) (vs := [_]) rfl rfl)) rfl ?_
          refine w_pure want_none (y_sub rfl rfl rfl rfl (by omega) (by omega)) rfl ?_
          refine w_pure want_none (y_min2 rfl rfl rfl rfl) rfl ?_
          refine w_pure want_none (y_assign (v := .int _ _) rfl rfl) rfl ?_
          refine w_nil ?_
          refine q_then (hK51 _ _ ?_)
          refine w_seq (fun K54 hK53 => ?_)
          refine w_region ?_
          refine w_pure want_none (y_move (v := .int _ _) rfl rfl) rfl ?_
          refine w_pure want_none (y_indexA Try.underlying83 Try.sizeOf3 rfl rfl rfl rfl (i := i) rfl (by omega)) rfl ?_
          refine w_pure want_none (y_load1 Try.isAgg3 hs50 rfl rfl (ats_ints (i := 2) (j := i) rfl (by first | omega | rfl | (simp only [List.length_map, List.length_set, List.length_append, List.length_take, List.length_drop, List.length_replicate, List.length_cons, List.length_nil] <;> omega)))) rfl ?_
          refine w_pure want_none (y_eql rfl rfl rfl rfl) rfl ?_
          refine w_pure want_none (y_move (v := .bool _) rfl rfl) rfl ?_
          refine w_split (fun h55 => ?_) (fun h55 => ?_)
          ·
            try simp only [Bool.not_eq_true', Bool.not_eq_false', decide_eq_true_eq, decide_eq_false_iff_not, Int.not_lt, Int.not_le] at h55
            refine w_pure (want_yes rfl rfl rfl) (y_move (v := .int _ _) rfl rfl) rfl ?_
            refine w_pure (want_yes rfl rfl rfl) (y_move (v := .int _ _) rfl rfl) rfl ?_
            refine w_pure (want_yes rfl rfl rfl) (y_geq rfl rfl rfl rfl) rfl ?_
            refine w_pure want_none (y_pickT (v := .bool _) rfl rfl rfl rfl) rfl ?_
            refine w_pure want_none (y_move (v := .bool _) rfl rfl) rfl ?_
            refine w_split (fun h56 => ?_) (fun h56 => ?_)
            ·
              try simp only [Bool.not_eq_true', Bool.not_eq_false', decide_eq_true_eq, decide_eq_false_iff_not, Int.not_lt, Int.not_le] at h56
              refine w_pure (want_yes rfl rfl rfl) (y_move (v := .pointer _) rfl rfl) rfl ?_
              refine w_pure (want_yes rfl rfl rfl) (y_move (v := .int _ _) rfl rfl) rfl ?_
              refine w_pure (want_yes rfl rfl rfl) (y_move (v := .int _ _) rfl rfl) rfl ?_
              refine w_pure (want_yes rfl rfl rfl) (y_move (v := .int _ _) rfl rfl) rfl ?_
              refine w_call (want_yes rfl rfl rfl) Try.call89 rfl rfl rfl rfl (c89 p _ c m pb hp.cons.cons.cons ha.cons.cons.cons hok i hi2 _ _ (by omega) (by omega) (by omega) (by omega) hs50) ?_
              rintro _ w58 ⟨rfl, hs59⟩
              refine w_pure want_none (y_pickT (v := .bool _) rfl rfl rfl rfl) rfl ?_
              refine w_nil ?_
              refine q_then (hK53 _ _ ?_)
              refine w_cond rfl rfl (fun h60 => ?_) (fun h60 => ?_)
              ·
                try simp only [Bool.not_eq_true', Bool.not_eq_false', decide_eq_true_eq, decide_eq_false_iff_not, Int.not_lt, Int.not_le] at h60
                refine w_region ?_
                refine w_pure want_none (y_fieldAddr (o := 0) (i := 0) Try.underlying89 rfl Try.sizeOf3 rfl rfl rfl) rfl ?_
                refine w_pure want_none (y_load1 Try.isAgg3 hs59 rfl rfl (ats_own (i := 1) (vs := [_]) rfl rfl)) rfl ?_
                refine w_pure want_none (y_fieldAddr (o := 4) (i := 4) Try.underlying60 rfl Try.sizeOf23 rfl rfl rfl) rfl ?_
                refine w_pure want_none (y_fieldAddr (o := 0) (i := 0) Try.underlying23 rfl Try.sizeOf3 rfl rfl rfl) rfl ?_
                refine w_pure want_none (y_load1 Try.isAgg3 hs59 rfl rfl (ats_own (i := 0) (vs := [_]) rfl rfl)) rfl ?_
                refine w_pure want_none (y_add rfl rfl rfl rfl (by omega) (by omega)) rfl ?_
                refine w_pure want_none (y_fieldAddr (o := 0) (i := 0) Try.underlying89 rfl Try.sizeOf3 rfl rfl rfl) rfl ?_
                refine w_store (i := 1) (v := .int _ _) (vs := [_]) want_none Try.sizeOf3 rfl rfl rfl rfl rfl (by simp [Value.oneCell']) hs59 rfl (Nat.le_of_ble_eq_true rfl) (fun w61 hs62 => ?_)
                refine w_nil ?_
                refine q_blk_normal ?_
                refine q_then (hK42 _ _ ?_)
                refine w_region ?_
                refine w_pure want_none (y_add rfl rfl rfl rfl (by omega) (by omega)) rfl ?_
                refine w_pure want_none (y_move (v := .int _ _) rfl rfl) rfl ?_
                refine w_nil ?_
                refine q_then (hN34 _ _ (Nx.intro (p.farms.length - (i + 1)) (by omega) (by repeat (first | exact agree_mix | refine agree_upd rfl ?_ | refine agree_updL rfl ?_ _ | refine agree_mixin rfl ?_)) ?_))
                first
                  | exact ⟨i + 1, x + p.farms[i].lo, (by rw [leastUpto_succ f0 _ hi2 hi3, ← hxx]; exact more_yes (by assumption) (by assumption) (by assumption)), rfl, by omega, rfl, hs62.tail⟩
                  | exact ⟨i + 1, x, (by rw [leastUpto_succ f0 _ hi2 hi3, ← hxx]; exact more_no (fun hh => by first | exact absurd hh.1 (by assumption) | (have := hh.2.1; omega) | (have h2 := hh.2.2; simp_all; done))), rfl, by omega, rfl, hs62.tail⟩
                  | exact ⟨i + 1, x, (by rw [leastUpto_succ f0 _ hi2 hi3, ← hxx]; exact more_no (fun hh => by rw [hh.2.2] at *; contradiction)), rfl, by omega, rfl, hs62.tail⟩
              ·
                try simp only [Bool.not_eq_true', Bool.not_eq_false', decide_eq_true_eq, decide_eq_false_iff_not, Int.not_lt, Int.not_le] at h60
                refine w_skip ?_
                refine q_blk_normal ?_
                refine q_then (hK42 _ _ ?_)
                refine w_region ?_
                refine w_pure want_none (y_add rfl rfl rfl rfl (by omega) (by omega)) rfl ?_
                refine w_pure want_none (y_move (v := .int _ _) rfl rfl) rfl ?_
                refine w_nil ?_
                refine q_then (hN34 _ _ (Nx.intro (p.farms.length - (i + 1)) (by omega) (by repeat (first | exact agree_mix | refine agree_upd rfl ?_ | refine agree_updL rfl ?_ _ | refine agree_mixin rfl ?_)) ?_))
                first
                  | exact ⟨i + 1, x + p.farms[i].lo, (by rw [leastUpto_succ f0 _ hi2 hi3, ← hxx]; exact more_yes (by assumption) (by assumption) (by assumption)), rfl, by omega, rfl, hs59.tail⟩
                  | exact ⟨i + 1, x, (by rw [leastUpto_succ f0 _ hi2 hi3, ← hxx]; exact more_no (fun hh => by first | exact absurd hh.1 (by assumption) | (have := hh.2.1; omega) | (have h2 := hh.2.2; simp_all; done))), rfl, by omega, rfl, hs59.tail⟩
                  | exact ⟨i + 1, x, (by rw [leastUpto_succ f0 _ hi2 hi3, ← hxx]; exact more_no (fun hh => by rw [hh.2.2] at *; contradiction)), rfl, by omega, rfl, hs59.tail⟩
            ·
              try simp only [Bool.not_eq_true', Bool.not_eq_false', decide_eq_true_eq, decide_eq_false_iff_not, Int.not_lt, Int.not_le] at h56
              refine w_skipop rfl rfl rfl ?_
              refine w_skipop rfl rfl rfl ?_
              refine w_skipop rfl rfl rfl ?_
              refine w_skipop rfl rfl rfl ?_
              refine w_skipop rfl rfl rfl ?_
              refine w_pure want_none (y_pickF (v := _) rfl rfl rfl rfl) rfl ?_
              refine w_nil ?_
              refine q_then (hK53 _ _ ?_)
              refine w_condF rfl rfl ?_
              refine w_skip ?_
              refine q_blk_normal ?_
              refine q_then (hK42 _ _ ?_)
              refine w_region ?_
              refine w_pure want_none (y_add rfl rfl rfl rfl (by omega) (by omega)) rfl ?_
              refine w_pure want_none (y_move (v := .int _ _) rfl rfl) rfl ?_
              refine w_nil ?_
              refine q_then (hN34 _ _ (Nx.intro (p.farms.length - (i + 1)) (by omega) (by repeat (first | exact agree_mix | refine agree_upd rfl ?_ | refine agree_updL rfl ?_ _ | refine agree_mixin rfl ?_)) ?_))
              first
                | exact ⟨i + 1, x + p.farms[i].lo, (by rw [leastUpto_succ f0 _ hi2 hi3, ← hxx]; exact more_yes (by assumption) (by assumption) (by assumption)), rfl, by omega, rfl, hs50.tail⟩
                | exact ⟨i + 1, x, (by rw [leastUpto_succ f0 _ hi2 hi3, ← hxx]; exact more_no (fun hh => by first | exact absurd hh.1 (by assumption) | (have := hh.2.1; omega) | (have h2 := hh.2.2; simp_all; done))), rfl, by omega, rfl, hs50.tail⟩
                | exact ⟨i + 1, x, (by rw [leastUpto_succ f0 _ hi2 hi3, ← hxx]; exact more_no (fun hh => by rw [hh.2.2] at *; contradiction)), rfl, by omega, rfl, hs50.tail⟩
          ·
            try simp only [Bool.not_eq_true', Bool.not_eq_false', decide_eq_true_eq, decide_eq_false_iff_not, Int.not_lt, Int.not_le] at h55
            refine w_skipop rfl rfl rfl ?_
            refine w_skipop rfl rfl rfl ?_
            refine w_skipop rfl rfl rfl ?_
            refine w_pure want_none (y_pickF (v := _) rfl rfl rfl rfl) rfl ?_
            refine w_pure want_none (y_move (v := .bool _) rfl rfl) rfl ?_
            refine w_skipop rfl rfl rfl ?_
            refine w_skipop rfl rfl rfl ?_
            refine w_skipop rfl rfl rfl ?_
            refine w_skipop rfl rfl rfl ?_
            refine w_skipop rfl rfl rfl ?_
            refine w_pure want_none (y_pickF (v := _) rfl rfl rfl rfl) rfl ?_
            refine w_nil ?_
            refine q_then (hK53 _ _ ?_)
            refine w_condF rfl rfl ?_
            refine w_skip ?_
            refine q_blk_normal ?_
            refine q_then (hK42 _ _ ?_)
            refine w_region ?_
            refine w_pure want_none (y_add rfl rfl rfl rfl (by omega) (by omega)) rfl ?_
            refine w_pure want_none (y_move (v := .int _ _) rfl rfl) rfl ?_
            refine w_nil ?_
            refine q_then (hN34 _ _ (Nx.intro (p.farms.length - (i + 1)) (by omega) (by repeat (first | exact agree_mix | refine agree_upd rfl ?_ | refine agree_updL rfl ?_ _ | refine agree_mixin rfl ?_)) ?_))
            first
              | exact ⟨i + 1, x + p.farms[i].lo, (by rw [leastUpto_succ f0 _ hi2 hi3, ← hxx]; exact more_yes (by assumption) (by assumption) (by assumption)), rfl, by omega, rfl, hs50.tail⟩
              | exact ⟨i + 1, x, (by rw [leastUpto_succ f0 _ hi2 hi3, ← hxx]; exact more_no (fun hh => by first | exact absurd hh.1 (by assumption) | (have := hh.2.1; omega) | (have h2 := hh.2.2; simp_all; done))), rfl, by omega, rfl, hs50.tail⟩
              | exact ⟨i + 1, x, (by rw [leastUpto_succ f0 _ hi2 hi3, ← hxx]; exact more_no (fun hh => by rw [hh.2.2] at *; contradiction)), rfl, by omega, rfl, hs50.tail⟩
        ·
          try simp only [Bool.not_eq_true', Bool.not_eq_false', decide_eq_true_eq, decide_eq_false_iff_not, Int.not_lt, Int.not_le] at h41
          refine w_exit ?_
          refine q_then_exit ?_
          refine q_then_exit ?_
          refine q_blk_this ?_
          refine q_then (hK30 _ _ ?_)
          refine w_seq (fun K64 hK63 => ?_)
          refine w_seq (fun K66 hK65 => ?_)
          refine w_draw [] [(0, 0), (1, 1), (2, 0), (3, 0), (4, 0), (5, 0), (6, 1), (7, 0)] Try_mo (by kernel_rfl) hs (fun w67 hs68 => ?_)
          refine d_any rfl want_none rfl (fun _ => (y_fieldAddr (o := 0) (i := 0) Try.underlying89 rfl Try.sizeOf3 rfl rfl rfl)) ?_
          refine d_take rfl want_none rfl hs68 (fun _ hq => (y_load1 Try.isAgg3 hq rfl rfl (ats_own (i := 0) (vs := [_]) rfl rfl))) ?_
          refine d_any rfl want_none rfl (fun _ => (y_move (v := .pointer _) rfl rfl)) ?_
          refine d_any rfl want_none rfl (fun _ => (y_nilCheck rfl rfl)) ?_
          refine d_any rfl want_none rfl (fun _ => (y_fieldAddr (o := 0) (i := 0) Try.underlying119 rfl Try.sizeOf26 rfl rfl rfl)) ?_
          refine d_any rfl want_none rfl (fun _ => (y_fieldAddr (o := 0) (i := 0) Try.underlying26 rfl Try.sizeOf3 rfl rfl rfl)) ?_
          refine d_take rfl want_none rfl hs68 (fun _ hq => (y_load1 Try.isAgg3 hq.tail.tail rfl rfl (show Ats _ _ _ _ [_] from Ats.part hp 0 1))) ?_
          refine d_any rfl want_none rfl (fun _ => (y_lss rfl rfl rfl rfl)) ?_
          refine d_nil ?_
          refine q_then (hK65 _ _ ?_)
          refine w_cond rfl rfl (fun h69 => ?_) (fun h69 => ?_)
          ·
            try simp only [Bool.not_eq_true', Bool.not_eq_false', decide_eq_true_eq, decide_eq_false_iff_not, Int.not_lt, Int.not_le] at h69
            refine w_seq (fun K71 hK70 => ?_)
            refine w_region ?_
            refine w_pure want_none (y_assign (v := _) rfl rfl) rfl ?_
            refine w_nil ?_
            refine q_then (hK70 _ _ ?_)
            refine w_ret ?_
            refine q_then_ret ?_
            refine q_blk_ret ?_
            refine q_then_ret ?_
            refine q_then_ret ?_
            refine q_blk_ret ?_
            refine q_then_ret ?_
            refine q_ret (l := [.tmp 6]) (vs := [_]) rfl ⟨⟨rfl, show _ = (.int _ _ : Value) from rfl⟩, trivial⟩ ?_
            first
              | exact ⟨congrArg (Value.int .i64) (by unfold worst; rw [← fullTUpto_all l f0 (i := q) (by omega), hfu, if_pos rfl]; exact vainUpto_all l (by omega)), hs68.tail.tail⟩
              | exact ⟨congrArg (Value.int .i64) (by unfold worst; rw [if_neg]; rw [fullT_false l f0 (i := q + 1) (by rw [fullTUpto_succ l f0 (by omega), hfu, ← leastUpto_all (i := i) f0 _ (by omega), ← hxx]; simpa using ‹_›)]; simp), hs68.tail.tail⟩
          ·
            try simp only [Bool.not_eq_true', Bool.not_eq_false', decide_eq_true_eq, decide_eq_false_iff_not, Int.not_lt, Int.not_le] at h69
            refine w_skip ?_
            refine q_then (hK63 _ _ ?_)
            refine w_region ?_
            refine w_pure want_none (y_move (v := .int _ _) rfl rfl) rfl ?_
            refine w_pure want_none (y_fieldAddr (o := 2) (i := 2) Try.underlying89 rfl Try.sizeOf3 rfl rfl rfl) rfl ?_
            refine w_pure want_none (y_load1 Try.isAgg3 hs68 rfl rfl (ats_own (i := 0) (vs := [_]) rfl rfl)) rfl ?_
            refine w_pure want_none (y_max2 rfl rfl rfl rfl) rfl ?_
            refine w_pure want_none (y_assign (v := .int _ _) rfl rfl) rfl ?_
            refine w_nil ?_
            refine q_blk_normal ?_
            refine q_then (hK18 _ _ ?_)
            refine w_region ?_
            refine w_pure want_none (y_move (v := .int _ _) rfl rfl) rfl ?_
            refine w_pure want_none (y_add rfl rfl rfl rfl (by omega) (by omega)) rfl ?_
            refine w_pure want_none (y_assign (v := .int _ _) rfl rfl) rfl ?_
            refine w_nil ?_
            refine q_then (hN10 _ _ (Nx.intro ((p.chi - p.clo + 1 - (q + 1 : Nat)).toNat) (by omega) (by repeat (first | exact agree_mix | refine agree_upd rfl ?_ | refine agree_updL rfl ?_ _ | refine agree_mixin rfl ?_)) ?_))
            exact ⟨q + 1, iv2 (vainUpto_succ l (by omega)).symm (by omega), by omega, rfl, (by rw [fullTUpto_succ l f0 (by omega), hfu, ← leastUpto_all (i := i) f0 _ (by omega), ← hxx]; simpa using ‹_›), hs68.tail⟩
    ·
      try simp only [Bool.not_eq_true', Bool.not_eq_false', decide_eq_true_eq, decide_eq_false_iff_not, Int.not_lt, Int.not_le] at h17
      refine w_exit ?_
      refine q_then_exit ?_
      refine q_then_exit ?_
      refine q_blk_this ?_
      refine q_then (hK6 _ _ ?_)
      refine w_seq (fun K73 hK72 => ?_)
      refine w_region ?_
      refine w_pure want_none (y_move (v := .int _ _) rfl rfl) rfl ?_
      refine w_pure want_none (y_assign (v := .int _ _) rfl rfl) rfl ?_
      refine w_nil ?_
      refine q_then (hK72 _ _ ?_)
      refine w_ret ?_
      refine q_ret (l := [.tmp 6]) (vs := [_]) rfl ⟨⟨rfl, show _ = (.int _ _ : Value) from rfl⟩, trivial⟩ ?_
      first
        | exact ⟨congrArg (Value.int .i64) (by unfold worst; rw [← fullTUpto_all l f0 (i := q) (by omega), hfu, if_pos rfl]; exact vainUpto_all l (by omega)), hs.tail⟩
        | exact ⟨congrArg (Value.int .i64) (by unfold worst; rw [if_neg]; rw [fullT_false l f0 (i := q + 1) (by rw [fullTUpto_succ l f0 (by omega), hfu, ← leastUpto_all (i := i) f0 _ (by omega), ← hxx]; simpa using ‹_›)]; simp), hs.tail⟩

end Go.Proofs
