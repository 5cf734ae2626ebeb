/- Walks of this seat, printed by gen.py over the engine: what each function returns, in whatever world. No conditions but those of each contract. -/
import Derived.Test.YtbnnmjfjibneaaaE
import Derived.Test.YtbnnmjfjibneaaaSSpec4
set_option linter.unusedVariables false
set_option linter.unusedSimpArgs false
set_option maxRecDepth 20000
namespace Go.Proofs
open Go.Rt Go.Rt.Sh
attribute [local irreducible] WL WC Con Yd At Ats Sl Agree DW

theorem key93_cov : ∀ l m : List Int, l.length = 8 → m.length = 8 → (decide ((l.drop 0).take 3 = (m.drop 0).take 3) && (decide ((l.drop 3).take 4 = (m.drop 3).take 4) && (decide ((l.drop 7).take 1 = (m.drop 7).take 1) && true))) = decide (l = m) := by
  intro l m hl hm
  match l, hl with
  | [a, b, c, d, e, f, g, h], _ =>
    match m, hm with
    | [a', b', c', d', e', f', g', h'], _ =>
      rw [Bool.eq_iff_iff]
      simp
      constructor
      · rintro ⟨⟨_, _, _⟩, ⟨_, _, _, _⟩, _⟩; simp [*]
      · rintro ⟨_, _, _, _, _, _, _, _⟩; simp [*]
theorem key_zip {P : Program} {t k : Nat} {fs : Array Field} (ks : List Nat) (hu : P.underlying t = some (.struct fs)) (hp : P.stoodInHeld t = false) (h1 : fs.toList = (fs.toList.zip ks).map Prod.fst) (h2 : ∀ q ∈ fs.toList.zip ks, FF P q.1 q.2 ∧ q.1.offset + q.2 ≤ k)
    (h3 : ∀ q ∈ fs.toList.zip ks, P.underlying q.1.type = some (.int .i64) ∨ ∃ el, P.underlying q.1.type = some (.array q.2 el) ∧ P.underlying el = some (.int .i64) ∧ ∀ w, (sizeOf el).run P w = .ok 1 w)
    (h4 : ∀ l m : List Int, l.length = k → m.length = k → ((fs.toList.zip ks).all fun q => decide ((l.drop q.1.offset).take q.2 = (m.drop q.1.offset).take q.2)) = decide (l = m)) : KeyTy P t k := keyTy_struct _ hu hp h1 h2 h3 h4
theorem key93 : KeyTy Try.prog 93 8 := by
  refine key_zip [3, 4, 1] Try.underlying93 (by kernel_rfl) rfl ?_ ?_ ?_
  · intro q hq
    simp only [List.zip_cons_cons, List.zip_nil_right, List.mem_cons, List.not_mem_nil, or_false] at hq
    rcases hq with rfl | rfl | rfl
    · exact ⟨⟨by decide, .inr ⟨by kernel_rfl, Try.isAgg90, Try.sizeOf90⟩⟩, by decide⟩
    · exact ⟨⟨by decide, .inr ⟨by kernel_rfl, Try.isAgg91, Try.sizeOf91⟩⟩, by decide⟩
    · exact ⟨⟨by decide, .inl ⟨Try.underlying3, rfl⟩⟩, by decide⟩
  · intro q hq
    simp only [List.zip_cons_cons, List.zip_nil_right, List.mem_cons, List.not_mem_nil, or_false] at hq
    rcases hq with rfl | rfl | rfl
    · exact .inr ⟨3, Try.underlying90, Try.underlying3, Try.sizeOf3⟩
    · exact .inr ⟨3, Try.underlying91, Try.underlying3, Try.sizeOf3⟩
    · exact .inl Try.underlying3
  · exact key93_cov

theorem bit_zero_of {b j : Nat} (h : ((bit b j : Nat) : Int) = 0) : bit b j = 0 := by omega
theorem iv1 {a b : Int} (h : a = b) : [Value.int .i64 a] = [Value.int .i64 b] := by rw [h]
theorem c89f {w0 w : World} {F : List (Nat × Obj)} (m : Market) (p : At3) (mb mm : Nat) (hk : MK w0 F m p mb mm)  (x : List Int) (hx : Small x) (es : Array MapEntry) (ck : Nat) (j : Nat) (y : List Int) (hy : y.length = 16) (hf : ∀ w, (Instr.findKey 93 (ia x) es.toList).run Try.prog w = .ok (some (j, ia y)) w) (hs : St w0 w ((mm, .map es ck) :: F)) :
  Con Try.prog 89 [.pointer (some ⟨mb, 0, none⟩), ia x] w fun v w' => v = ia y ∧ St w0 w' ((mm, .map es ck) :: F) := by
  refine con_of_wc (n := 113) Try.func89 rfl rfl (Nat.le_of_ble_eq_true rfl) ?_
  have hb := hk.b
  refine w_seq (fun K2 hK1 => ?_)
  refine w_region ?_
  refine w_boxI (l := _) want_none rfl rfl rfl hs (fun b3 w4 hs5 => ?_)
  refine w_alloc (cs := iv [0, 0, 0, 0, 0, 0, 0, 0, 0, 0, 0, 0, 0, 0, 0, 0]) want_none Try.zeroValue123 rfl hs5 (fun b6 w7 hs8 => ?_)
  refine w_nil ?_
  refine q_then (hK1 _ _ ?_)
  refine w_seq (fun K10 hK9 => ?_)
  refine w_seq (fun K12 hK11 => ?_)
  refine w_draw [10] [(0, 0), (1, 0), (2, 0), (3, 1), (4, 1), (5, 1), (6, 0), (7, 0), (8, 0), (9, 2), (10, 3), (11, 0)] Try_mo (by kernel_rfl) hs8 (fun w13 hs14 => ?_)
  refine d_any rfl want_none rfl (fun _ => (y_move (v := .pointer _) rfl rfl)) ?_
  refine d_any rfl want_none rfl (fun _ => (y_nilCheck rfl rfl)) ?_
  refine d_any rfl want_none rfl (fun _ => (y_fieldAddr (o := 3) (i := 1) Try.underlying122 rfl Try.sizeOf120 rfl rfl rfl)) ?_
  refine d_take rfl want_none rfl hs14 (fun _ hq => (y_load1 Try.isAgg120 hq.tail.tail.tail rfl rfl (show Ats _ _ _ _ [_] from Ats.part hb 3 1))) ?_
  refine d_take rfl want_none rfl hs14 (fun _ hq => (y_loadI (i := 1) Try.isAgg93 Try.sizeOf93 (by first | omega | rfl | (simp only [hx.1, hy, List.length_map, List.length_set, List.length_append, List.length_take, List.length_drop, List.length_replicate, List.length_cons, List.length_nil] <;> omega)) hq rfl rfl rfl)) ?_
  refine d_take rfl want_none rfl hs14 (fun _ hq => (K_lookupS (i := 2) (l := x) Try.underlying120 key93 hx.1 hq rfl rfl rfl rfl rfl rfl hf)) ?_
  refine d_any rfl want_none rfl (fun _ => (y_move (v := .tuple _) rfl rfl)) ?_
  refine d_any rfl want_none rfl (fun _ => (y_extract (v := (ia _)) rfl rfl rfl)) ?_
  refine d_any rfl want_none rfl (fun _ => (y_extract (v := .bool _) rfl rfl rfl)) ?_
  refine d_eff rfl ?_
  refine w_alloc (cs := iv [0, 0, 0, 0, 0, 0, 0, 0, 0, 0, 0, 0, 0, 0, 0, 0]) want_none Try.zeroValue123 rfl hs14 (fun b15 w16 hs17 => ?_)
  refine w_nil ?_
  refine qn ⟨hs17.tail, ?_⟩
  refine d_late rfl ?_
  refine w_storeI (i := 0) (l := _) want_none Try.sizeOf123 (by first | omega | rfl | (simp only [hx.1, hy, List.length_map, List.length_set, List.length_append, List.length_take, List.length_drop, List.length_replicate, List.length_cons, List.length_nil] <;> omega)) rfl rfl rfl rfl rfl hs17 rfl (by first | omega | rfl | (simp only [hx.1, hy, List.length_map, List.length_set, List.length_append, List.length_take, List.length_drop, List.length_replicate, List.length_cons, List.length_nil] <;> omega)) (fun w18 hs19 => ?_)
  refine w_nil ?_
  refine qn ?_
  refine d_any rfl want_none rfl (fun _ => (y_assign (v := .bool _) rfl rfl)) ?_
  refine d_nil ?_
  refine q_then (hK11 _ _ ?_)
  refine w_seq (fun K21 hK20 => ?_)
  refine w_region ?_
  refine w_pure want_none (y_move (v := .bool _) rfl rfl) rfl ?_
  refine w_nil ?_
  refine q_then (hK20 _ _ ?_)
  refine w_condT rfl rfl ?_
  refine w_seq (fun K23 hK22 => ?_)
  refine w_region ?_
  refine w_pure want_none (y_loadI (i := 0) Try.isAgg123 Try.sizeOf123 (by first | omega | rfl | (simp only [hx.1, hy, List.length_map, List.length_set, List.length_append, List.length_take, List.length_drop, List.length_replicate, List.length_cons, List.length_nil] <;> omega)) hs19 rfl rfl rfl) rfl ?_
  refine w_storeI (i := 1) (l := _) want_none Try.sizeOf123 (by first | omega | rfl | (simp only [hx.1, hy, List.length_map, List.length_set, List.length_append, List.length_take, List.length_drop, List.length_replicate, List.length_cons, List.length_nil] <;> omega)) rfl rfl rfl rfl rfl hs19 rfl (by first | omega | rfl | (simp only [hx.1, hy, List.length_map, List.length_set, List.length_append, List.length_take, List.length_drop, List.length_replicate, List.length_cons, List.length_nil] <;> omega)) (fun w24 hs25 => ?_)
  refine w_nil ?_
  refine q_then (hK22 _ _ ?_)
  refine w_ret ?_
  refine q_then_ret ?_
  refine q_ret (l := [.cell 4 123]) (vs := [_]) rfl ⟨⟨rfl, _, rfl, run_loadI (i := 1) Try.isAgg123 Try.sizeOf123 (by first | omega | rfl | (simp only [hx.1, hy, List.length_map, List.length_set, List.length_append, List.length_take, List.length_drop, List.length_replicate, List.length_cons, List.length_nil] <;> omega)) hs25 rfl⟩, trivial⟩ ?_
  exact ⟨rfl, hs25.tail.tail.tail⟩

theorem c89n {w0 w : World} {F : List (Nat × Obj)} (m : Market) (p : At3) (mb mm : Nat) (hk : MK w0 F m p mb mm)  (x : List Int) (hx : Small x) (es : Array MapEntry) (ck : Nat) (hf : ∀ w, (Instr.findKey 93 (ia x) es.toList).run Try.prog w = .ok none w) (hs : St w0 w ((mm, .map es ck) :: F)) :
  Con Try.prog 89 [.pointer (some ⟨mb, 0, none⟩), ia x] w fun v w' => v = ia (lacksV m x) ∧ St w0 w' ((mm, .map (es.push { key := ia x, val := ia (lacksV m x), born := ck }) (ck + 1)) :: F) := by
  refine con_of_wc (n := 113) Try.func89 rfl rfl (Nat.le_of_ble_eq_true rfl) ?_
  obtain ⟨ar, cr, as_, cs, at_, ct⟩ := p
  have hb := hk.b
  have hlr := hk.ok.lr
  have hls := hk.ok.ls
  have hlt := hk.ok.lt
  refine w_seq (fun K2 hK1 => ?_)
  refine w_region ?_
  refine w_boxI (l := _) want_none rfl rfl rfl hs (fun b3 w4 hs5 => ?_)
  refine w_alloc (cs := iv [0, 0, 0, 0, 0, 0, 0, 0, 0, 0, 0, 0, 0, 0, 0, 0]) want_none Try.zeroValue123 rfl hs5 (fun b6 w7 hs8 => ?_)
  refine w_nil ?_
  refine q_then (hK1 _ _ ?_)
  refine w_seq (fun K10 hK9 => ?_)
  refine w_seq (fun K12 hK11 => ?_)
  refine w_draw [10] [(0, 0), (1, 0), (2, 0), (3, 1), (4, 1), (5, 1), (6, 0), (7, 0), (8, 0), (9, 2), (10, 3), (11, 0)] Try_mo (by kernel_rfl) hs8 (fun w13 hs14 => ?_)
  refine d_any rfl want_none rfl (fun _ => (y_move (v := .pointer _) rfl rfl)) ?_
  refine d_any rfl want_none rfl (fun _ => (y_nilCheck rfl rfl)) ?_
  refine d_any rfl want_none rfl (fun _ => (y_fieldAddr (o := 3) (i := 1) Try.underlying122 rfl Try.sizeOf120 rfl rfl rfl)) ?_
  refine d_take rfl want_none rfl hs14 (fun _ hq => (y_load1 Try.isAgg120 hq.tail.tail.tail rfl rfl (show Ats _ _ _ _ [_] from Ats.part hb 3 1))) ?_
  refine d_take rfl want_none rfl hs14 (fun _ hq => (y_loadI (i := 1) Try.isAgg93 Try.sizeOf93 (by first | omega | rfl | (simp only [hx.1, lacksTo_len, lacksV_len, capsU_len, List.length_map, List.length_set, List.length_append, List.length_take, List.length_drop, List.length_replicate, List.length_cons, List.length_nil] <;> omega)) hq rfl rfl rfl)) ?_
  refine d_take rfl want_none rfl hs14 (fun _ hq => (K_lookupN (i := 2) (l := x) Try.underlying120 key93 hx.1 (show ∀ w, (zeroValue 123).run Try.prog w = .ok (ia (List.replicate 16 0)) w from Try.zeroValue123) hq rfl rfl rfl rfl rfl rfl hf)) ?_
  refine d_any rfl want_none rfl (fun _ => (y_move (v := .tuple _) rfl rfl)) ?_
  refine d_any rfl want_none rfl (fun _ => (y_extract (v := (ia _)) rfl rfl rfl)) ?_
  refine d_any rfl want_none rfl (fun _ => (y_extract (v := .bool _) rfl rfl rfl)) ?_
  refine d_eff rfl ?_
  refine w_alloc (cs := iv [0, 0, 0, 0, 0, 0, 0, 0, 0, 0, 0, 0, 0, 0, 0, 0]) want_none Try.zeroValue123 rfl hs14 (fun b15 w16 hs17 => ?_)
  refine w_nil ?_
  refine qn ⟨hs17.tail, ?_⟩
  refine d_late rfl ?_
  refine w_storeI (i := 0) (l := _) want_none Try.sizeOf123 (by first | omega | rfl | (simp only [hx.1, lacksTo_len, lacksV_len, capsU_len, List.length_map, List.length_set, List.length_append, List.length_take, List.length_drop, List.length_replicate, List.length_cons, List.length_nil] <;> omega)) rfl rfl rfl rfl rfl hs17 rfl (by first | omega | rfl | (simp only [hx.1, lacksTo_len, lacksV_len, capsU_len, List.length_map, List.length_set, List.length_append, List.length_take, List.length_drop, List.length_replicate, List.length_cons, List.length_nil] <;> omega)) (fun w18 hs19 => ?_)
  refine w_nil ?_
  refine qn ?_
  refine d_any rfl want_none rfl (fun _ => (y_assign (v := .bool _) rfl rfl)) ?_
  refine d_nil ?_
  refine q_then (hK11 _ _ ?_)
  refine w_seq (fun K21 hK20 => ?_)
  refine w_region ?_
  refine w_pure want_none (y_move (v := .bool _) rfl rfl) rfl ?_
  refine w_nil ?_
  refine q_then (hK20 _ _ ?_)
  refine w_condF rfl rfl ?_
  refine w_skip ?_
  refine q_then (hK9 _ _ ?_)
  refine w_seq (fun K23 hK22 => ?_)
  refine w_region ?_
  refine w_pure want_none (y_move (v := .pointer _) rfl rfl) rfl ?_
  refine w_pure want_none (y_makeFunc (fv := [_]) (cv := []) rfl rfl rfl rfl) rfl ?_
  refine w_pure want_none (y_assign (v := .func _ _ _) rfl rfl) rfl ?_
  refine w_nil ?_
  refine q_then (hK22 _ _ ?_)
  refine w_seq (fun K25 hK24 => ?_)
  refine w_seq (fun K27 hK26 => ?_)
  refine w_region ?_
  refine w_pure want_none (y_move (v := _) rfl rfl) rfl ?_
  refine w_nil ?_
  refine q_then (hK26 _ _ ?_)
  refine w_block ?_
  refine w_loop [8, 9, 10, 11, 12, 13, 14, 15, 29, 30, 31, 32, 33, 34, 35, 36, 37, 38, 39, 40, 41, 42, 43, 44, 45, 46, 47, 48, 49, 50, 51, 52, 53, 54, 55, 56, 57, 58, 59, 60, 61, 62, 63, 64, 65, 66, 67, 68, 69, 70, 71, 72, 73, 74, 75, 76, 77, 78, 79, 80, 81, 82, 83, 84, 85, 86, 87, 88, 89, 90, 91, 92, 93, 94, 95, 96, 97, 98, 99, 100, 101, 102, 103, 104, 105] [29] (fun k vs w => ∃ b : Nat, vs = [.int .i64 b] ∧ b ≤ 16 ∧ k = 16 - b ∧ St w0 w ((b15, blk 123 (iv (List.replicate 16 0))) :: (b6, blk 123 (iv (lacksTo m x b))) :: (b3, blk 93 (iv x)) :: (mm, .map es ck) :: F)) (16) ?_ ?_
  ·
    exact ⟨0, rfl, by omega, by omega, by rw [lacksTo_zero]; exact hs19⟩
  ·
    intro k vs μ w30 hI K29 hN28
    obtain ⟨b, rfl, hba, rfl, hs⟩ := hI
    refine w_seq (fun K32 hK31 => ?_)
    refine w_region ?_
    refine w_pure want_none (y_lss rfl rfl rfl rfl) rfl ?_
    refine w_nil ?_
    refine q_then (hK31 _ _ ?_)
    refine w_seq (fun K34 hK33 => ?_)
    refine w_cond rfl rfl (fun h35 => ?_) (fun h35 => ?_)
    ·
      try simp only [Bool.not_eq_true', Bool.not_eq_false', decide_eq_true_eq, decide_eq_false_iff_not, Int.not_lt, Int.not_le] at h35
      refine w_skip ?_
      refine q_then (hK33 _ _ ?_)
      refine w_seq (fun K37 hK36 => ?_)
      refine w_block ?_
      refine w_seq (fun K39 hK38 => ?_)
      have hb16 : b < 16 := by omega
      refine w_region ?_
      refine w_pure want_none (y_move (v := .int _ _) rfl rfl) rfl ?_
      refine w_pure want_none (y_assign (v := .int _ _) rfl rfl) rfl ?_
      refine w_nil ?_
      refine q_then (hK38 _ _ ?_)
      refine w_scope ?_
      refine w_seq (fun K41 hK40 => ?_)
      refine w_region ?_
      refine w_alloc (cs := iv [0, 0, 0]) want_none Try.zeroValue90 rfl hs (fun b42 w43 hs44 => ?_)
      refine w_nil ?_
      refine q_then (hK40 _ _ ?_)
      refine w_seq (fun K46 hK45 => ?_)
      refine w_label ?_
      refine q_then (hK45 _ _ ?_)
      refine w_seq (fun K48 hK47 => ?_)
      refine w_seq (fun K50 hK49 => ?_)
      refine w_region ?_
      refine w_pure want_none (y_move (v := .pointer _) rfl rfl) rfl ?_
      refine w_pure want_none (y_nilCheck rfl rfl) rfl ?_
      refine w_pure want_none (y_fieldAddr (o := 0) (i := 0) Try.underlying122 rfl Try.sizeOf26 rfl rfl rfl) rfl ?_
      refine w_pure want_none (y_fieldAddr (o := 2) (i := 2) Try.underlying26 rfl Try.sizeOf24 rfl rfl rfl) rfl ?_
      refine w_pure want_none (y_load1 Try.isAgg24 hs44.tail.tail.tail.tail.tail rfl rfl (show Ats _ _ _ _ [_] from Ats.part hb 2 1)) rfl ?_
      refine w_pure want_none (y_lenS Try.underlying24 rfl rfl) rfl ?_
      refine w_pure want_none (y_move (v := _) rfl rfl) rfl ?_
      refine w_nil ?_
      refine q_then (hK49 _ _ ?_)
      refine w_block ?_
      refine w_loop [10, 11, 38, 39, 40, 41, 42, 43, 44, 45, 46, 47, 48, 49, 50, 51, 52, 53, 54, 55, 56, 57, 58, 59, 60, 61, 62, 63, 64, 65, 66, 67, 68, 69] [38] (fun k vs w => ∃ i : Nat, vs = [.int .i64 i] ∧ i ≤ m.trains.length ∧ k = m.trains.length - i ∧ St w0 w ((b42, blk 90 (iv (capsU m (x.getD 7 0) b i))) :: (b15, blk 123 (iv (List.replicate 16 0))) :: (b6, blk 123 (iv (lacksTo m x b))) :: (b3, blk 93 (iv x)) :: (mm, .map es ck) :: F)) (m.trains.length) ?_ ?_
      ·
        exact ⟨0, rfl, by omega, by omega, hs44⟩
      ·
        intro k vs μ w53 hI K52 hN51
        obtain ⟨i, rfl, hia, rfl, hs⟩ := hI
        refine w_seq (fun K55 hK54 => ?_)
        refine w_region ?_
        refine w_pure want_none (y_lss rfl rfl rfl rfl) rfl ?_
        refine w_nil ?_
        refine q_then (hK54 _ _ ?_)
        refine w_seq (fun K57 hK56 => ?_)
        refine w_cond rfl rfl (fun h58 => ?_) (fun h58 => ?_)
        ·
          try simp only [Bool.not_eq_true', Bool.not_eq_false', decide_eq_true_eq, decide_eq_false_iff_not, Int.not_lt, Int.not_le] at h58
          refine w_skip ?_
          refine q_then (hK56 _ _ ?_)
          refine w_seq (fun K60 hK59 => ?_)
          refine w_block ?_
          refine w_seq (fun K62 hK61 => ?_)
          have hi2 : i < m.trains.length := by omega
          obtain ⟨bt, ot, hbt, hxt⟩ := sl_trows hk.i.t hi2
          subst hbt
          have ht := hk.ok.train _ (List.getElem_mem hi2)
          have hcb := caps_get_bound hk.ok (x.getD 7 0) b i (m.trains[i]'hi2).room.toNat (by omega)
          refine w_region ?_
          refine w_pure want_none (y_move (v := .int _ _) rfl rfl) rfl ?_
          refine w_pure want_none (y_indexS Try.underlying24 Try.sizeOf63 rfl rfl rfl rfl (i := _) rfl (by omega)) rfl ?_
          refine w_pure want_none (y_loadN (vs := [_, _, _, _]) Try.isAgg63 Try.sizeOf63 hs.tail.tail.tail.tail.tail rfl rfl hxt) rfl ?_
          refine w_alloc (cs := [_, _, _, _]) want_none Try.zeroValue63 rfl hs (fun b63 w64 hs65 => ?_)
          refine w_pure want_none (y_assign (v := .int _ _) rfl rfl) rfl ?_
          refine w_store (i := 0) (v := .agg #[.int _ _, .int _ _, .int _ _, .int _ _]) (vs := [_, _, _, _]) want_none Try.sizeOf63 rfl rfl rfl rfl rfl (by simp [Value.oneCell']) hs65 rfl (Nat.le_of_ble_eq_true rfl) (fun w66 hs67 => ?_)
          refine w_nil ?_
          refine q_then (hK61 _ _ ?_)
          refine w_seq (fun K69 hK68 => ?_)
          refine w_seq (fun K71 hK70 => ?_)
          refine w_region ?_
          refine w_pure want_none (y_move (v := .int _ _) rfl rfl) rfl ?_
          refine w_pure want_none (y_fieldAddr (o := 7) (i := 2) Try.underlying93 rfl Try.sizeOf3 rfl rfl rfl) rfl ?_
          refine w_pure want_none (y_load1 Try.isAgg3 hs67 rfl rfl (ats_intsC (i := 4) (o := 7) rfl (by first | omega | rfl | (simp only [hx.1, lacksTo_len, lacksV_len, capsU_len, List.length_map, List.length_set, List.length_append, List.length_take, List.length_drop, List.length_replicate, List.length_cons, List.length_nil] <;> omega)))) rfl ?_
          refine w_pure want_none (y_lss rfl rfl rfl rfl) rfl ?_
          refine w_pure want_none (y_move (v := .bool _) rfl rfl) rfl ?_
          refine w_split (fun h72 => ?_) (fun h72 => ?_)
          ·
            try simp only [Bool.not_eq_true', Bool.not_eq_false', decide_eq_true_eq, decide_eq_false_iff_not, Int.not_lt, Int.not_le] at h72
            refine w_skipop rfl rfl rfl ?_
            refine w_skipop rfl rfl rfl ?_
            refine w_skipop rfl rfl rfl ?_
            refine w_skipop rfl rfl rfl ?_
            refine w_skipop rfl rfl rfl ?_
            refine w_skipop rfl rfl rfl ?_
            refine w_pure want_none (y_pickT (v := _) rfl rfl rfl rfl) rfl ?_
            refine w_pure want_none (y_move (v := .bool _) rfl rfl) rfl ?_
            refine w_skipop rfl rfl rfl ?_
            refine w_skipop rfl rfl rfl ?_
            refine w_skipop rfl rfl rfl ?_
            refine w_skipop rfl rfl rfl ?_
            refine w_pure want_none (y_pickT (v := _) rfl rfl rfl rfl) rfl ?_
            refine w_nil ?_
            refine q_then (hK70 _ _ ?_)
            refine w_condT rfl rfl ?_
            refine w_exit ?_
            refine q_then_exit ?_
            refine q_blk_this ?_
            refine q_then (hK59 _ _ ?_)
            refine w_region ?_
            refine w_pure want_none (y_add rfl rfl rfl rfl (by omega) (by omega)) rfl ?_
            refine w_pure want_none (y_move (v := .int _ _) rfl rfl) rfl ?_
            refine w_nil ?_
            refine q_then (hN51 _ _ (Nx.intro (m.trains.length - (i + 1)) (by omega) (by repeat (first | exact agree_mix | refine agree_upd rfl ?_ | refine agree_updL rfl ?_ _ | refine agree_mixin rfl ?_)) ?_))
            first
              | exact ⟨i + 1, rfl, by omega, rfl, by rw [capsU_skip hi2 (by first | exact .inl (by omega) | exact .inr (.inl (bit_zero_of (by assumption))) | exact .inr (.inr (by assumption)))]; exact hs67.tail⟩
              | exact ⟨i + 1, rfl, by omega, rfl, by rw [capsU_add hi2 (fun h => by rcases h with h | h | h; omega; omega; simp_all)]; exact hs67.tail⟩
          ·
            try simp only [Bool.not_eq_true', Bool.not_eq_false', decide_eq_true_eq, decide_eq_false_iff_not, Int.not_lt, Int.not_le] at h72
            refine w_pure (want_yes rfl rfl rfl) (y_move (v := .int _ _) rfl rfl) rfl ?_
            refine w_pure (want_yes rfl rfl rfl) (y_fieldAddr (o := 1) (i := 1) Try.underlying63 rfl Try.sizeOf3 rfl rfl rfl) rfl ?_
            refine w_pure (want_yes rfl rfl rfl) (y_load1 Try.isAgg3 hs67 rfl rfl (ats_own (i := 0) (vs := [_]) rfl rfl)) rfl ?_
            refine w_pure (want_yes rfl rfl rfl) (y_shr (x := _) (y := (m.trains[i]'hi2).shop.toNat) rfl rfl rfl rfl rfl (by first | rfl | omega) (by first | omega | exact shr_lt (by omega))) rfl ?_
            refine w_pure (want_yes rfl rfl rfl) (show Yd _ _ _ _ (.int .i64 ((bit b (m.trains[i]'hi2).shop.toNat : Nat) : Int)) from (y_and (x := _) (y := 1) rfl rfl rfl rfl rfl rfl (by first | omega | exact shr_lt (by omega)) (by first | omega | exact shr_lt (by omega)))) rfl ?_
            refine w_pure (want_yes rfl rfl rfl) (y_eql rfl rfl rfl rfl) rfl ?_
            refine w_pure want_none (y_pickF (v := .bool _) rfl rfl rfl rfl) rfl ?_
            refine w_pure want_none (y_move (v := .bool _) rfl rfl) rfl ?_
            refine w_split (fun h73 => ?_) (fun h73 => ?_)
            ·
              try simp only [Bool.not_eq_true', Bool.not_eq_false', decide_eq_true_eq, decide_eq_false_iff_not, Int.not_lt, Int.not_le] at h73
              refine w_skipop rfl rfl rfl ?_
              refine w_skipop rfl rfl rfl ?_
              refine w_skipop rfl rfl rfl ?_
              refine w_skipop rfl rfl rfl ?_
              refine w_pure want_none (y_pickT (v := _) rfl rfl rfl rfl) rfl ?_
              refine w_nil ?_
              refine q_then (hK70 _ _ ?_)
              refine w_condT rfl rfl ?_
              refine w_exit ?_
              refine q_then_exit ?_
              refine q_blk_this ?_
              refine q_then (hK59 _ _ ?_)
              refine w_region ?_
              refine w_pure want_none (y_add rfl rfl rfl rfl (by omega) (by omega)) rfl ?_
              refine w_pure want_none (y_move (v := .int _ _) rfl rfl) rfl ?_
              refine w_nil ?_
              refine q_then (hN51 _ _ (Nx.intro (m.trains.length - (i + 1)) (by omega) (by repeat (first | exact agree_mix | refine agree_upd rfl ?_ | refine agree_updL rfl ?_ _ | refine agree_mixin rfl ?_)) ?_))
              first
                | exact ⟨i + 1, rfl, by omega, rfl, by rw [capsU_skip hi2 (by first | exact .inl (by omega) | exact .inr (.inl (bit_zero_of (by assumption))) | exact .inr (.inr (by assumption)))]; exact hs67.tail⟩
                | exact ⟨i + 1, rfl, by omega, rfl, by rw [capsU_add hi2 (fun h => by rcases h with h | h | h; omega; omega; simp_all)]; exact hs67.tail⟩
            ·
              try simp only [Bool.not_eq_true', Bool.not_eq_false', decide_eq_true_eq, decide_eq_false_iff_not, Int.not_lt, Int.not_le] at h73
              refine w_pure (want_yes rfl rfl rfl) (y_move (v := .func _ _ _) rfl rfl) rfl ?_
              refine w_pure (want_yes rfl rfl rfl) (y_move (v := .int _ _) rfl rfl) rfl ?_
              refine w_call (want_yes rfl rfl rfl) Try.call65 rfl rfl rfl rfl (c65 m _ mb mm hk.cons.cons.cons.cons.cons.cons i hi2 hs67) ?_
              rintro _ w75 ⟨rfl, hs76⟩
              refine w_pure (want_yes rfl rfl rfl) (y_not rfl rfl) rfl ?_
              refine w_pure want_none (y_pickF (v := .bool _) rfl rfl rfl rfl) rfl ?_
              refine w_nil ?_
              refine q_then (hK70 _ _ ?_)
              refine w_cond rfl rfl (fun h77 => ?_) (fun h77 => ?_)
              ·
                try simp only [Bool.not_eq_true', Bool.not_eq_false', decide_eq_true_eq, decide_eq_false_iff_not, Int.not_lt, Int.not_le] at h77
                refine w_exit ?_
                refine q_then_exit ?_
                refine q_blk_this ?_
                refine q_then (hK59 _ _ ?_)
                refine w_region ?_
                refine w_pure want_none (y_add rfl rfl rfl rfl (by omega) (by omega)) rfl ?_
                refine w_pure want_none (y_move (v := .int _ _) rfl rfl) rfl ?_
                refine w_nil ?_
                refine q_then (hN51 _ _ (Nx.intro (m.trains.length - (i + 1)) (by omega) (by repeat (first | exact agree_mix | refine agree_upd rfl ?_ | refine agree_updL rfl ?_ _ | refine agree_mixin rfl ?_)) ?_))
                first
                  | exact ⟨i + 1, rfl, by omega, rfl, by rw [capsU_skip hi2 (by first | exact .inl (by omega) | exact .inr (.inl (bit_zero_of (by assumption))) | exact .inr (.inr (by assumption)))]; exact hs76.tail⟩
                  | exact ⟨i + 1, rfl, by omega, rfl, by rw [capsU_add hi2 (fun h => by rcases h with h | h | h; omega; omega; simp_all)]; exact hs76.tail⟩
              ·
                try simp only [Bool.not_eq_true', Bool.not_eq_false', decide_eq_true_eq, decide_eq_false_iff_not, Int.not_lt, Int.not_le] at h77
                refine w_skip ?_
                refine q_then (hK68 _ _ ?_)
                refine w_draw [8] [(0, 0), (1, 1), (2, 0), (3, 1), (4, 0), (5, 1), (6, 0), (7, 0), (8, 3)] Try_mo (by kernel_rfl) hs76 (fun w78 hs79 => ?_)
                refine d_any rfl want_none rfl (fun _ => (y_fieldAddr (o := 0) (i := 0) Try.underlying63 rfl Try.sizeOf3 rfl rfl rfl)) ?_
                refine d_take rfl want_none rfl hs79 (fun _ hq => (y_load1 Try.isAgg3 hq rfl rfl (ats_own (i := 0) (vs := [_]) rfl rfl))) ?_
                refine d_any rfl want_none rfl (fun _ => (y_indexA Try.underlying90 Try.sizeOf3 rfl rfl rfl rfl (i := (m.trains[i]'hi2).room.toNat) (by first | rfl | omega) (by omega))) ?_
                refine d_take rfl want_none rfl hs79 (fun _ hq => (y_load1 Try.isAgg3 hq rfl rfl (ats_ints (i := 1) (j := (m.trains[i]'hi2).room.toNat) rfl (by first | omega | rfl | (simp only [hx.1, lacksTo_len, lacksV_len, capsU_len, List.length_map, List.length_set, List.length_append, List.length_take, List.length_drop, List.length_replicate, List.length_cons, List.length_nil] <;> omega))))) ?_
                refine d_any rfl want_none rfl (fun _ => (y_fieldAddr (o := 3) (i := 3) Try.underlying63 rfl Try.sizeOf3 rfl rfl rfl)) ?_
                refine d_take rfl want_none rfl hs79 (fun _ hq => (y_load1 Try.isAgg3 hq rfl rfl (ats_own (i := 0) (vs := [_]) rfl rfl))) ?_
                refine d_any rfl want_none rfl (fun _ => (y_add rfl rfl rfl rfl (by omega) (by omega))) ?_
                refine d_any rfl want_none rfl (fun _ => (y_indexA Try.underlying90 Try.sizeOf3 rfl rfl rfl rfl (i := (m.trains[i]'hi2).room.toNat) (by first | rfl | omega) (by omega))) ?_
                refine d_late rfl ?_
                refine w_storeAtI (i := 1) (j := (m.trains[i]'hi2).room.toNat) want_none Try.sizeOf3 rfl rfl rfl rfl hs79 rfl (by first | omega | rfl | (simp only [hx.1, lacksTo_len, lacksV_len, capsU_len, List.length_map, List.length_set, List.length_append, List.length_take, List.length_drop, List.length_replicate, List.length_cons, List.length_nil] <;> omega)) (fun w80 hs81 => ?_)
                refine w_nil ?_
                refine qn ?_
                refine d_nil ?_
                refine q_blk_normal ?_
                refine q_then (hK59 _ _ ?_)
                refine w_region ?_
                refine w_pure want_none (y_add rfl rfl rfl rfl (by omega) (by omega)) rfl ?_
                refine w_pure want_none (y_move (v := .int _ _) rfl rfl) rfl ?_
                refine w_nil ?_
                refine q_then (hN51 _ _ (Nx.intro (m.trains.length - (i + 1)) (by omega) (by repeat (first | exact agree_mix | refine agree_upd rfl ?_ | refine agree_updL rfl ?_ _ | refine agree_mixin rfl ?_)) ?_))
                first
                  | exact ⟨i + 1, rfl, by omega, rfl, by rw [capsU_skip hi2 (by first | exact .inl (by omega) | exact .inr (.inl (bit_zero_of (by assumption))) | exact .inr (.inr (by assumption)))]; exact hs81.tail⟩
                  | exact ⟨i + 1, rfl, by omega, rfl, by rw [capsU_add hi2 (fun h => by rcases h with h | h | h; omega; omega; simp_all)]; exact hs81.tail⟩
        ·
          try simp only [Bool.not_eq_true', Bool.not_eq_false', decide_eq_true_eq, decide_eq_false_iff_not, Int.not_lt, Int.not_le] at h58
          refine w_exit ?_
          refine q_then_exit ?_
          refine q_then_exit ?_
          refine q_blk_this ?_
          refine q_then (hK47 _ _ ?_)
          refine w_seq (fun K83 hK82 => ?_)
          refine w_seq (fun K85 hK84 => ?_)
          refine w_region ?_
          refine w_pure want_none (y_fieldAddr (o := 3) (i := 1) Try.underlying93 rfl Try.sizeOf91 rfl rfl rfl) rfl ?_
          refine w_pure want_none (y_loadIP (o := 3) (i := 3) Try.isAgg91 Try.sizeOf91 (by first | omega | rfl | (simp only [hx.1, lacksTo_len, lacksV_len, capsU_len, List.length_map, List.length_set, List.length_append, List.length_take, List.length_drop, List.length_replicate, List.length_cons, List.length_nil] <;> omega)) hs rfl rfl rfl) rfl ?_
          refine w_pure want_none (y_move (v := _) rfl rfl) rfl ?_
          refine w_nil ?_
          refine q_then (hK84 _ _ ?_)
          refine w_block ?_
          refine w_loop [12, 13, 72, 73, 74, 75, 76, 77, 78, 79, 80, 81, 82, 83, 84, 85, 86, 87] [72] (fun k vs w => ∃ j : Nat, vs = [.int .i64 j] ∧ j ≤ 4 ∧ k = 4 - j ∧ St w0 w ((b42, blk 90 (iv (capsU m (x.getD 7 0) b m.trains.length))) :: (b15, blk 123 (iv (List.replicate 16 0))) :: (b6, blk 123 (iv ((lacksTo m x b).set b (wantU x b j)))) :: (b3, blk 93 (iv x)) :: (mm, .map es ck) :: F)) (4) ?_ ?_
          ·
            exact ⟨0, rfl, by omega, by omega, by have hil : i = m.trains.length := (by omega); subst hil; rw [show wantU x b 0 = 0 from rfl, set_zero]; exact hs⟩
          ·
            intro k vs μ w88 hI K87 hN86
            obtain ⟨j, rfl, hja, rfl, hs⟩ := hI
            refine w_seq (fun K90 hK89 => ?_)
            refine w_region ?_
            refine w_pure want_none (y_lss rfl rfl rfl rfl) rfl ?_
            refine w_nil ?_
            refine q_then (hK89 _ _ ?_)
            refine w_seq (fun K92 hK91 => ?_)
            refine w_cond rfl rfl (fun h93 => ?_) (fun h93 => ?_)
            ·
              try simp only [Bool.not_eq_true', Bool.not_eq_false', decide_eq_true_eq, decide_eq_false_iff_not, Int.not_lt, Int.not_le] at h93
              refine w_skip ?_
              refine q_then (hK91 _ _ ?_)
              refine w_seq (fun K95 hK94 => ?_)
              refine w_block ?_
              refine w_seq (fun K97 hK96 => ?_)
              refine w_region ?_
              refine w_pure want_none (y_move (v := .int _ _) rfl rfl) rfl ?_
              refine w_pure want_none (y_indexV (i := j) Try.underlying91 Try.underlying3 Try.sizeOf3 rfl rfl rfl rfl rfl rfl (by omega) (by first | omega | rfl | (simp only [hx.1, lacksTo_len, lacksV_len, capsU_len, List.length_map, List.length_set, List.length_append, List.length_take, List.length_drop, List.length_replicate, List.length_cons, List.length_nil] <;> omega))) rfl ?_
              refine w_pure want_none (y_assign (v := .int _ _) rfl rfl) rfl ?_
              refine w_pure want_none (y_assign (v := .int _ _) rfl rfl) rfl ?_
              refine w_nil ?_
              refine q_then (hK96 _ _ ?_)
              have hw1 := wantU_bound hx.2 b j
              have hgw := drop_get (x := x) (show j < 4 by omega)
              have hw2 := getD_in (by omega) (by omega) hx.2 (3 + j)
              rw [← hgw] at hw2
              have hw3 := mul_bit (b := b) (j := j) (a := 10000) (by omega) hw2
              have hw4 := getD_set (l := lacksTo m x b) (b := b) (v := wantU x b j) (by rw [lacksTo_len]; omega)
              refine w_draw [11] [(0, 0), (1, 0), (2, 1), (3, 0), (4, 0), (5, 0), (6, 0), (7, 0), (8, 0), (9, 0), (10, 0), (11, 3)] Try_mo (by kernel_rfl) hs (fun w98 hs99 => ?_)
              refine d_any rfl want_none rfl (fun _ => (y_move (v := .int _ _) rfl rfl)) ?_
              refine d_any rfl want_none rfl (fun _ => (y_indexA Try.underlying123 Try.sizeOf3 rfl rfl rfl rfl (i := b) (by first | rfl | omega) (by omega))) ?_
              refine d_take rfl want_none rfl hs99 (fun _ hq => (y_load1 Try.isAgg3 hq rfl rfl (ats_ints (i := 2) (j := b) rfl (by first | omega | rfl | (simp only [hx.1, lacksTo_len, lacksV_len, capsU_len, List.length_map, List.length_set, List.length_append, List.length_take, List.length_drop, List.length_replicate, List.length_cons, List.length_nil] <;> omega))))) ?_
              refine d_any rfl want_none rfl (fun _ => (y_move (v := .int _ _) rfl rfl)) ?_
              refine d_any rfl want_none rfl (fun _ => (y_move (v := .int _ _) rfl rfl)) ?_
              refine d_any rfl want_none rfl (fun _ => (y_move (v := .int _ _) rfl rfl)) ?_
              refine d_any rfl want_none rfl (fun _ => (y_shr (x := _) (y := _) rfl rfl rfl rfl rfl rfl (by first | omega | exact shr_lt (by omega)))) ?_
              refine d_any rfl want_none rfl (fun _ => (show Yd _ _ _ _ (.int .i64 ((bit b j : Nat) : Int)) from (y_and (x := _) (y := 1) rfl rfl rfl rfl rfl rfl (by first | omega | exact shr_lt (by omega)) (by first | omega | exact shr_lt (by omega))))) ?_
              refine d_any rfl want_none rfl (fun _ => (y_mul rfl rfl rfl rfl (by omega) (by omega))) ?_
              refine d_any rfl want_none rfl (fun _ => (y_add rfl rfl rfl rfl (by omega) (by omega))) ?_
              refine d_any rfl want_none rfl (fun _ => (y_indexA Try.underlying123 Try.sizeOf3 rfl rfl rfl rfl (i := b) (by first | rfl | omega) (by omega))) ?_
              refine d_late rfl ?_
              refine w_storeAtI (i := 2) (j := b) want_none Try.sizeOf3 rfl rfl rfl rfl hs99 rfl (by first | omega | rfl | (simp only [hx.1, lacksTo_len, lacksV_len, capsU_len, List.length_map, List.length_set, List.length_append, List.length_take, List.length_drop, List.length_replicate, List.length_cons, List.length_nil] <;> omega)) (fun w100 hs101 => ?_)
              refine w_nil ?_
              refine qn ?_
              refine d_nil ?_
              refine q_blk_normal ?_
              refine q_then (hK94 _ _ ?_)
              refine w_region ?_
              refine w_pure want_none (y_add rfl rfl rfl rfl (by omega) (by omega)) rfl ?_
              refine w_pure want_none (y_move (v := .int _ _) rfl rfl) rfl ?_
              refine w_nil ?_
              refine q_then (hN86 _ _ (Nx.intro (4 - (j + 1)) (by omega) (by repeat (first | exact agree_mix | refine agree_upd rfl ?_ | refine agree_updL rfl ?_ _ | refine agree_mixin rfl ?_)) ?_))
              exact ⟨j + 1, rfl, by omega, rfl, by rw [← set_want hb16 (by omega)]; exact hs101⟩
            ·
              try simp only [Bool.not_eq_true', Bool.not_eq_false', decide_eq_true_eq, decide_eq_false_iff_not, Int.not_lt, Int.not_le] at h93
              refine w_exit ?_
              refine q_then_exit ?_
              refine q_then_exit ?_
              refine q_blk_this ?_
              refine q_then (hK82 _ _ ?_)
              refine w_seq (fun K103 hK102 => ?_)
              refine w_region ?_
              refine w_pure want_none (y_loadI (i := 0) Try.isAgg90 Try.sizeOf90 (by first | omega | rfl | (simp only [hx.1, lacksTo_len, lacksV_len, capsU_len, List.length_map, List.length_set, List.length_append, List.length_take, List.length_drop, List.length_replicate, List.length_cons, List.length_nil] <;> omega)) hs rfl rfl rfl) rfl ?_
              refine w_pure want_none (y_move (v := _) rfl rfl) rfl ?_
              refine w_nil ?_
              refine q_then (hK102 _ _ ?_)
              refine w_block ?_
              refine w_loop [14, 15, 89, 90, 91, 92, 93, 94, 95, 96, 97, 98, 99, 100, 101, 102, 103, 104] [89] (fun k vs w => ∃ q : Nat, vs = [.int .i64 q] ∧ q ≤ 3 ∧ k = 3 - q ∧ St w0 w ((b42, blk 90 (iv (capsU m (x.getD 7 0) b m.trains.length))) :: (b15, blk 123 (iv (List.replicate 16 0))) :: (b6, blk 123 (iv ((lacksTo m x b).set b (wantU x b 4 - handU (capsU m (x.getD 7 0) b m.trains.length) x q)))) :: (b3, blk 93 (iv x)) :: (mm, .map es ck) :: F)) (3) ?_ ?_
              ·
                exact ⟨0, rfl, by omega, by omega, by have hj4 : j = 4 := (by omega); subst hj4; rw [show handU (capsU m (x.getD 7 0) b m.trains.length) x 0 = 0 from rfl, Int.sub_zero]; exact hs⟩
              ·
                intro k vs μ w106 hI K105 hN104
                obtain ⟨q, rfl, hqa, rfl, hs⟩ := hI
                refine w_seq (fun K108 hK107 => ?_)
                refine w_region ?_
                refine w_pure want_none (y_lss rfl rfl rfl rfl) rfl ?_
                refine w_nil ?_
                refine q_then (hK107 _ _ ?_)
                refine w_seq (fun K110 hK109 => ?_)
                refine w_cond rfl rfl (fun h111 => ?_) (fun h111 => ?_)
                ·
                  try simp only [Bool.not_eq_true', Bool.not_eq_false', decide_eq_true_eq, decide_eq_false_iff_not, Int.not_lt, Int.not_le] at h111
                  refine w_skip ?_
                  refine q_then (hK109 _ _ ?_)
                  refine w_seq (fun K113 hK112 => ?_)
                  refine w_block ?_
                  refine w_seq (fun K115 hK114 => ?_)
                  refine w_region ?_
                  refine w_pure want_none (y_move (v := .int _ _) rfl rfl) rfl ?_
                  refine w_pure want_none (y_indexV (i := q) Try.underlying90 Try.underlying3 Try.sizeOf3 rfl rfl rfl rfl rfl rfl (by omega) (by first | omega | rfl | (simp only [hx.1, lacksTo_len, lacksV_len, capsU_len, List.length_map, List.length_set, List.length_append, List.length_take, List.length_drop, List.length_replicate, List.length_cons, List.length_nil] <;> omega))) rfl ?_
                  refine w_pure want_none (y_assign (v := .int _ _) rfl rfl) rfl ?_
                  refine w_pure want_none (y_assign (v := .int _ _) rfl rfl) rfl ?_
                  refine w_nil ?_
                  refine q_then (hK114 _ _ ?_)
                  have hw1 := wantU_bound hx.2 b 4
                  have hcc := caps_in hk.ok (x.getD 7 0) b m.trains.length (Nat.le_refl _)
                  have hh1 := handU_bound hcc hx.2 q
                  have hh2 := getD_in (by omega) (by omega) hx.2 q
                  have hh3 := getD_in (by omega) (by omega) hcc q
                  have hw4 := getD_set (l := lacksTo m x b) (b := b) (v := wantU x b 4 - handU (capsU m (x.getD 7 0) b m.trains.length) x q) (by rw [lacksTo_len]; omega)
                  refine w_draw [11] [(0, 0), (1, 0), (2, 1), (3, 0), (4, 0), (5, 0), (6, 0), (7, 1), (8, 0), (9, 0), (10, 0), (11, 3)] Try_mo (by kernel_rfl) hs (fun w116 hs117 => ?_)
                  refine d_any rfl want_none rfl (fun _ => (y_move (v := .int _ _) rfl rfl)) ?_
                  refine d_any rfl want_none rfl (fun _ => (y_indexA Try.underlying123 Try.sizeOf3 rfl rfl rfl rfl (i := b) (by first | rfl | omega) (by omega))) ?_
                  refine d_take rfl want_none rfl hs117 (fun _ hq => (y_load1 Try.isAgg3 hq rfl rfl (ats_ints (i := 2) (j := b) rfl (by first | omega | rfl | (simp only [hx.1, lacksTo_len, lacksV_len, capsU_len, List.length_map, List.length_set, List.length_append, List.length_take, List.length_drop, List.length_replicate, List.length_cons, List.length_nil] <;> omega))))) ?_
                  refine d_any rfl want_none rfl (fun _ => (y_move (v := .int _ _) rfl rfl)) ?_
                  refine d_any rfl want_none rfl (fun _ => (y_move (v := .int _ _) rfl rfl)) ?_
                  refine d_any rfl want_none rfl (fun _ => (y_fieldAddr (o := 0) (i := 0) Try.underlying93 rfl Try.sizeOf90 rfl rfl rfl)) ?_
                  refine d_any rfl want_none rfl (fun _ => (y_indexA Try.underlying90 Try.sizeOf3 rfl rfl rfl rfl (i := q) (by first | rfl | omega) (by omega))) ?_
                  refine d_take rfl want_none rfl hs117 (fun _ hq => (y_load1 Try.isAgg3 hq rfl rfl (ats_ints (i := 3) (j := q) rfl (by first | omega | rfl | (simp only [hx.1, lacksTo_len, lacksV_len, capsU_len, List.length_map, List.length_set, List.length_append, List.length_take, List.length_drop, List.length_replicate, List.length_cons, List.length_nil] <;> omega))))) ?_
                  refine d_any rfl want_none rfl (fun _ => (y_min2 rfl rfl rfl rfl)) ?_
                  refine d_any rfl want_none rfl (fun _ => (y_sub rfl rfl rfl rfl (by omega) (by omega))) ?_
                  refine d_any rfl want_none rfl (fun _ => (y_indexA Try.underlying123 Try.sizeOf3 rfl rfl rfl rfl (i := b) (by first | rfl | omega) (by omega))) ?_
                  refine d_late rfl ?_
                  refine w_storeAtI (i := 2) (j := b) want_none Try.sizeOf3 rfl rfl rfl rfl hs117 rfl (by first | omega | rfl | (simp only [hx.1, lacksTo_len, lacksV_len, capsU_len, List.length_map, List.length_set, List.length_append, List.length_take, List.length_drop, List.length_replicate, List.length_cons, List.length_nil] <;> omega)) (fun w118 hs119 => ?_)
                  refine w_nil ?_
                  refine qn ?_
                  refine d_nil ?_
                  refine q_blk_normal ?_
                  refine q_then (hK112 _ _ ?_)
                  refine w_region ?_
                  refine w_pure want_none (y_add rfl rfl rfl rfl (by omega) (by omega)) rfl ?_
                  refine w_pure want_none (y_move (v := .int _ _) rfl rfl) rfl ?_
                  refine w_nil ?_
                  refine q_then (hN104 _ _ (Nx.intro (3 - (q + 1)) (by omega) (by repeat (first | exact agree_mix | refine agree_upd rfl ?_ | refine agree_updL rfl ?_ _ | refine agree_mixin rfl ?_)) ?_))
                  exact ⟨q + 1, rfl, by omega, rfl, by rw [← set_hand hb16]; exact hs119⟩
                ·
                  try simp only [Bool.not_eq_true', Bool.not_eq_false', decide_eq_true_eq, decide_eq_false_iff_not, Int.not_lt, Int.not_le] at h111
                  refine w_exit ?_
                  refine q_then_exit ?_
                  refine q_then_exit ?_
                  refine q_blk_this ?_
                  refine q_ng_normal ?_
                  refine q_blk_normal ?_
                  refine q_then (hK36 _ _ ?_)
                  refine w_region ?_
                  refine w_pure want_none (y_add rfl rfl rfl rfl (by omega) (by omega)) rfl ?_
                  refine w_pure want_none (y_move (v := .int _ _) rfl rfl) rfl ?_
                  refine w_nil ?_
                  refine q_then (hN28 _ _ (Nx.intro (16 - (b + 1)) (by omega) (by repeat (first | exact agree_mix | refine agree_upd rfl ?_ | refine agree_updL rfl ?_ _ | refine agree_mixin rfl ?_)) ?_))
                  exact ⟨b + 1, rfl, by omega, rfl, by have hq3 : q = 3 := (by omega); subst hq3; rw [← set_done hb16]; exact hs.tail⟩
    ·
      try simp only [Bool.not_eq_true', Bool.not_eq_false', decide_eq_true_eq, decide_eq_false_iff_not, Int.not_lt, Int.not_le] at h35
      refine w_exit ?_
      refine q_then_exit ?_
      refine q_then_exit ?_
      refine q_blk_this ?_
      refine q_then (hK24 _ _ ?_)
      refine w_seq (fun K121 hK120 => ?_)
      have hb16 : b = 16 := by omega
      subst hb16
      rw [lacksTo_all] at hs
      refine w_draw [6] [(0, 0), (1, 0), (2, 0), (3, 1), (4, 1), (5, 1), (6, 3)] Try_mo (by kernel_rfl) hs (fun w122 hs123 => ?_)
      refine d_any rfl want_none rfl (fun _ => (y_move (v := .pointer _) rfl rfl)) ?_
      refine d_any rfl want_none rfl (fun _ => (y_nilCheck rfl rfl)) ?_
      refine d_any rfl want_none rfl (fun _ => (y_fieldAddr (o := 3) (i := 1) Try.underlying122 rfl Try.sizeOf120 rfl rfl rfl)) ?_
      refine d_take rfl want_none rfl hs123 (fun _ hq => (y_load1 Try.isAgg120 hq.tail.tail.tail.tail rfl rfl (show Ats _ _ _ _ [_] from Ats.part hb 3 1))) ?_
      refine d_take rfl want_none rfl hs123 (fun _ hq => (y_loadI (i := 2) Try.isAgg93 Try.sizeOf93 (by first | omega | rfl | (simp only [hx.1, lacksTo_len, lacksV_len, capsU_len, List.length_map, List.length_set, List.length_append, List.length_take, List.length_drop, List.length_replicate, List.length_cons, List.length_nil] <;> omega)) hq rfl rfl rfl)) ?_
      refine d_take rfl want_none rfl hs123 (fun _ hq => (y_loadI (i := 1) Try.isAgg123 Try.sizeOf123 (by first | omega | rfl | (simp only [hx.1, lacksTo_len, lacksV_len, capsU_len, List.length_map, List.length_set, List.length_append, List.length_take, List.length_drop, List.length_replicate, List.length_cons, List.length_nil] <;> omega)) hq rfl rfl rfl)) ?_
      refine d_late rfl ?_
      refine K_mapAdd (i := 3) (l := x) want_none Try.underlying120 key93 hx.1 rfl rfl rfl rfl rfl rfl rfl hs123 rfl hf (fun w124 hs125 => ?_)
      refine w_nil ?_
      refine qn ?_
      refine d_nil ?_
      refine q_then (hK120 _ _ ?_)
      refine w_seq (fun K127 hK126 => ?_)
      refine w_region ?_
      refine w_pure want_none (y_loadI (i := 1) Try.isAgg123 Try.sizeOf123 (by first | omega | rfl | (simp only [hx.1, lacksTo_len, lacksV_len, capsU_len, List.length_map, List.length_set, List.length_append, List.length_take, List.length_drop, List.length_replicate, List.length_cons, List.length_nil] <;> omega)) hs125 rfl rfl rfl) rfl ?_
      refine w_storeI (i := 1) (l := _) want_none Try.sizeOf123 (by first | omega | rfl | (simp only [hx.1, lacksTo_len, lacksV_len, capsU_len, List.length_map, List.length_set, List.length_append, List.length_take, List.length_drop, List.length_replicate, List.length_cons, List.length_nil] <;> omega)) rfl rfl rfl rfl rfl hs125 rfl (by first | omega | rfl | (simp only [hx.1, lacksTo_len, lacksV_len, capsU_len, List.length_map, List.length_set, List.length_append, List.length_take, List.length_drop, List.length_replicate, List.length_cons, List.length_nil] <;> omega)) (fun w128 hs129 => ?_)
      refine w_nil ?_
      refine q_then (hK126 _ _ ?_)
      refine w_ret ?_
      refine q_ret (l := [.cell 4 123]) (vs := [_]) rfl ⟨⟨rfl, _, rfl, run_loadI (i := 1) Try.isAgg123 Try.sizeOf123 (by first | omega | rfl | (simp only [hx.1, lacksTo_len, lacksV_len, capsU_len, List.length_map, List.length_set, List.length_append, List.length_take, List.length_drop, List.length_replicate, List.length_cons, List.length_nil] <;> omega)) hs129 rfl⟩, trivial⟩ ?_
      exact ⟨rfl, hs129.tail.tail.tail⟩

theorem lacks_con {w0 w : World} {X M F : List (Nat × Obj)} (m : Market) (p : At3) (mb mm : Nat) (hk : MK w0 F m p mb mm)  (x : List Int) (hx : Small x) (hM : Memo m mm M) (hs : St w0 w (X ++ (M ++ F))) :
    Con Try.prog 89 [.pointer (some ⟨mb, 0, none⟩), ia x] w fun v w' => v = ia (lacksV m x) ∧ ∃ M', Memo m mm M' ∧ St w0 w' (X ++ (M' ++ F)) := by
  obtain ⟨es, ck, rfl, hes⟩ := hM
  have hs1 : St w0 w ((mm, .map es ck) :: (X ++ F)) := hs.perm (perm_mid X [(mm, .map es ck)] F)
  rcases K_findKey key93 hx.1 es.toList (fun e he => by obtain ⟨y, h1, h2, _⟩ := hes e he; exact ⟨y, h1, h2⟩) with ⟨hf, hne⟩ | ⟨j, e, hf, hmem, hkey⟩
  · refine (c89n m p mb mm hk.app x hx es ck hf hs1).mono ?_
    rintro v w' ⟨rfl, hs2⟩
    refine ⟨rfl, [(mm, .map (es.push { key := ia x, val := ia (lacksV m x), born := ck }) (ck + 1))], ⟨_, _, rfl, fun e he => ?_⟩, hs2.perm (perm_mid [_] X F)⟩
    rw [Array.toList_push, List.mem_append] at he
    rcases he with he | he
    · exact hes e he
    · rw [List.mem_singleton] at he
      subst he
      exact ⟨x, hx.1, rfl, rfl⟩
  · obtain ⟨y, h1, h2, h3⟩ := hes e hmem
    have hyx : y = x := ia_inj (h2.symm.trans hkey)
    subst hyx
    rw [h3] at hf
    refine (c89f m p mb mm hk.app y hx es ck j _ (lacksV_len m y) hf hs1).mono ?_
    rintro v w' ⟨rfl, hs2⟩
    exact ⟨rfl, _, ⟨es, ck, rfl, hes⟩, hs2.perm (perm_mid [_] X F)⟩
end Go.Proofs
