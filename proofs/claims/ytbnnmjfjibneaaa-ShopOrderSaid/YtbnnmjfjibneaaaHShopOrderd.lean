/- Own texts of this claim, joined. No conditions. -/
import Derived.Test.YtbnnmjfjibneaaaHShopOrdera
import Derived.Test.YtbnnmjfjibneaaaHShopOrderb
import Derived.Test.YtbnnmjfjibneaaaHShopOrderc
/- Walks of this seat, printed by gen.py over the engine: what each function returns, in whatever world. No conditions but those of each contract. -/
set_option linter.unusedVariables false
set_option linter.unusedSimpArgs false
set_option maxRecDepth 20000
namespace Go.Proofs
open Go.Rt Go.Rt.Sh
attribute [local irreducible] WL WC Con Yd At Ats Sl Agree DW

theorem key93_cov : ∀ l m : List Int, l.length = 8 → m.length = 8 → (decide ((l.drop 0).take 3 = (m.drop 0).take 3) && (decide ((l.drop 3).take 4 = (m.drop 3).take 4) && (decide ((l.drop 7).take 1 = (m.drop 7).take 1) && true))) = decide (l = m) := by
  intro l m hl hm
  match l, hl with
  | [a, b, c, d, e, f, g, h], _ =>
    match m, hm with
    | [a', b', c', d', e', f', g', h'], _ =>
      rw [Bool.eq_iff_iff]
      simp
      constructor
      · rintro ⟨⟨_, _, _⟩, ⟨_, _, _, _⟩, _⟩; simp [*]
      · rintro ⟨_, _, _, _, _, _, _, _⟩; simp [*]
theorem key_zip {P : Program} {t k : Nat} {fs : Array Field} (ks : List Nat) (hu : P.underlying t = some (.struct fs)) (hp : P.stoodInHeld t = false) (h1 : fs.toList = (fs.toList.zip ks).map Prod.fst) (h2 : ∀ q ∈ fs.toList.zip ks, FF P q.1 q.2 ∧ q.1.offset + q.2 ≤ k)
    (h3 : ∀ q ∈ fs.toList.zip ks, P.underlying q.1.type = some (.int .i64) ∨ ∃ el, P.underlying q.1.type = some (.array q.2 el) ∧ P.underlying el = some (.int .i64) ∧ ∀ w, (sizeOf el).run P w = .ok 1 w)
    (h4 : ∀ l m : List Int, l.length = k → m.length = k → ((fs.toList.zip ks).all fun q => decide ((l.drop q.1.offset).take q.2 = (m.drop q.1.offset).take q.2)) = decide (l = m)) : KeyTy P t k := keyTy_struct _ hu hp h1 h2 h3 h4
theorem key93 : KeyTy Try.prog 93 8 := by
  refine key_zip [3, 4, 1] Try.underlying93 (by kernel_rfl) rfl ?_ ?_ ?_
  · intro q hq
    simp only [List.zip_cons_cons, List.zip_nil_right, List.mem_cons, List.not_mem_nil, or_false] at hq
    rcases hq with rfl | rfl | rfl
    · exact ⟨⟨by decide, .inr ⟨by kernel_rfl, Try.isAgg90, Try.sizeOf90⟩⟩, by decide⟩
    · exact ⟨⟨by decide, .inr ⟨by kernel_rfl, Try.isAgg91, Try.sizeOf91⟩⟩, by decide⟩
    · exact ⟨⟨by decide, .inl ⟨Try.underlying3, rfl⟩⟩, by decide⟩
  · intro q hq
    simp only [List.zip_cons_cons, List.zip_nil_right, List.mem_cons, List.not_mem_nil, or_false] at hq
    rcases hq with rfl | rfl | rfl
    · exact .inr ⟨3, Try.underlying90, Try.underlying3, Try.sizeOf3⟩
    · exact .inr ⟨3, Try.underlying91, Try.underlying3, Try.sizeOf3⟩
    · exact .inl Try.underlying3
  · exact key93_cov

theorem bit_zero_of {b j : Nat} (h : ((bit b j : Nat) : Int) = 0) : bit b j = 0 := by omega
theorem iv1 {a b : Int} (h : a = b) : [Value.int .i64 a] = [Value.int .i64 b] := by rw [h]
theorem c89f {w0 w : World} {F : List (Nat × Obj)} (m : Market) (p : At3) (mb mm : Nat) (hk : MK w0 F m p mb mm)  (x : List Int) (hx : Small x) (es : Array MapEntry) (ck : Nat) (j : Nat) (y : List Int) (hy : y.length = 16) (hf : ∀ w, (Instr.findKey 93 (ia x) es.toList).run Try.prog w = .ok (some (j, ia y)) w) (hs : St w0 w ((mm, .map es ck) :: F)) :
  Con Try.prog 89 [.pointer (some ⟨mb, 0, none⟩), ia x] w fun v w' => v = ia y ∧ St w0 w' ((mm, .map es ck) :: F) := by
  refine con_of_wc (n := 113) Try.func89 rfl rfl (Nat.le_of_ble_eq_true rfl) ?_
  have hb := hk.b
  refine w_seq (fun K2 hK1 => ?_)
  refine w_region ?_
  refine w_boxI (l := _) want_none rfl rfl rfl hs (fun b3 w4 hs5 => ?_)
  refine w_alloc (cs := iv [0, 0, 0, 0, 0, 0, 0, 0, 0, 0, 0, 0, 0, 0, 0, 0]) want_none Try.zeroValue123 rfl hs5 (fun b6 w7 hs8 => ?_)
  refine w_nil ?_
  refine q_then (hK1 _ _ ?_)
  refine w_seq (fun K10 hK9 => ?_)
  refine w_seq (fun K12 hK11 => ?_)
  refine w_draw [10] [(0, 0), (1, 0), (2, 0), (3, 1), (4, 1), (5, 1), (6, 0), (7, 0), (8, 0), (9, 2), (10, 3), (11, 0)] Try_mo (by kernel_rfl) hs8 (fun w13 hs14 => ?_)
  refine d_any rfl want_none rfl (fun _ => (y_move (v := .pointer _) rfl rfl)) ?_
  refine d_any rfl want_none rfl (fun _ => (y_nilCheck rfl rfl)) ?_
  refine d_any rfl want_none rfl (fun _ => (y_fieldAddr (o := 3) (i := 1) Try.underlying122 rfl Try.sizeOf120 rfl rfl rfl)) ?_
  refine d_take rfl want_none rfl hs14 (fun _ hq => (y_load1 Try.isAgg120 hq.tail.tail.tail rfl rfl (show Ats _ _ _ _ [_] from Ats.part hb 3 1))) ?_
  refine d_take rfl want_none rfl hs14 (fun _ hq => (y_loadI (i := 1) Try.isAgg93 Try.sizeOf93 (by first | omega | rfl | (simp only [hx.1, hy, List.length_map, List.length_set, List.length_append, List.length_take, List.length_drop, List.length_replicate, List.length_cons, List.length_nil] <;> omega)) hq rfl rfl rfl)) ?_
  refine d_take rfl want_none rfl hs14 (fun _ hq => (K_lookupS (i := 2) (l := x) Try.underlying120 key93 hx.1 hq rfl rfl rfl rfl rfl rfl hf)) ?_
  refine d_any rfl want_none rfl (fun _ => (y_move (v := .tuple _) rfl rfl)) ?_
  refine d_any rfl want_none rfl (fun _ => (y_extract (v := (ia _)) rfl rfl rfl)) ?_
  refine d_any rfl want_none rfl (fun _ => (y_extract (v := .bool _) rfl rfl rfl)) ?_
  refine d_eff rfl ?_
  refine w_alloc (cs := iv [0, 0, 0, 0, 0, 0, 0, 0, 0, 0, 0, 0, 0, 0, 0, 0]) want_none Try.zeroValue123 rfl hs14 (fun b15 w16 hs17 => ?_)
  refine w_nil ?_
  refine qn ⟨hs17.tail, ?_⟩
  refine d_late rfl ?_
  refine w_storeI (i := 0) (l := _) want_none Try.sizeOf123 (by first | omega | rfl | (simp only [hx.1, hy, List.length_map, List.length_set, List.length_append, List.length_take, List.length_drop, List.length_replicate, List.length_cons, List.length_nil] <;> omega)) rfl rfl rfl rfl rfl hs17 rfl (by first | omega | rfl | (simp only [hx.1, hy, List.length_map, List.length_set, List.length_append, List.length_take, List.length_drop, List.length_replicate, List.length_cons, List.length_nil] <;> omega)) (fun w18 hs19 => ?_)
  refine w_nil ?_
  refine qn ?_
  refine d_any rfl want_none rfl (fun _ => (y_assign (v := .bool _) rfl rfl)) ?_
  refine d_nil ?_
  refine q_then (hK11 _ _ ?_)
  refine w_seq (fun K21 hK20 => ?_)
  refine w_region ?_
  refine w_pure want_none (y_move (v := .bool _) rfl rfl) rfl ?_
  refine w_nil ?_
  refine q_then (hK20 _ _ ?_)
  refine w_condT rfl rfl ?_
  refine w_seq (fun K23 hK22 => ?_)
  refine w_region ?_
  refine w_pure want_none (y_loadI (i := 0) Try.isAgg123 Try.sizeOf123 (by first | omega | rfl | (simp only [hx.1, hy, List.length_map, List.length_set, List.length_append, List.length_take, List.length_drop, List.length_replicate, List.length_cons, List.length_nil] <;> omega)) hs19 rfl rfl rfl) rfl ?_
  refine w_storeI (i := 1) (l := _) want_none Try.sizeOf123 (by first | omega | rfl | (simp only [hx.1, hy, List.length_map, List.length_set, List.length_append, List.length_take, List.length_drop, List.length_replicate, List.length_cons, List.length_nil] <;> omega)) rfl rfl rfl rfl rfl hs19 rfl (by first | omega | rfl | (simp only [hx.1, hy, List.length_map, List.length_set, List.length_append, List.length_take, List.length_drop, List.length_replicate, List.length_cons, List.length_nil] <;> omega)) (fun w24 hs25 => ?_)
  refine w_nil ?_
  refine q_then (hK22 _ _ ?_)
  refine w_ret ?_
  refine q_then_ret ?_
  refine q_ret (l := [.cell 4 123]) (vs := [_]) rfl ⟨⟨rfl, _, rfl, run_loadI (i := 1) Try.isAgg123 Try.sizeOf123 (by first | omega | rfl | (simp only [hx.1, hy, List.length_map, List.length_set, List.length_append, List.length_take, List.length_drop, List.length_replicate, List.length_cons, List.length_nil] <;> omega)) hs25 rfl⟩, trivial⟩ ?_
  exact ⟨rfl, hs25.tail.tail.tail⟩

theorem c89n {w0 w : World} {F : List (Nat × Obj)} (m : Market) (p : At3) (mb mm : Nat) (hk : MK w0 F m p mb mm)  (x : List Int) (hx : Small x) (es : Array MapEntry) (ck : Nat) (hf : ∀ w, (Instr.findKey 93 (ia x) es.toList).run Try.prog w = .ok none w) (hs : St w0 w ((mm, .map es ck) :: F)) :
  Con Try.prog 89 [.pointer (some ⟨mb, 0, none⟩), ia x] w fun v w' => v = ia (lacksV m x) ∧ St w0 w' ((mm, .map (es.push { key := ia x, val := ia (lacksV m x), born := ck }) (ck + 1)) :: F) := by
  refine con_of_wc (n := 113) Try.func89 rfl rfl (Nat.le_of_ble_eq_true rfl) ?_
  obtain ⟨ar, cr, as_, cs, at_, ct⟩ := p
  have hb := hk.b
  have hlr := hk.ok.lr
  have hls := hk.ok.ls
  have hlt := hk.ok.lt
  refine w_seq (fun K2 hK1 => ?_)
  refine w_region ?_
  refine w_boxI (l := _) want_none rfl rfl rfl hs (fun b3 w4 hs5 => ?_)
  refine w_alloc (cs := iv [0, 0, 0, 0, 0, 0, 0, 0, 0, 0, 0, 0, 0, 0, 0, 0]) want_none Try.zeroValue123 rfl hs5 (fun b6 w7 hs8 => ?_)
  refine w_nil ?_
  refine q_then (hK1 _ _ ?_)
  refine w_seq (fun K10 hK9 => ?_)
  refine w_seq (fun K12 hK11 => ?_)
  refine w_draw [10] [(0, 0), (1, 0), (2, 0), (3, 1), (4, 1), (5, 1), (6, 0), (7, 0), (8, 0), (9, 2), (10, 3), (11, 0)] Try_mo (by kernel_rfl) hs8 (fun w13 hs14 => ?_)
  refine d_any rfl want_none rfl (fun _ => (y_move (v := .pointer _) rfl rfl)) ?_
  refine d_any rfl want_none rfl (fun _ => (y_nilCheck rfl rfl)) ?_
  refine d_any rfl want_none rfl (fun _ => (y_fieldAddr (o := 3) (i := 1) Try.underlying122 rfl Try.sizeOf120 rfl rfl rfl)) ?_
  refine d_take rfl want_none rfl hs14 (fun _ hq => (y_load1 Try.isAgg120 hq.tail.tail.tail rfl rfl (show Ats _ _ _ _ [_] from Ats.part hb 3 1))) ?_
  refine d_take rfl want_none rfl hs14 (fun _ hq => (y_loadI (i := 1) Try.isAgg93 Try.sizeOf93 (by first | omega | rfl | (simp only [hx.1, lacksTo_len, lacksV_len, capsU_len, List.length_map, List.length_set, List.length_append, List.length_take, List.length_drop, List.length_replicate, List.length_cons, List.length_nil] <;> omega)) hq rfl rfl rfl)) ?_
  refine d_take rfl want_none rfl hs14 (fun _ hq => (K_lookupN (i := 2) (l := x) Try.underlying120 key93 hx.1 (show ∀ w, (zeroValue 123).run Try.prog w = .ok (ia (List.replicate 16 0)) w from Try.zeroValue123) hq rfl rfl rfl rfl rfl rfl hf)) ?_
  refine d_any rfl want_none rfl (fun _ => (y_move (v := .tuple _) rfl rfl)) ?_
  refine d_any rfl want_none rfl (fun _ => (y_extract (v := (ia _)) rfl rfl rfl)) ?_
  refine d_any rfl want_none rfl (fun _ => (y_extract (v := .bool _) rfl rfl rfl)) ?_
  refine d_eff rfl ?_
  refine w_alloc (cs := iv [0, 0, 0, 0, 0, 0, 0, 0, 0, 0, 0, 0, 0, 0, 0, 0]) want_none Try.zeroValue123 rfl hs14 (fun b15 w16 hs17 => ?_)
  refine w_nil ?_
  refine qn ⟨hs17.tail, ?_⟩
  refine d_late rfl ?_
  refine w_storeI (i := 0) (l := _) want_none Try.sizeOf123 (by first | omega | rfl | (simp only [hx.1, lacksTo_len, lacksV_len, capsU_len, List.length_map, List.length_set, List.length_append, List.length_take, List.length_drop, List.length_replicate, List.length_cons, List.length_nil] <;> omega)) rfl rfl rfl rfl rfl hs17 rfl (by first | omega | rfl | (simp only [hx.1, lacksTo_len, lacksV_len, capsU_len, List.length_map, List.length_set, List.length_append, List.length_take, List.length_drop, List.length_replicate, List.length_cons, List.length_nil] <;> omega)) (fun w18 hs19 => ?_)
  refine w_nil ?_
  refine qn ?_
  refine d_any rfl want_none rfl (fun _ => (y_assign (v := .bool _) rfl rfl)) ?_
  refine d_nil ?_
  refine q_then (hK11 _ _ ?_)
  refine w_seq (fun K21 hK20 => ?_)
  refine w_region ?_
  refine w_pure want_none (y_move (v := .bool _) rfl rfl) rfl ?_
  refine w_nil ?_
  refine q_then (hK20 _ _ ?_)
  refine w_condF rfl rfl ?_
  refine w_skip ?_
  refine q_then (hK9 _ _ ?_)
  refine w_seq (fun K23 hK22 => ?_)
  refine w_region ?_
  refine w_pure want_none (y_move (v := .pointer _) rfl rfl) rfl ?_
  refine w_pure want_none (y_makeFunc (fv := [_]) (cv := []) rfl rfl rfl rfl) rfl ?_
  refine w_pure want_none (y_assign (v := .func _ _ _) rfl rfl) rfl ?_
  refine w_nil ?_
  refine q_then (hK22 _ _ ?_)
  refine w_seq (fun K25 hK24 => ?_)
  refine w_seq (fun K27 hK26 => ?_)
  refine w_region ?_
  refine w_pure want_none (y_move (v := _) rfl rfl) rfl ?_
  refine w_nil ?_
  refine q_then (hK26 _ _ ?_)
  refine w_block ?_
  refine w_loop [8, 9, 10, 11, 12, 13, 14, 15, 29, 30, 31, 32, 33, 34, 35, 36, 37, 38, 39, 40, 41, 42, 43, 44, 45, 46, 47, 48, 49, 50, 51, 52, 53, 54, 55, 56, 57, 58, 59, 60, 61, 62, 63, 64, 65, 66, 67, 68, 69, 70, 71, 72, 73, 74, 75, 76, 77, 78, 79, 80, 81, 82, 83, 84, 85, 86, 87, 88, 89, 90, 91, 92, 93, 94, 95, 96, 97, 98, 99, 100, 101, 102, 103, 104, 105] [29] (fun k vs w => ∃ b : Nat, vs = [.int .i64 b] ∧ b ≤ 16 ∧ k = 16 - b ∧ St w0 w ((b15, blk 123 (iv (List.replicate 16 0))) :: (b6, blk 123 (iv (lacksTo m x b))) :: (b3, blk 93 (iv x)) :: (mm, .map es ck) :: F)) (16) ?_ ?_
  ·
   exact ⟨0, rfl, by omega, by omega, by rw [lacksTo_zero]; exact hs19⟩
  ·
   intro k vs μ w30 hI K29 hN28
   obtain ⟨b, rfl, hba, rfl, hs⟩ := hI
   refine w_seq (fun K32 hK31 => ?_)
   refine w_region ?_
   refine w_pure want_none (y_lss rfl rfl rfl rfl) rfl ?_
   refine w_nil ?_
   refine q_then (hK31 _ _ ?_)
   refine w_seq (fun K34 hK33 => ?_)
   refine w_cond rfl rfl (fun h35 => ?_) (fun h35 => ?_)
   ·
    try simp only [Bool.not_eq_true', Bool.not_eq_false', decide_eq_true_eq, decide_eq_false_iff_not, Int.not_lt, Int.not_le] at h35
    refine w_skip ?_
    refine q_then (hK33 _ _ ?_)
    refine w_seq (fun K37 hK36 => ?_)
    refine w_block ?_
    refine w_seq (fun K39 hK38 => ?_)
    have hb16 : b < 16 := by omega
    refine w_region ?_
    refine w_pure want_none (y_move (v := .int _ _) rfl rfl) rfl ?_
    refine w_pure want_none (y_assign (v := .int _ _) rfl rfl) rfl ?_
    refine w_nil ?_
    refine q_then (hK38 _ _ ?_)
    refine w_scope ?_
    refine w_seq (fun K41 hK40 => ?_)
    refine w_region ?_
    refine w_alloc (cs := iv [0, 0, 0]) want_none Try.zeroValue90 rfl hs (fun b42 w43 hs44 => ?_)
    refine w_nil ?_
    refine q_then (hK40 _ _ ?_)
    refine w_seq (fun K46 hK45 => ?_)
    refine w_label ?_
    refine q_then (hK45 _ _ ?_)
    refine w_seq (fun K48 hK47 => ?_)
    refine w_seq (fun K50 hK49 => ?_)
    refine w_region ?_
    refine w_pure want_none (y_move (v := .pointer _) rfl rfl) rfl ?_
    refine w_pure want_none (y_nilCheck rfl rfl) rfl ?_
    refine w_pure want_none (y_fieldAddr (o := 0) (i := 0) Try.underlying122 rfl Try.sizeOf26 rfl rfl rfl) rfl ?_
    refine w_pure want_none (y_fieldAddr (o := 2) (i := 2) Try.underlying26 rfl Try.sizeOf24 rfl rfl rfl) rfl ?_
    refine w_pure want_none (y_load1 Try.isAgg24 hs44.tail.tail.tail.tail.tail rfl rfl (show Ats _ _ _ _ [_] from Ats.part hb 2 1)) rfl ?_
    refine w_pure want_none (y_lenS Try.underlying24 rfl rfl) rfl ?_
    refine w_pure want_none (y_move (v := _) rfl rfl) rfl ?_
    refine w_nil ?_
    refine q_then (hK49 _ _ ?_)
    refine w_block ?_
    refine w_loop [10, 11, 38, 39, 40, 41, 42, 43, 44, 45, 46, 47, 48, 49, 50, 51, 52, 53, 54, 55, 56, 57, 58, 59, 60, 61, 62, 63, 64, 65, 66, 67, 68, 69] [38] (fun k vs w => ∃ i : Nat, vs = [.int .i64 i] ∧ i ≤ m.trains.length ∧ k = m.trains.length - i ∧ St w0 w ((b42, blk 90 (iv (capsU m (x.getD 7 0) b i))) :: (b15, blk 123 (iv (List.replicate 16 0))) :: (b6, blk 123 (iv (lacksTo m x b))) :: (b3, blk 93 (iv x)) :: (mm, .map es ck) :: F)) (m.trains.length) ?_ ?_
    ·
     exact ⟨0, rfl, by omega, by omega, hs44⟩
    ·
     intro k vs μ w53 hI K52 hN51
     obtain ⟨i, rfl, hia, rfl, hs⟩ := hI
     refine w_seq (fun K55 hK54 => ?_)
     refine w_region ?_
     refine w_pure want_none (y_lss rfl rfl rfl rfl) rfl ?_
     refine w_nil ?_
     refine q_then (hK54 _ _ ?_)
     refine w_seq (fun K57 hK56 => ?_)
     refine w_cond rfl rfl (fun h58 => ?_) (fun h58 => ?_)
     ·
      try simp only [Bool.not_eq_true', Bool.not_eq_false', decide_eq_true_eq, decide_eq_false_iff_not, Int.not_lt, Int.not_le] at h58
      refine w_skip ?_
      refine q_then (hK56 _ _ ?_)
      refine w_seq (fun K60 hK59 => ?_)
      refine w_block ?_
      refine w_seq (fun K62 hK61 => ?_)
      have hi2 : i < m.trains.length := by omega
      obtain ⟨bt, ot, hbt, hxt⟩ := sl_trows hk.i.t hi2
      subst hbt
      have ht := hk.ok.train _ (List.getElem_mem hi2)
      have hcb := caps_get_bound hk.ok (x.getD 7 0) b i (m.trains[i]'hi2).room.toNat (by omega)
      refine w_region ?_
      refine w_pure want_none (y_move (v := .int _ _) rfl rfl) rfl ?_
      refine w_pure want_none (y_indexS Try.underlying24 Try.sizeOf63 rfl rfl rfl rfl (i := _) rfl (by omega)) rfl ?_
      refine w_pure want_none (y_loadN (vs := [_, _, _, _]) Try.isAgg63 Try.sizeOf63 hs.tail.tail.tail.tail.tail rfl rfl hxt) rfl ?_
      refine w_alloc (cs := [_, _, _, _]) want_none Try.zeroValue63 rfl hs (fun b63 w64 hs65 => ?_)
      refine w_pure want_none (y_assign (v := .int _ _) rfl rfl) rfl ?_
      refine w_store (i := 0) (v := .agg #[.int _ _, .int _ _, .int _ _, .int _ _]) (vs := [_, _, _, _]) want_none Try.sizeOf63 rfl rfl rfl rfl rfl (by simp [Value.oneCell']) hs65 rfl (Nat.le_of_ble_eq_true rfl) (fun w66 hs67 => ?_)
      refine w_nil ?_
      refine q_then (hK61 _ _ ?_)
      refine w_seq (fun K69 hK68 => ?_)
      refine w_seq (fun K71 hK70 => ?_)
      refine w_region ?_
      refine w_pure want_none (y_move (v := .int _ _) rfl rfl) rfl ?_
      refine w_pure want_none (y_fieldAddr (o := 7) (i := 2) Try.underlying93 rfl Try.sizeOf3 rfl rfl rfl) rfl ?_
      refine w_pure want_none (y_load1 Try.isAgg3 hs67 rfl rfl (ats_intsC (i := 4) (o := 7) rfl (by first | omega | rfl | (simp only [hx.1, lacksTo_len, lacksV_len, capsU_len, List.length_map, List.length_set, List.length_append, List.length_take, List.length_drop, List.length_replicate, List.length_cons, List.length_nil] <;> omega)))) rfl ?_
      refine w_pure want_none (y_lss rfl rfl rfl rfl) rfl ?_
      refine w_pure want_none (y_move (v := .bool _) rfl rfl) rfl ?_
      refine w_split (fun h72 => ?_) (fun h72 => ?_)
      ·
       try simp only [Bool.not_eq_true', Bool.not_eq_false', decide_eq_true_eq, decide_eq_false_iff_not, Int.not_lt, Int.not_le] at h72
       refine w_skipop rfl rfl rfl ?_
       refine w_skipop rfl rfl rfl ?_
       refine w_skipop rfl rfl rfl ?_
       refine w_skipop rfl rfl rfl ?_
       refine w_skipop rfl rfl rfl ?_
       refine w_skipop rfl rfl rfl ?_
       refine w_pure want_none (y_pickT (v := _) rfl rfl rfl rfl) rfl ?_
       refine w_pure want_none (y_move (v := .bool _) rfl rfl) rfl ?_
       refine w_skipop rfl rfl rfl ?_
       refine w_skipop rfl rfl rfl ?_
       refine w_skipop rfl rfl rfl ?_
       refine w_skipop rfl rfl rfl ?_
       refine w_pure want_none (y_pickT (v := _) rfl rfl rfl rfl) rfl ?_
       refine w_nil ?_
       refine q_then (hK70 _ _ ?_)
       refine w_condT rfl rfl ?_
       refine w_exit ?_
       refine q_then_exit ?_
       refine q_blk_this ?_
       refine q_then (hK59 _ _ ?_)
       refine w_region ?_
       refine w_pure want_none (y_add rfl rfl rfl rfl (by omega) (by omega)) rfl ?_
       refine w_pure want_none (y_move (v := .int _ _) rfl rfl) rfl ?_
       refine w_nil ?_
       refine q_then (hN51 _ _ (Nx.intro (m.trains.length - (i + 1)) (by omega) (by repeat (first | exact agree_mix | refine agree_upd rfl ?_ | refine agree_updL rfl ?_ _ | refine agree_mixin rfl ?_)) ?_))
       first
         | exact ⟨i + 1, rfl, by omega, rfl, by rw [capsU_skip hi2 (by first | exact .inl (by omega) | exact .inr (.inl (bit_zero_of (by assumption))) | exact .inr (.inr (by assumption)))]; exact hs67.tail⟩
         | exact ⟨i + 1, rfl, by omega, rfl, by rw [capsU_add hi2 (fun h => by rcases h with h | h | h; omega; omega; simp_all)]; exact hs67.tail⟩
      ·
       try simp only [Bool.not_eq_true', Bool.not_eq_false', decide_eq_true_eq, decide_eq_false_iff_not, Int.not_lt, Int.not_le] at h72
       refine w_pure (want_yes rfl rfl rfl) (y_move (v := .int _ _) rfl rfl) rfl ?_
       refine w_pure (want_yes rfl rfl rfl) (y_fieldAddr (o := 1) (i := 1) Try.underlying63 rfl Try.sizeOf3 rfl rfl rfl) rfl ?_
       refine w_pure (want_yes rfl rfl rfl) (y_load1 Try.isAgg3 hs67 rfl rfl (ats_own (i := 0) (vs := [_]) rfl rfl)) rfl ?_
       refine w_pure (want_yes rfl rfl rfl) (y_shr (x := _) (y := (m.trains[i]'hi2).shop.toNat) rfl rfl rfl rfl rfl (by first | rfl | omega) (by first | omega | exact shr_lt (by omega))) rfl ?_
       refine w_pure (want_yes rfl rfl rfl) (show Yd _ _ _ _ (.int .i64 ((bit b (m.trains[i]'hi2).shop.toNat : Nat) : Int)) from (y_and (x := _) (y := 1) rfl rfl rfl rfl rfl rfl (by first | omega | exact shr_lt (by omega)) (by first | omega | exact shr_lt (by omega)))) rfl ?_
       refine w_pure (want_yes rfl rfl rfl) (y_eql rfl rfl rfl rfl) rfl ?_
       refine w_pure want_none (y_pickF (v := .bool _) rfl rfl rfl rfl) rfl ?_
       refine w_pure want_none (y_move (v := .bool _) rfl rfl) rfl ?_
       refine w_split (fun h73 => ?_) (fun h73 => ?_)
       ·
        try simp only [Bool.not_eq_true', Bool.not_eq_false', decide_eq_true_eq, decide_eq_false_iff_not, Int.not_lt, Int.not_le] at h73
        refine w_skipop rfl rfl rfl ?_
        refine w_skipop rfl rfl rfl ?_
        refine w_skipop rfl rfl rfl ?_
        refine w_skipop rfl rfl rfl ?_
        refine w_pure want_none (y_pickT (v := _) rfl rfl rfl rfl) rfl ?_
        refine w_nil ?_
        refine q_then (hK70 _ _ ?_)
        refine w_condT rfl rfl ?_
        refine w_exit ?_
        refine q_then_exit ?_
        refine q_blk_this ?_
        refine q_then (hK59 _ _ ?_)
        refine w_region ?_
        refine w_pure want_none (y_add rfl rfl rfl rfl (by omega) (by omega)) rfl ?_
        refine w_pure want_none (y_move (v := .int _ _) rfl rfl) rfl ?_
        refine w_nil ?_
        refine q_then (hN51 _ _ (Nx.intro (m.trains.length - (i + 1)) (by omega) (by repeat (first | exact agree_mix | refine agree_upd rfl ?_ | refine agree_updL rfl ?_ _ | refine agree_mixin rfl ?_)) ?_))
        first
          | exact ⟨i + 1, rfl, by omega, rfl, by rw [capsU_skip hi2 (by first | exact .inl (by omega) | exact .inr (.inl (bit_zero_of (by assumption))) | exact .inr (.inr (by assumption)))]; exact hs67.tail⟩
          | exact ⟨i + 1, rfl, by omega, rfl, by rw [capsU_add hi2 (fun h => by rcases h with h | h | h; omega; omega; simp_all)]; exact hs67.tail⟩
       ·
        try simp only [Bool.not_eq_true', Bool.not_eq_false', decide_eq_true_eq, decide_eq_false_iff_not, Int.not_lt, Int.not_le] at h73
        refine w_pure (want_yes rfl rfl rfl) (y_move (v := .func _ _ _) rfl rfl) rfl ?_
        refine w_pure (want_yes rfl rfl rfl) (y_move (v := .int _ _) rfl rfl) rfl ?_
        refine w_call (want_yes rfl rfl rfl) Try.call65 rfl rfl rfl rfl (c65 m _ mb mm hk.cons.cons.cons.cons.cons.cons i hi2 hs67) ?_
        rintro _ w75 ⟨rfl, hs76⟩
        refine w_pure (want_yes rfl rfl rfl) (y_not rfl rfl) rfl ?_
        refine w_pure want_none (y_pickF (v := .bool _) rfl rfl rfl rfl) rfl ?_
        refine w_nil ?_
        refine q_then (hK70 _ _ ?_)
        refine w_cond rfl rfl (fun h77 => ?_) (fun h77 => ?_)
        ·
         try simp only [Bool.not_eq_true', Bool.not_eq_false', decide_eq_true_eq, decide_eq_false_iff_not, Int.not_lt, Int.not_le] at h77
         refine w_exit ?_
         refine q_then_exit ?_
         refine q_blk_this ?_
         refine q_then (hK59 _ _ ?_)
         refine w_region ?_
         refine w_pure want_none (y_add rfl rfl rfl rfl (by omega) (by omega)) rfl ?_
         refine w_pure want_none (y_move (v := .int _ _) rfl rfl) rfl ?_
         refine w_nil ?_
         refine q_then (hN51 _ _ (Nx.intro (m.trains.length - (i + 1)) (by omega) (by repeat (first | exact agree_mix | refine agree_upd rfl ?_ | refine agree_updL rfl ?_ _ | refine agree_mixin rfl ?_)) ?_))
         first
           | exact ⟨i + 1, rfl, by omega, rfl, by rw [capsU_skip hi2 (by first | exact .inl (by omega) | exact .inr (.inl (bit_zero_of (by assumption))) | exact .inr (.inr (by assumption)))]; exact hs76.tail⟩
           | exact ⟨i + 1, rfl, by omega, rfl, by rw [capsU_add hi2 (fun h => by rcases h with h | h | h; omega; omega; simp_all)]; exact hs76.tail⟩
        ·
         try simp only [Bool.not_eq_true', Bool.not_eq_false', decide_eq_true_eq, decide_eq_false_iff_not, Int.not_lt, Int.not_le] at h77
         refine w_skip ?_
         refine q_then (hK68 _ _ ?_)
         refine w_draw [8] [(0, 0), (1, 1), (2, 0), (3, 1), (4, 0), (5, 1), (6, 0), (7, 0), (8, 3)] Try_mo (by kernel_rfl) hs76 (fun w78 hs79 => ?_)
         refine d_any rfl want_none rfl (fun _ => (y_fieldAddr (o := 0) (i := 0) Try.underlying63 rfl Try.sizeOf3 rfl rfl rfl)) ?_
         refine d_take rfl want_none rfl hs79 (fun _ hq => (y_load1 Try.isAgg3 hq rfl rfl (ats_own (i := 0) (vs := [_]) rfl rfl))) ?_
         refine d_any rfl want_none rfl (fun _ => (y_indexA Try.underlying90 Try.sizeOf3 rfl rfl rfl rfl (i := (m.trains[i]'hi2).room.toNat) (by first | rfl | omega) (by omega))) ?_
         refine d_take rfl want_none rfl hs79 (fun _ hq => (y_load1 Try.isAgg3 hq rfl rfl (ats_ints (i := 1) (j := (m.trains[i]'hi2).room.toNat) rfl (by first | omega | rfl | (simp only [hx.1, lacksTo_len, lacksV_len, capsU_len, List.length_map, List.length_set, List.length_append, List.length_take, List.length_drop, List.length_replicate, List.length_cons, List.length_nil] <;> omega))))) ?_
         refine d_any rfl want_none rfl (fun _ => (y_fieldAddr (o := 3) (i := 3) Try.underlying63 rfl Try.sizeOf3 rfl rfl rfl)) ?_
         refine d_take rfl want_none rfl hs79 (fun _ hq => (y_load1 Try.isAgg3 hq rfl rfl (ats_own (i := 0) (vs := [_]) rfl rfl))) ?_
         refine d_any rfl want_none rfl (fun _ => (y_add rfl rfl rfl rfl (by omega) (by omega))) ?_
         refine d_any rfl want_none rfl (fun _ => (y_indexA Try.underlying90 Try.sizeOf3 rfl rfl rfl rfl (i := (m.trains[i]'hi2).room.toNat) (by first | rfl | omega) (by omega))) ?_
         refine d_late rfl ?_
         refine w_storeAtI (i := 1) (j := (m.trains[i]'hi2).room.toNat) want_none Try.sizeOf3 rfl rfl rfl rfl hs79 rfl (by first | omega | rfl | (simp only [hx.1, lacksTo_len, lacksV_len, capsU_len, List.length_map, List.length_set, List.length_append, List.length_take, List.length_drop, List.length_replicate, List.length_cons, List.length_nil] <;> omega)) (fun w80 hs81 => ?_)
         refine w_nil ?_
         refine qn ?_
         refine d_nil ?_
         refine q_blk_normal ?_
         refine q_then (hK59 _ _ ?_)
         refine w_region ?_
         refine w_pure want_none (y_add rfl rfl rfl rfl (by omega) (by omega)) rfl ?_
         refine w_pure want_none (y_move (v := .int _ _) rfl rfl) rfl ?_
         refine w_nil ?_
         refine q_then (hN51 _ _ (Nx.intro (m.trains.length - (i + 1)) (by omega) (by repeat (first | exact agree_mix | refine agree_upd rfl ?_ | refine agree_updL rfl ?_ _ | refine agree_mixin rfl ?_)) ?_))
         first
           | exact ⟨i + 1, rfl, by omega, rfl, by rw [capsU_skip hi2 (by first | exact .inl (by omega) | exact .inr (.inl (bit_zero_of (by assumption))) | exact .inr (.inr (by assumption)))]; exact hs81.tail⟩
           | exact ⟨i + 1, rfl, by omega, rfl, by rw [capsU_add hi2 (fun h => by rcases h with h | h | h; omega; omega; simp_all)]; exact hs81.tail⟩
     ·
      try simp only [Bool.not_eq_true', Bool.not_eq_false', decide_eq_true_eq, decide_eq_false_iff_not, Int.not_lt, Int.not_le] at h58
      refine w_exit ?_
      refine q_then_exit ?_
      refine q_then_exit ?_
      refine q_blk_this ?_
      refine q_then (hK47 _ _ ?_)
      refine w_seq (fun K83 hK82 => ?_)
      refine w_seq (fun K85 hK84 => ?_)
      refine w_region ?_
      refine w_pure want_none (y_fieldAddr (o := 3) (i := 1) Try.underlying93 rfl Try.sizeOf91 rfl rfl rfl) rfl ?_
      refine w_pure want_none (y_loadIP (o := 3) (i := 3) Try.isAgg91 Try.sizeOf91 (by first | omega | rfl | (simp only [hx.1, lacksTo_len, lacksV_len, capsU_len, List.length_map, List.length_set, List.length_append, List.length_take, List.length_drop, List.length_replicate, List.length_cons, List.length_nil] <;> omega)) hs rfl rfl rfl) rfl ?_
      refine w_pure want_none (y_move (v := _) rfl rfl) rfl ?_
      refine w_nil ?_
      refine q_then (hK84 _ _ ?_)
      refine w_block ?_
      refine w_loop [12, 13, 72, 73, 74, 75, 76, 77, 78, 79, 80, 81, 82, 83, 84, 85, 86, 87] [72] (fun k vs w => ∃ j : Nat, vs = [.int .i64 j] ∧ j ≤ 4 ∧ k = 4 - j ∧ St w0 w ((b42, blk 90 (iv (capsU m (x.getD 7 0) b m.trains.length))) :: (b15, blk 123 (iv (List.replicate 16 0))) :: (b6, blk 123 (iv ((lacksTo m x b).set b (wantU x b j)))) :: (b3, blk 93 (iv x)) :: (mm, .map es ck) :: F)) (4) ?_ ?_
      ·
       exact ⟨0, rfl, by omega, by omega, by have hil : i = m.trains.length := (by omega); subst hil; rw [show wantU x b 0 = 0 from rfl, set_zero]; exact hs⟩
      ·
       intro k vs μ w88 hI K87 hN86
       obtain ⟨j, rfl, hja, rfl, hs⟩ := hI
       refine w_seq (fun K90 hK89 => ?_)
       refine w_region ?_
       refine w_pure want_none (y_lss rfl rfl rfl rfl) rfl ?_
       refine w_nil ?_
       refine q_then (hK89 _ _ ?_)
       refine w_seq (fun K92 hK91 => ?_)
       refine w_cond rfl rfl (fun h93 => ?_) (fun h93 => ?_)
       ·
        try simp only [Bool.not_eq_true', Bool.not_eq_false', decide_eq_true_eq, decide_eq_false_iff_not, Int.not_lt, Int.not_le] at h93
        refine w_skip ?_
        refine q_then (hK91 _ _ ?_)
        refine w_seq (fun K95 hK94 => ?_)
        refine w_block ?_
        refine w_seq (fun K97 hK96 => ?_)
        refine w_region ?_
        refine w_pure want_none (y_move (v := .int _ _) rfl rfl) rfl ?_
        refine w_pure want_none (y_indexV (i := j) Try.underlying91 Try.underlying3 Try.sizeOf3 rfl rfl rfl rfl rfl rfl (by omega) (by first | omega | rfl | (simp only [hx.1, lacksTo_len, lacksV_len, capsU_len, List.length_map, List.length_set, List.length_append, List.length_take, List.length_drop, List.length_replicate, List.length_cons, List.length_nil] <;> omega))) rfl ?_
        refine w_pure want_none (y_assign (v := .int _ _) rfl rfl) rfl ?_
        refine w_pure want_none (y_assign (v := .int _ _) rfl rfl) rfl ?_
        refine w_nil ?_
        refine q_then (hK96 _ _ ?_)
        have hw1 := wantU_bound hx.2 b j
        have hgw := drop_get (x := x) (show j < 4 by omega)
        have hw2 := getD_in (by omega) (by omega) hx.2 (3 + j)
        rw [← hgw] at hw2
        have hw3 := mul_bit (b := b) (j := j) (a := 10000) (by omega) hw2
        have hw4 := getD_set (l := lacksTo m x b) (b := b) (v := wantU x b j) (by rw [lacksTo_len]; omega)
        refine w_draw [11] [(0, 0), (1, 0), (2, 1), (3, 0), (4, 0), (5, 0), (6, 0), (7, 0), (8, 0), (9, 0), (10, 0), (11, 3)] Try_mo (by kernel_rfl) hs (fun w98 hs99 => ?_)
        refine d_any rfl want_none rfl (fun _ => (y_move (v := .int _ _) rfl rfl)) ?_
        refine d_any rfl want_none rfl (fun _ => (y_indexA Try.underlying123 Try.sizeOf3 rfl rfl rfl rfl (i := b) (by first | rfl | omega) (by omega))) ?_
        refine d_take rfl want_none rfl hs99 (fun _ hq => (y_load1 Try.isAgg3 hq rfl rfl (ats_ints (i := 2) (j := b) rfl (by first | omega | rfl | (simp only [hx.1, lacksTo_len, lacksV_len, capsU_len, List.length_map, List.length_set, List.length_append, List.length_take, List.length_drop, List.length_replicate, List.length_cons, List.length_nil] <;> omega))))) ?_
        refine d_any rfl want_none rfl (fun _ => (y_move (v := .int _ _) rfl rfl)) ?_
        refine d_any rfl want_none rfl (fun _ => (y_move (v := .int _ _) rfl rfl)) ?_
        refine d_any rfl want_none rfl (fun _ => (y_move (v := .int _ _) rfl rfl)) ?_
        refine d_any rfl want_none rfl (fun _ => (y_shr (x := _) (y := _) rfl rfl rfl rfl rfl rfl (by first | omega | exact shr_lt (by omega)))) ?_
        refine d_any rfl want_none rfl (fun _ => (show Yd _ _ _ _ (.int .i64 ((bit b j : Nat) : Int)) from (y_and (x := _) (y := 1) rfl rfl rfl rfl rfl rfl (by first | omega | exact shr_lt (by omega)) (by first | omega | exact shr_lt (by omega))))) ?_
        refine d_any rfl want_none rfl (fun _ => (y_mul rfl rfl rfl rfl (by omega) (by omega))) ?_
        refine d_any rfl want_none rfl (fun _ => (y_add rfl rfl rfl rfl (by omega) (by omega))) ?_
        refine d_any rfl want_none rfl (fun _ => (y_indexA Try.underlying123 Try.sizeOf3 rfl rfl rfl rfl (i := b) (by first | rfl | omega) (by omega))) ?_
        refine d_late rfl ?_
        refine w_storeAtI (i := 2) (j := b) want_none Try.sizeOf3 rfl rfl rfl rfl hs99 rfl (by first | omega | rfl | (simp only [hx.1, lacksTo_len, lacksV_len, capsU_len, List.length_map, List.length_set, List.length_append, List.length_take, List.length_drop, List.length_replicate, List.length_cons, List.length_nil] <;> omega)) (fun w100 hs101 => ?_)
        refine w_nil ?_
        refine qn ?_
        refine d_nil ?_
        refine q_blk_normal ?_
        refine q_then (hK94 _ _ ?_)
        refine w_region ?_
        refine w_pure want_none (y_add rfl rfl rfl rfl (by omega) (by omega)) rfl ?_
        refine w_pure want_none (y_move (v := .int _ _) rfl rfl) rfl ?_
        refine w_nil ?_
        refine q_then (hN86 _ _ (Nx.intro (4 - (j + 1)) (by omega) (by repeat (first | exact agree_mix | refine agree_upd rfl ?_ | refine agree_updL rfl ?_ _ | refine agree_mixin rfl ?_)) ?_))
        exact ⟨j + 1, rfl, by omega, rfl, by rw [← set_want hb16 (by omega)]; exact hs101⟩
       ·
        try simp only [Bool.not_eq_true', Bool.not_eq_false', decide_eq_true_eq, decide_eq_false_iff_not, Int.not_lt, Int.not_le] at h93
        refine w_exit ?_
        refine q_then_exit ?_
        refine q_then_exit ?_
        refine q_blk_this ?_
        refine q_then (hK82 _ _ ?_)
        refine w_seq (fun K103 hK102 => ?_)
        refine w_region ?_
        refine w_pure want_none (y_loadI (i := 0) Try.isAgg90 Try.sizeOf90 (by first | omega | rfl | (simp only [hx.1, lacksTo_len, lacksV_len, capsU_len, List.length_map, List.length_set, List.length_append, List.length_take, List.length_drop, List.length_replicate, List.length_cons, List.length_nil] <;> omega)) hs rfl rfl rfl) rfl ?_
        refine w_pure want_none (y_move (v := _) rfl rfl) rfl ?_
        refine w_nil ?_
        refine q_then (hK102 _ _ ?_)
        refine w_block ?_
        refine w_loop [14, 15, 89, 90, 91, 92, 93, 94, 95, 96, 97, 98, 99, 100, 101, 102, 103, 104] [89] (fun k vs w => ∃ q : Nat, vs = [.int .i64 q] ∧ q ≤ 3 ∧ k = 3 - q ∧ St w0 w ((b42, blk 90 (iv (capsU m (x.getD 7 0) b m.trains.length))) :: (b15, blk 123 (iv (List.replicate 16 0))) :: (b6, blk 123 (iv ((lacksTo m x b).set b (wantU x b 4 - handU (capsU m (x.getD 7 0) b m.trains.length) x q)))) :: (b3, blk 93 (iv x)) :: (mm, .map es ck) :: F)) (3) ?_ ?_
        ·
         exact ⟨0, rfl, by omega, by omega, by have hj4 : j = 4 := (by omega); subst hj4; rw [show handU (capsU m (x.getD 7 0) b m.trains.length) x 0 = 0 from rfl, Int.sub_zero]; exact hs⟩
        ·
         intro k vs μ w106 hI K105 hN104
         obtain ⟨q, rfl, hqa, rfl, hs⟩ := hI
         refine w_seq (fun K108 hK107 => ?_)
         refine w_region ?_
         refine w_pure want_none (y_lss rfl rfl rfl rfl) rfl ?_
         refine w_nil ?_
         refine q_then (hK107 _ _ ?_)
         refine w_seq (fun K110 hK109 => ?_)
         refine w_cond rfl rfl (fun h111 => ?_) (fun h111 => ?_)
         ·
          try simp only [Bool.not_eq_true', Bool.not_eq_false', decide_eq_true_eq, decide_eq_false_iff_not, Int.not_lt, Int.not_le] at h111
          refine w_skip ?_
          refine q_then (hK109 _ _ ?_)
          refine w_seq (fun K113 hK112 => ?_)
          refine w_block ?_
          refine w_seq (fun K115 hK114 => ?_)
          refine w_region ?_
          refine w_pure want_none (y_move (v := .int _ _) rfl rfl) rfl ?_
          refine w_pure want_none (y_indexV (i := q) Try.underlying90 Try.underlying3 Try.sizeOf3 rfl rfl rfl rfl rfl rfl (by omega) (by first | omega | rfl | (simp only [hx.1, lacksTo_len, lacksV_len, capsU_len, List.length_map, List.length_set, List.length_append, List.length_take, List.length_drop, List.length_replicate, List.length_cons, List.length_nil] <;> omega))) rfl ?_
          refine w_pure want_none (y_assign (v := .int _ _) rfl rfl) rfl ?_
          refine w_pure want_none (y_assign (v := .int _ _) rfl rfl) rfl ?_
          refine w_nil ?_
          refine q_then (hK114 _ _ ?_)
          have hw1 := wantU_bound hx.2 b 4
          have hcc := caps_in hk.ok (x.getD 7 0) b m.trains.length (Nat.le_refl _)
          have hh1 := handU_bound hcc hx.2 q
          have hh2 := getD_in (by omega) (by omega) hx.2 q
          have hh3 := getD_in (by omega) (by omega) hcc q
          have hw4 := getD_set (l := lacksTo m x b) (b := b) (v := wantU x b 4 - handU (capsU m (x.getD 7 0) b m.trains.length) x q) (by rw [lacksTo_len]; omega)
          refine w_draw [11] [(0, 0), (1, 0), (2, 1), (3, 0), (4, 0), (5, 0), (6, 0), (7, 1), (8, 0), (9, 0), (10, 0), (11, 3)] Try_mo (by kernel_rfl) hs (fun w116 hs117 => ?_)
          refine d_any rfl want_none rfl (fun _ => (y_move (v := .int _ _) rfl rfl)) ?_
          refine d_any rfl want_none rfl (fun _ => (y_indexA Try.underlying123 Try.sizeOf3 rfl rfl rfl rfl (i := b) (by first | rfl | omega) (by omega))) ?_
          refine d_take rfl want_none rfl hs117 (fun _ hq => (y_load1 Try.isAgg3 hq rfl rfl (ats_ints (i := 2) (j := b) rfl (by first | omega | rfl | (simp only [hx.1, lacksTo_len, lacksV_len, capsU_len, List.length_map, List.length_set, List.length_append, List.length_take, List.length_drop, List.length_replicate, List.length_cons, List.length_nil] <;> omega))))) ?_
          refine d_any rfl want_none rfl (fun _ => (y_move (v := .int _ _) rfl rfl)) ?_
          refine d_any rfl want_none rfl (fun _ => (y_move (v := .int _ _) rfl rfl)) ?_
          refine d_any rfl want_none rfl (fun _ => (y_fieldAddr (o := 0) (i := 0) Try.underlying93 rfl Try.sizeOf90 rfl rfl rfl)) ?_
          refine d_any rfl want_none rfl (fun _ => (y_indexA Try.underlying90 Try.sizeOf3 rfl rfl rfl rfl (i := q) (by first | rfl | omega) (by omega))) ?_
          refine d_take rfl want_none rfl hs117 (fun _ hq => (y_load1 Try.isAgg3 hq rfl rfl (ats_ints (i := 3) (j := q) rfl (by first | omega | rfl | (simp only [hx.1, lacksTo_len, lacksV_len, capsU_len, List.length_map, List.length_set, List.length_append, List.length_take, List.length_drop, List.length_replicate, List.length_cons, List.length_nil] <;> omega))))) ?_
          refine d_any rfl want_none rfl (fun _ => (y_min2 rfl rfl rfl rfl)) ?_
          refine d_any rfl want_none rfl (fun _ => (y_sub rfl rfl rfl rfl (by omega) (by omega))) ?_
          refine d_any rfl want_none rfl (fun _ => (y_indexA Try.underlying123 Try.sizeOf3 rfl rfl rfl rfl (i := b) (by first | rfl | omega) (by omega))) ?_
          refine d_late rfl ?_
          refine w_storeAtI (i := 2) (j := b) want_none Try.sizeOf3 rfl rfl rfl rfl hs117 rfl (by first | omega | rfl | (simp only [hx.1, lacksTo_len, lacksV_len, capsU_len, List.length_map, List.length_set, List.length_append, List.length_take, List.length_drop, List.length_replicate, List.length_cons, List.length_nil] <;> omega)) (fun w118 hs119 => ?_)
          refine w_nil ?_
          refine qn ?_
          refine d_nil ?_
          refine q_blk_normal ?_
          refine q_then (hK112 _ _ ?_)
          refine w_region ?_
          refine w_pure want_none (y_add rfl rfl rfl rfl (by omega) (by omega)) rfl ?_
          refine w_pure want_none (y_move (v := .int _ _) rfl rfl) rfl ?_
          refine w_nil ?_
          refine q_then (hN104 _ _ (Nx.intro (3 - (q + 1)) (by omega) (by repeat (first | exact agree_mix | refine agree_upd rfl ?_ | refine agree_updL rfl ?_ _ | refine agree_mixin rfl ?_)) ?_))
          exact ⟨q + 1, rfl, by omega, rfl, by rw [← set_hand hb16]; exact hs119⟩
         ·
          try simp only [Bool.not_eq_true', Bool.not_eq_false', decide_eq_true_eq, decide_eq_false_iff_not, Int.not_lt, Int.not_le] at h111
          refine w_exit ?_
          refine q_then_exit ?_
          refine q_then_exit ?_
          refine q_blk_this ?_
          refine q_ng_normal ?_
          refine q_blk_normal ?_
          refine q_then (hK36 _ _ ?_)
          refine w_region ?_
          refine w_pure want_none (y_add rfl rfl rfl rfl (by omega) (by omega)) rfl ?_
          refine w_pure want_none (y_move (v := .int _ _) rfl rfl) rfl ?_
          refine w_nil ?_
          refine q_then (hN28 _ _ (Nx.intro (16 - (b + 1)) (by omega) (by repeat (first | exact agree_mix | refine agree_upd rfl ?_ | refine agree_updL rfl ?_ _ | refine agree_mixin rfl ?_)) ?_))
          exact ⟨b + 1, rfl, by omega, rfl, by have hq3 : q = 3 := (by omega); subst hq3; rw [← set_done hb16]; exact hs.tail⟩
   ·
    try simp only [Bool.not_eq_true', Bool.not_eq_false', decide_eq_true_eq, decide_eq_false_iff_not, Int.not_lt, Int.not_le] at h35
    refine w_exit ?_
    refine q_then_exit ?_
    refine q_then_exit ?_
    refine q_blk_this ?_
    refine q_then (hK24 _ _ ?_)
    refine w_seq (fun K121 hK120 => ?_)
    have hb16 : b = 16 := by omega
    subst hb16
    rw [lacksTo_all] at hs
    refine w_draw [6] [(0, 0), (1, 0), (2, 0), (3, 1), (4, 1), (5, 1), (6, 3)] Try_mo (by kernel_rfl) hs (fun w122 hs123 => ?_)
    refine d_any rfl want_none rfl (fun _ => (y_move (v := .pointer _) rfl rfl)) ?_
    refine d_any rfl want_none rfl (fun _ => (y_nilCheck rfl rfl)) ?_
    refine d_any rfl want_none rfl (fun _ => (y_fieldAddr (o := 3) (i := 1) Try.underlying122 rfl Try.sizeOf120 rfl rfl rfl)) ?_
    refine d_take rfl want_none rfl hs123 (fun _ hq => (y_load1 Try.isAgg120 hq.tail.tail.tail.tail rfl rfl (show Ats _ _ _ _ [_] from Ats.part hb 3 1))) ?_
    refine d_take rfl want_none rfl hs123 (fun _ hq => (y_loadI (i := 2) Try.isAgg93 Try.sizeOf93 (by first | omega | rfl | (simp only [hx.1, lacksTo_len, lacksV_len, capsU_len, List.length_map, List.length_set, List.length_append, List.length_take, List.length_drop, List.length_replicate, List.length_cons, List.length_nil] <;> omega)) hq rfl rfl rfl)) ?_
    refine d_take rfl want_none rfl hs123 (fun _ hq => (y_loadI (i := 1) Try.isAgg123 Try.sizeOf123 (by first | omega | rfl | (simp only [hx.1, lacksTo_len, lacksV_len, capsU_len, List.length_map, List.length_set, List.length_append, List.length_take, List.length_drop, List.length_replicate, List.length_cons, List.length_nil] <;> omega)) hq rfl rfl rfl)) ?_
    refine d_late rfl ?_
    refine K_mapAdd (i := 3) (l := x) want_none Try.underlying120 key93 hx.1 rfl rfl rfl rfl rfl rfl rfl hs123 rfl hf (fun w124 hs125 => ?_)
    refine w_nil ?_
    refine qn ?_
    refine d_nil ?_
    refine q_then (hK120 _ _ ?_)
    refine w_seq (fun K127 hK126 => ?_)
    refine w_region ?_
    refine w_pure want_none (y_loadI (i := 1) Try.isAgg123 Try.sizeOf123 (by first | omega | rfl | (simp only [hx.1, lacksTo_len, lacksV_len, capsU_len, List.length_map, List.length_set, List.length_append, List.length_take, List.length_drop, List.length_replicate, List.length_cons, List.length_nil] <;> omega)) hs125 rfl rfl rfl) rfl ?_
    refine w_storeI (i := 1) (l := _) want_none Try.sizeOf123 (by first | omega | rfl | (simp only [hx.1, lacksTo_len, lacksV_len, capsU_len, List.length_map, List.length_set, List.length_append, List.length_take, List.length_drop, List.length_replicate, List.length_cons, List.length_nil] <;> omega)) rfl rfl rfl rfl rfl hs125 rfl (by first | omega | rfl | (simp only [hx.1, lacksTo_len, lacksV_len, capsU_len, List.length_map, List.length_set, List.length_append, List.length_take, List.length_drop, List.length_replicate, List.length_cons, List.length_nil] <;> omega)) (fun w128 hs129 => ?_)
    refine w_nil ?_
    refine q_then (hK126 _ _ ?_)
    refine w_ret ?_
    refine q_ret (l := [.cell 4 123]) (vs := [_]) rfl ⟨⟨rfl, _, rfl, run_loadI (i := 1) Try.isAgg123 Try.sizeOf123 (by first | omega | rfl | (simp only [hx.1, lacksTo_len, lacksV_len, capsU_len, List.length_map, List.length_set, List.length_append, List.length_take, List.length_drop, List.length_replicate, List.length_cons, List.length_nil] <;> omega)) hs129 rfl⟩, trivial⟩ ?_
    exact ⟨rfl, hs129.tail.tail.tail⟩

theorem lacks_con {w0 w : World} {X M F : List (Nat × Obj)} (m : Market) (p : At3) (mb mm : Nat) (hk : MK w0 F m p mb mm)  (x : List Int) (hx : Small x) (hM : Memo m mm M) (hs : St w0 w (X ++ (M ++ F))) :
    Con Try.prog 89 [.pointer (some ⟨mb, 0, none⟩), ia x] w fun v w' => v = ia (lacksV m x) ∧ ∃ M', Memo m mm M' ∧ St w0 w' (X ++ (M' ++ F)) := by
  obtain ⟨es, ck, rfl, hes⟩ := hM
  have hs1 : St w0 w ((mm, .map es ck) :: (X ++ F)) := hs.perm (perm_mid X [(mm, .map es ck)] F)
  rcases K_findKey key93 hx.1 es.toList (fun e he => by obtain ⟨y, h1, h2, _⟩ := hes e he; exact ⟨y, h1, h2⟩) with ⟨hf, hne⟩ | ⟨j, e, hf, hmem, hkey⟩
  · refine (c89n m p mb mm hk.app x hx es ck hf hs1).mono ?_
    rintro v w' ⟨rfl, hs2⟩
    refine ⟨rfl, [(mm, .map (es.push { key := ia x, val := ia (lacksV m x), born := ck }) (ck + 1))], ⟨_, _, rfl, fun e he => ?_⟩, hs2.perm (perm_mid [_] X F)⟩
    rw [Array.toList_push, List.mem_append] at he
    rcases he with he | he
    · exact hes e he
    · rw [List.mem_singleton] at he
      subst he
      exact ⟨x, hx.1, rfl, rfl⟩
  · obtain ⟨y, h1, h2, h3⟩ := hes e hmem
    have hyx : y = x := ia_inj (h2.symm.trans hkey)
    subst hyx
    rw [h3] at hf
    refine (c89f m p mb mm hk.app y hx es ck j _ (lacksV_len m y) hf hs1).mono ?_
    rintro v w' ⟨rfl, hs2⟩
    exact ⟨rfl, _, ⟨es, ck, rfl, hes⟩, hs2.perm (perm_mid [_] X F)⟩
end Go.Proofs
/- Walks of this seat, printed by gen.py over the engine: what each function returns, in whatever world. No conditions but those of each contract. -/
set_option linter.unusedVariables false
set_option linter.unusedSimpArgs false
set_option maxRecDepth 20000
namespace Go.Proofs
open Go.Rt Go.Rt.Sh
attribute [local irreducible] WL WC Con Yd At Ats Sl Agree DW

theorem c70 {w0 w : World} {X M F : List (Nat × Obj)} (m : Market) (p : At3) (mb mm : Nat) (hk : MK w0 F m p mb mm) (x : List Int) (hx : Small x) (sub : Nat) (hM : Memo m mm M) (hs : St w0 w (X ++ (M ++ F))) :
  Con Try.prog 70 [.pointer (some ⟨mb, 0, none⟩), ia x, .int .i64 sub] w fun v w' => ∃ B a c M', v = .tuple #[.slice a (worst m x sub).1.length c, .int .i64 (worst m x sub).2] ∧ Sl w0 B a 1 ((worst m x sub).1.map fun x => [Value.int .i64 x]) ∧ Memo m mm M' ∧ St w0 w' (B ++ (X ++ (M' ++ F))) := by
  refine con_of_wc (n := 52) Try.func70 rfl rfl (Nat.le_of_ble_eq_true rfl) ?_
  have hb := hk.b
  have hlr := hk.ok.lr
  have hls := hk.ok.ls
  have hlt := hk.ok.lt
  refine w_seq (fun K2 hK1 => ?_)
  refine w_region ?_
  refine w_boxI (l := _) want_none rfl rfl rfl hs (fun b3 w4 hs5 => ?_)
  refine w_pure want_none (y_assign (v := _) rfl rfl) rfl ?_
  refine w_pure want_none (y_assign (v := _) rfl rfl) rfl ?_
  refine w_nil ?_
  refine q_then (hK1 _ _ ?_)
  refine w_seq (fun K7 hK6 => ?_)
  refine w_seq (fun K9 hK8 => ?_)
  refine w_region ?_
  refine w_pure want_none (y_move (v := .pointer _) rfl rfl) rfl ?_
  refine w_pure want_none (y_loadI (i := 0) Try.isAgg93 Try.sizeOf93 (by first | omega | rfl | (simp only [hx.1, lacksV_len, List.length_map, List.length_set, List.length_append, List.length_take, List.length_drop, List.length_replicate, List.length_cons, List.length_nil] <;> omega)) hs5 rfl rfl rfl) rfl ?_
  refine w_call want_none Try.call89 rfl rfl rfl rfl (lacks_con (X := (_ :: X)) m p mb mm hk x hx hM hs5) ?_
  rintro _ w11 ⟨rfl, M13, hM13, hs12⟩
  replace hs12 := (show St _ _ (_ :: X ++ (M13 ++ (F))) from hs12)
  refine w_pure want_none (y_move (v := _) rfl rfl) rfl ?_
  refine w_nil ?_
  refine q_then (hK8 _ _ ?_)
  refine w_block ?_
  refine w_loop [6, 7, 8, 9, 10, 14, 15, 16, 17, 18, 19, 20, 21, 22, 23, 24, 25, 26, 27, 28, 29, 30, 31, 32, 33, 34, 35, 36, 37, 38, 39, 40, 41, 42, 43, 44, 45, 46, 47, 48, 49] [6, 7, 14] (fun k vs w => ∃ (b : Nat) (av : Option Addr) (cv : Nat) (B : List (Nat × Obj)), vs = [.slice av (worstTo m.shops.length sub (lacksV m x) b).1.length cv, .int .i64 (worstTo m.shops.length sub (lacksV m x) b).2, .int .i64 b] ∧ b ≤ 16 ∧ k = 16 - b ∧ Sl w0 B av 1 ((worstTo m.shops.length sub (lacksV m x) b).1.map fun x => [Value.int .i64 x]) ∧ St w0 w (B ++ ((b3, blk 93 (iv x)) :: (X ++ (M13 ++ F))))) (16) ?_ ?_
  ·
   exact ⟨0, _, _, [], rfl, by omega, by omega, Sl.nil _ _, hs12⟩
  ·
   intro k vs μ w17 hI K16 hN15
   obtain ⟨b, av, cv, B, rfl, hba, rfl, hsl, hs⟩ := hI
   refine w_seq (fun K19 hK18 => ?_)
   refine w_region ?_
   refine w_pure want_none (y_lss rfl rfl rfl rfl) rfl ?_
   refine w_nil ?_
   refine q_then (hK18 _ _ ?_)
   refine w_seq (fun K21 hK20 => ?_)
   refine w_cond rfl rfl (fun h22 => ?_) (fun h22 => ?_)
   ·
    try simp only [Bool.not_eq_true', Bool.not_eq_false', decide_eq_true_eq, decide_eq_false_iff_not, Int.not_lt, Int.not_le] at h22
    refine w_skip ?_
    refine q_then (hK20 _ _ ?_)
    refine w_seq (fun K24 hK23 => ?_)
    refine w_block ?_
    refine w_seq (fun K26 hK25 => ?_)
    have hb16 : b < 16 := by omega
    have hlb := lackB_bound hk.ok hx b
    rw [← lacksV_get hb16] at hlb
    refine w_region ?_
    refine w_pure want_none (y_move (v := .int _ _) rfl rfl) rfl ?_
    refine w_pure want_none (y_indexV (i := b) Try.underlying123 Try.underlying3 Try.sizeOf3 rfl rfl rfl rfl rfl rfl (by omega) (by first | omega | rfl | (simp only [hx.1, lacksV_len, List.length_map, List.length_set, List.length_append, List.length_take, List.length_drop, List.length_replicate, List.length_cons, List.length_nil] <;> omega))) rfl ?_
    refine w_pure want_none (y_assign (v := .int _ _) rfl rfl) rfl ?_
    refine w_pure want_none (y_assign (v := .int _ _) rfl rfl) rfl ?_
    refine w_nil ?_
    refine q_then (hK25 _ _ ?_)
    refine w_seq (fun K28 hK27 => ?_)
    refine w_seq (fun K30 hK29 => ?_)
    refine w_region ?_
    refine w_pure want_none (y_move (v := .int _ _) rfl rfl) rfl ?_
    refine w_pure want_none (y_move (v := .int _ _) rfl rfl) rfl ?_
    refine w_pure want_none (y_andNot (x := b) (y := sub) rfl rfl rfl rfl (by first | rfl | omega) (by first | rfl | omega) (by first | omega | exact shr_lt (by omega))) rfl ?_
    refine w_pure want_none (y_neq rfl rfl rfl rfl) rfl ?_
    refine w_pure want_none (y_move (v := .bool _) rfl rfl) rfl ?_
    refine w_split (fun h31 => ?_) (fun h31 => ?_)
    ·
     try simp only [Bool.not_eq_true', Bool.not_eq_false', decide_eq_true_eq, decide_eq_false_iff_not, Int.not_lt, Int.not_le] at h31
     refine w_skipop rfl rfl rfl ?_
     refine w_skipop rfl rfl rfl ?_
     refine w_pure want_none (y_pickT (v := _) rfl rfl rfl rfl) rfl ?_
     refine w_pure want_none (y_move (v := .bool _) rfl rfl) rfl ?_
     refine w_skipop rfl rfl rfl ?_
     refine w_skipop rfl rfl rfl ?_
     refine w_skipop rfl rfl rfl ?_
     refine w_pure want_none (y_pickT (v := _) rfl rfl rfl rfl) rfl ?_
     refine w_nil ?_
     refine q_then (hK29 _ _ ?_)
     refine w_condT rfl rfl ?_
     refine w_exit ?_
     refine q_then_exit ?_
     refine q_blk_this ?_
     refine q_then (hK23 _ _ ?_)
     refine w_region ?_
     refine w_pure want_none (y_add rfl rfl rfl rfl (by omega) (by omega)) rfl ?_
     refine w_pure want_none (y_move (v := .int _ _) rfl rfl) rfl ?_
     refine w_nil ?_
     refine q_then (hN15 _ _ (Nx.intro (16 - (b + 1)) (by omega) (by repeat (first | exact agree_mix | refine agree_upd rfl ?_ | refine agree_updL rfl ?_ _ | refine agree_mixin rfl ?_)) ?_))
     first
       | exact ⟨b + 1, av, cv, B, by rw [← worstTo_pass (by first | exact .inl (by omega) | exact .inr (.inl (by omega)) | exact .inr (.inr (by omega)))]; rfl, by omega, rfl, by rw [← worstTo_pass (by first | exact .inl (by omega) | exact .inr (.inl (by omega)) | exact .inr (.inr (by omega)))]; exact hsl, hs⟩
       | (have hq := worstTo_take (n := m.shops.length) (sub := sub) (lk := lacksV m x) (k := b) (by omega) (by omega) (by omega) (by first | exact .inl (by omega) | exact .inr (by assumption))
          exact ⟨b + 1, al1, cl1, B1 ++ B, by rw [← hq]; rfl, by omega, rfl, by rw [← hq]; exact hsl1.top, by rw [List.append_assoc]; exact hs⟩)
       | (have hq := worstTo_leave (n := m.shops.length) (sub := sub) (lk := lacksV m x) (k := b) (by omega) (by omega) (by omega) (by omega) (by assumption)
          exact ⟨b + 1, av, cv, B1 ++ B, by rw [← hq]; rfl, by omega, rfl, by rw [← hq]; exact hsl.app, by rw [List.append_assoc]; exact hs⟩)
    ·
     try simp only [Bool.not_eq_true', Bool.not_eq_false', decide_eq_true_eq, decide_eq_false_iff_not, Int.not_lt, Int.not_le] at h31
     refine w_pure (want_yes rfl rfl rfl) (y_move (v := .int _ _) rfl rfl) rfl ?_
     refine w_pure (want_yes rfl rfl rfl) (y_lss rfl rfl rfl rfl) rfl ?_
     refine w_pure want_none (y_pickF (v := .bool _) rfl rfl rfl rfl) rfl ?_
     refine w_pure want_none (y_move (v := .bool _) rfl rfl) rfl ?_
     refine w_split (fun h32 => ?_) (fun h32 => ?_)
     ·
      try simp only [Bool.not_eq_true', Bool.not_eq_false', decide_eq_true_eq, decide_eq_false_iff_not, Int.not_lt, Int.not_le] at h32
      refine w_skipop rfl rfl rfl ?_
      refine w_skipop rfl rfl rfl ?_
      refine w_skipop rfl rfl rfl ?_
      refine w_pure want_none (y_pickT (v := _) rfl rfl rfl rfl) rfl ?_
      refine w_nil ?_
      refine q_then (hK29 _ _ ?_)
      refine w_condT rfl rfl ?_
      refine w_exit ?_
      refine q_then_exit ?_
      refine q_blk_this ?_
      refine q_then (hK23 _ _ ?_)
      refine w_region ?_
      refine w_pure want_none (y_add rfl rfl rfl rfl (by omega) (by omega)) rfl ?_
      refine w_pure want_none (y_move (v := .int _ _) rfl rfl) rfl ?_
      refine w_nil ?_
      refine q_then (hN15 _ _ (Nx.intro (16 - (b + 1)) (by omega) (by repeat (first | exact agree_mix | refine agree_upd rfl ?_ | refine agree_updL rfl ?_ _ | refine agree_mixin rfl ?_)) ?_))
      first
        | exact ⟨b + 1, av, cv, B, by rw [← worstTo_pass (by first | exact .inl (by omega) | exact .inr (.inl (by omega)) | exact .inr (.inr (by omega)))]; rfl, by omega, rfl, by rw [← worstTo_pass (by first | exact .inl (by omega) | exact .inr (.inl (by omega)) | exact .inr (.inr (by omega)))]; exact hsl, hs⟩
        | (have hq := worstTo_take (n := m.shops.length) (sub := sub) (lk := lacksV m x) (k := b) (by omega) (by omega) (by omega) (by first | exact .inl (by omega) | exact .inr (by assumption))
           exact ⟨b + 1, al1, cl1, B1 ++ B, by rw [← hq]; rfl, by omega, rfl, by rw [← hq]; exact hsl1.top, by rw [List.append_assoc]; exact hs⟩)
        | (have hq := worstTo_leave (n := m.shops.length) (sub := sub) (lk := lacksV m x) (k := b) (by omega) (by omega) (by omega) (by omega) (by assumption)
           exact ⟨b + 1, av, cv, B1 ++ B, by rw [← hq]; rfl, by omega, rfl, by rw [← hq]; exact hsl.app, by rw [List.append_assoc]; exact hs⟩)
     ·
      try simp only [Bool.not_eq_true', Bool.not_eq_false', decide_eq_true_eq, decide_eq_false_iff_not, Int.not_lt, Int.not_le] at h32
      refine w_pure (want_yes rfl rfl rfl) (y_move (v := .int _ _) rfl rfl) rfl ?_
      refine w_pure (want_yes rfl rfl rfl) (y_move (v := .int _ _) rfl rfl) rfl ?_
      refine w_pure (want_yes rfl rfl rfl) (y_lss rfl rfl rfl rfl) rfl ?_
      refine w_pure want_none (y_pickF (v := .bool _) rfl rfl rfl rfl) rfl ?_
      refine w_nil ?_
      refine q_then (hK29 _ _ ?_)
      refine w_cond rfl rfl (fun h33 => ?_) (fun h33 => ?_)
      ·
       try simp only [Bool.not_eq_true', Bool.not_eq_false', decide_eq_true_eq, decide_eq_false_iff_not, Int.not_lt, Int.not_le] at h33
       refine w_exit ?_
       refine q_then_exit ?_
       refine q_blk_this ?_
       refine q_then (hK23 _ _ ?_)
       refine w_region ?_
       refine w_pure want_none (y_add rfl rfl rfl rfl (by omega) (by omega)) rfl ?_
       refine w_pure want_none (y_move (v := .int _ _) rfl rfl) rfl ?_
       refine w_nil ?_
       refine q_then (hN15 _ _ (Nx.intro (16 - (b + 1)) (by omega) (by repeat (first | exact agree_mix | refine agree_upd rfl ?_ | refine agree_updL rfl ?_ _ | refine agree_mixin rfl ?_)) ?_))
       first
         | exact ⟨b + 1, av, cv, B, by rw [← worstTo_pass (by first | exact .inl (by omega) | exact .inr (.inl (by omega)) | exact .inr (.inr (by omega)))]; rfl, by omega, rfl, by rw [← worstTo_pass (by first | exact .inl (by omega) | exact .inr (.inl (by omega)) | exact .inr (.inr (by omega)))]; exact hsl, hs⟩
         | (have hq := worstTo_take (n := m.shops.length) (sub := sub) (lk := lacksV m x) (k := b) (by omega) (by omega) (by omega) (by first | exact .inl (by omega) | exact .inr (by assumption))
            exact ⟨b + 1, al1, cl1, B1 ++ B, by rw [← hq]; rfl, by omega, rfl, by rw [← hq]; exact hsl1.top, by rw [List.append_assoc]; exact hs⟩)
         | (have hq := worstTo_leave (n := m.shops.length) (sub := sub) (lk := lacksV m x) (k := b) (by omega) (by omega) (by omega) (by omega) (by assumption)
            exact ⟨b + 1, av, cv, B1 ++ B, by rw [← hq]; rfl, by omega, rfl, by rw [← hq]; exact hsl.app, by rw [List.append_assoc]; exact hs⟩)
      ·
       try simp only [Bool.not_eq_true', Bool.not_eq_false', decide_eq_true_eq, decide_eq_false_iff_not, Int.not_lt, Int.not_le] at h33
       refine w_skip ?_
       refine q_then (hK27 _ _ ?_)
       refine w_seq (fun K35 hK34 => ?_)
       have hle1 := listL_le b m.shops.length
       have hle2 := worstTo_len m.shops.length sub (lacksV m x) b
       refine w_region ?_
       refine w_pure want_none (y_move (v := .int _ _) rfl rfl) rfl ?_
       refine w_pure want_none (y_move (v := .pointer _) rfl rfl) rfl ?_
       refine w_pure want_none (y_nilCheck rfl rfl) rfl ?_
       refine w_pure want_none (y_fieldAddr (o := 0) (i := 0) Try.underlying122 rfl Try.sizeOf26 rfl rfl rfl) rfl ?_
       refine w_pure want_none (y_fieldAddr (o := 1) (i := 1) Try.underlying26 rfl Try.sizeOf23 rfl rfl rfl) rfl ?_
       refine w_pure want_none (y_load1 Try.isAgg23 hs.drop.tail.drop.drop rfl rfl (show Ats _ _ _ _ [_] from Ats.part hb 1 1)) rfl ?_
       refine w_pure want_none (y_lenS Try.underlying23 rfl rfl) rfl ?_
       refine w_call want_none Try.call90 rfl rfl rfl rfl (c90 _ _ (by omega) (by omega) hs) ?_
       rintro _ w37 ⟨B1, al1, cl1, rfl, hsl1, hs38⟩
       replace hs38 := (show St _ _ (B1 ++ (B ++ (_ :: X ++ (M13 ++ (F))))) from hs38)
       refine w_pure want_none (y_assign (v := .slice _ _ _) rfl rfl) rfl ?_
       refine w_nil ?_
       refine q_then (hK34 _ _ ?_)
       refine w_seq (fun K40 hK39 => ?_)
       refine w_region ?_
       refine w_pure want_none (y_move (v := .int _ _) rfl rfl) rfl ?_
       refine w_pure want_none (y_move (v := .int _ _) rfl rfl) rfl ?_
       refine w_pure want_none (y_gtr rfl rfl rfl rfl) rfl ?_
       refine w_pure want_none (y_move (v := .bool _) rfl rfl) rfl ?_
       refine w_split (fun h41 => ?_) (fun h41 => ?_)
       ·
        try simp only [Bool.not_eq_true', Bool.not_eq_false', decide_eq_true_eq, decide_eq_false_iff_not, Int.not_lt, Int.not_le] at h41
        refine w_skipop rfl rfl rfl ?_
        refine w_skipop rfl rfl rfl ?_
        refine w_skipop rfl rfl rfl ?_
        refine w_pure want_none (y_pickT (v := _) rfl rfl rfl rfl) rfl ?_
        refine w_nil ?_
        refine q_then (hK39 _ _ ?_)
        refine w_condT rfl rfl ?_
        refine w_region ?_
        refine w_pure want_none (y_move (v := .slice _ _ _) rfl rfl) rfl ?_
        refine w_pure want_none (y_move (v := .int _ _) rfl rfl) rfl ?_
        refine w_pure want_none (y_assign (v := .slice _ _ _) rfl rfl) rfl ?_
        refine w_pure want_none (y_assign (v := .int _ _) rfl rfl) rfl ?_
        refine w_nil ?_
        refine q_blk_normal ?_
        refine q_then (hK23 _ _ ?_)
        refine w_region ?_
        refine w_pure want_none (y_add rfl rfl rfl rfl (by omega) (by omega)) rfl ?_
        refine w_pure want_none (y_move (v := .int _ _) rfl rfl) rfl ?_
        refine w_nil ?_
        refine q_then (hN15 _ _ (Nx.intro (16 - (b + 1)) (by omega) (by repeat (first | exact agree_mix | refine agree_upd rfl ?_ | refine agree_updL rfl ?_ _ | refine agree_mixin rfl ?_)) ?_))
        first
          | exact ⟨b + 1, av, cv, B, by rw [← worstTo_pass (by first | exact .inl (by omega) | exact .inr (.inl (by omega)) | exact .inr (.inr (by omega)))]; rfl, by omega, rfl, by rw [← worstTo_pass (by first | exact .inl (by omega) | exact .inr (.inl (by omega)) | exact .inr (.inr (by omega)))]; exact hsl, hs38⟩
          | (have hq := worstTo_take (n := m.shops.length) (sub := sub) (lk := lacksV m x) (k := b) (by omega) (by omega) (by omega) (by first | exact .inl (by omega) | exact .inr (by assumption))
             exact ⟨b + 1, al1, cl1, B1 ++ B, by rw [← hq]; rfl, by omega, rfl, by rw [← hq]; exact hsl1.top, by rw [List.append_assoc]; exact hs38⟩)
          | (have hq := worstTo_leave (n := m.shops.length) (sub := sub) (lk := lacksV m x) (k := b) (by omega) (by omega) (by omega) (by omega) (by assumption)
             exact ⟨b + 1, av, cv, B1 ++ B, by rw [← hq]; rfl, by omega, rfl, by rw [← hq]; exact hsl.app, by rw [List.append_assoc]; exact hs38⟩)
       ·
        try simp only [Bool.not_eq_true', Bool.not_eq_false', decide_eq_true_eq, decide_eq_false_iff_not, Int.not_lt, Int.not_le] at h41
        refine w_pure (want_yes rfl rfl rfl) (y_move (v := .slice _ _ _) rfl rfl) rfl ?_
        refine w_pure (want_yes rfl rfl rfl) (y_move (v := .slice _ _ _) rfl rfl) rfl ?_
        refine w_call (want_yes rfl rfl rfl) Try.call91 rfl rfl rfl rfl (c91 _ _ _ _ _ _ (by omega) (by omega) hsl1.top hsl.top.app hs38) ?_
        rintro _ w43 ⟨rfl, hs44⟩
        refine w_pure want_none (y_pickF (v := .bool _) rfl rfl rfl rfl) rfl ?_
        refine w_nil ?_
        refine q_then (hK39 _ _ ?_)
        refine w_cond rfl rfl (fun h45 => ?_) (fun h45 => ?_)
        ·
         try simp only [Bool.not_eq_true', Bool.not_eq_false', decide_eq_true_eq, decide_eq_false_iff_not, Int.not_lt, Int.not_le] at h45
         refine w_region ?_
         refine w_pure want_none (y_move (v := .slice _ _ _) rfl rfl) rfl ?_
         refine w_pure want_none (y_move (v := .int _ _) rfl rfl) rfl ?_
         refine w_pure want_none (y_assign (v := .slice _ _ _) rfl rfl) rfl ?_
         refine w_pure want_none (y_assign (v := .int _ _) rfl rfl) rfl ?_
         refine w_nil ?_
         refine q_blk_normal ?_
         refine q_then (hK23 _ _ ?_)
         refine w_region ?_
         refine w_pure want_none (y_add rfl rfl rfl rfl (by omega) (by omega)) rfl ?_
         refine w_pure want_none (y_move (v := .int _ _) rfl rfl) rfl ?_
         refine w_nil ?_
         refine q_then (hN15 _ _ (Nx.intro (16 - (b + 1)) (by omega) (by repeat (first | exact agree_mix | refine agree_upd rfl ?_ | refine agree_updL rfl ?_ _ | refine agree_mixin rfl ?_)) ?_))
         first
           | exact ⟨b + 1, av, cv, B, by rw [← worstTo_pass (by first | exact .inl (by omega) | exact .inr (.inl (by omega)) | exact .inr (.inr (by omega)))]; rfl, by omega, rfl, by rw [← worstTo_pass (by first | exact .inl (by omega) | exact .inr (.inl (by omega)) | exact .inr (.inr (by omega)))]; exact hsl, hs44⟩
           | (have hq := worstTo_take (n := m.shops.length) (sub := sub) (lk := lacksV m x) (k := b) (by omega) (by omega) (by omega) (by first | exact .inl (by omega) | exact .inr (by assumption))
              exact ⟨b + 1, al1, cl1, B1 ++ B, by rw [← hq]; rfl, by omega, rfl, by rw [← hq]; exact hsl1.top, by rw [List.append_assoc]; exact hs44⟩)
           | (have hq := worstTo_leave (n := m.shops.length) (sub := sub) (lk := lacksV m x) (k := b) (by omega) (by omega) (by omega) (by omega) (by assumption)
              exact ⟨b + 1, av, cv, B1 ++ B, by rw [← hq]; rfl, by omega, rfl, by rw [← hq]; exact hsl.app, by rw [List.append_assoc]; exact hs44⟩)
        ·
         try simp only [Bool.not_eq_true', Bool.not_eq_false', decide_eq_true_eq, decide_eq_false_iff_not, Int.not_lt, Int.not_le] at h45
         refine w_skip ?_
         refine q_blk_normal ?_
         refine q_then (hK23 _ _ ?_)
         refine w_region ?_
         refine w_pure want_none (y_add rfl rfl rfl rfl (by omega) (by omega)) rfl ?_
         refine w_pure want_none (y_move (v := .int _ _) rfl rfl) rfl ?_
         refine w_nil ?_
         refine q_then (hN15 _ _ (Nx.intro (16 - (b + 1)) (by omega) (by repeat (first | exact agree_mix | refine agree_upd rfl ?_ | refine agree_updL rfl ?_ _ | refine agree_mixin rfl ?_)) ?_))
         first
           | exact ⟨b + 1, av, cv, B, by rw [← worstTo_pass (by first | exact .inl (by omega) | exact .inr (.inl (by omega)) | exact .inr (.inr (by omega)))]; rfl, by omega, rfl, by rw [← worstTo_pass (by first | exact .inl (by omega) | exact .inr (.inl (by omega)) | exact .inr (.inr (by omega)))]; exact hsl, hs44⟩
           | (have hq := worstTo_take (n := m.shops.length) (sub := sub) (lk := lacksV m x) (k := b) (by omega) (by omega) (by omega) (by first | exact .inl (by omega) | exact .inr (by assumption))
              exact ⟨b + 1, al1, cl1, B1 ++ B, by rw [← hq]; rfl, by omega, rfl, by rw [← hq]; exact hsl1.top, by rw [List.append_assoc]; exact hs44⟩)
           | (have hq := worstTo_leave (n := m.shops.length) (sub := sub) (lk := lacksV m x) (k := b) (by omega) (by omega) (by omega) (by omega) (by assumption)
              exact ⟨b + 1, av, cv, B1 ++ B, by rw [← hq]; rfl, by omega, rfl, by rw [← hq]; exact hsl.app, by rw [List.append_assoc]; exact hs44⟩)
   ·
    try simp only [Bool.not_eq_true', Bool.not_eq_false', decide_eq_true_eq, decide_eq_false_iff_not, Int.not_lt, Int.not_le] at h22
    refine w_exit ?_
    refine q_then_exit ?_
    refine q_then_exit ?_
    refine q_blk_this ?_
    refine q_then (hK6 _ _ ?_)
    refine w_seq (fun K47 hK46 => ?_)
    refine w_region ?_
    refine w_pure want_none (y_move (v := .slice _ _ _) rfl rfl) rfl ?_
    refine w_pure want_none (y_move (v := .int _ _) rfl rfl) rfl ?_
    refine w_pure want_none (y_assign (v := .slice _ _ _) rfl rfl) rfl ?_
    refine w_pure want_none (y_assign (v := .int _ _) rfl rfl) rfl ?_
    refine w_nil ?_
    refine q_then (hK46 _ _ ?_)
    refine w_ret ?_
    refine q_ret (l := [.tmp 6, .tmp 7]) (vs := [_, _]) rfl ⟨⟨rfl, show _ = (.slice _ _ _ : Value) from rfl⟩, ⟨rfl, show _ = (.int _ _ : Value) from rfl⟩, trivial⟩ ?_
    have hb16 : b = 16 := by omega
    subst hb16
    exact ⟨B ++ [_], av, cv, M13, rfl, hsl.top, hM13, by rw [List.append_assoc]; exact hs⟩

theorem c67 {w0 w : World} {X M F : List (Nat × Obj)} (m : Market) (p : At3) (mb mm : Nat) (hk : MK w0 F m p mb mm) (x : List Int) (hx : Small x) (sub : Nat) (hM : Memo m mm M) (hs : St w0 w (X ++ (M ++ F))) :
  Con Try.prog 67 [.pointer (some ⟨mb, 0, none⟩), ia x, .int .i64 sub] w fun v w' => v = .bool (servedS m x sub) ∧ ∃ M', Memo m mm M' ∧ St w0 w' (X ++ (M' ++ F)) := by
  refine con_of_wc (n := 18) Try.func67 rfl rfl (Nat.le_of_ble_eq_true rfl) ?_
  refine w_seq (fun K2 hK1 => ?_)
  refine w_region ?_
  refine w_boxI (l := _) want_none rfl rfl rfl hs (fun b3 w4 hs5 => ?_)
  refine w_pure want_none (y_assign (v := _) rfl rfl) rfl ?_
  refine w_nil ?_
  refine q_then (hK1 _ _ ?_)
  refine w_seq (fun K7 hK6 => ?_)
  refine w_region ?_
  refine w_pure want_none (y_move (v := .pointer _) rfl rfl) rfl ?_
  refine w_pure want_none (y_loadI (i := 0) Try.isAgg93 Try.sizeOf93 (by first | omega | rfl | (simp only [hx.1, List.length_map, List.length_set, List.length_append, List.length_take, List.length_drop, List.length_replicate, List.length_cons, List.length_nil] <;> omega)) hs5 rfl rfl rfl) rfl ?_
  refine w_pure want_none (y_move (v := .int _ _) rfl rfl) rfl ?_
  refine w_call want_none Try.call70 rfl rfl rfl rfl (c70 (X := (_ :: X)) m p mb mm hk x hx sub hM hs5) ?_
  rintro _ w9 ⟨B12, al_B12, cl_B12, M11, rfl, hsl_B12, hM11, hs10⟩
  replace hs10 := (show St _ _ (B12 ++ (_ :: X ++ (M11 ++ (F)))) from hs10)
  refine w_pure want_none (y_move (v := .tuple _) rfl rfl) rfl ?_
  refine w_pure want_none (y_extract (v := .slice _ _ _) rfl rfl rfl) rfl ?_
  refine w_pure want_none (y_extract (v := .int _ _) rfl rfl rfl) rfl ?_
  refine w_pure want_none (y_assign (v := .slice _ _ _) rfl rfl) rfl ?_
  refine w_pure want_none (y_assign (v := .int _ _) rfl rfl) rfl ?_
  refine w_nil ?_
  refine q_then (hK6 _ _ ?_)
  refine w_seq (fun K14 hK13 => ?_)
  refine w_region ?_
  refine w_pure want_none (y_move (v := .int _ _) rfl rfl) rfl ?_
  refine w_pure want_none (y_eql rfl rfl rfl rfl) rfl ?_
  refine w_pure want_none (y_assign (v := .bool _) rfl rfl) rfl ?_
  refine w_nil ?_
  refine q_then (hK13 _ _ ?_)
  refine w_ret ?_
  refine q_ret (l := [.tmp 6]) (vs := [_]) rfl ⟨⟨rfl, show _ = (.bool _ : Value) from rfl⟩, trivial⟩ ?_
  exact ⟨rfl, M11, hM11, hs10.drop.tail⟩

end Go.Proofs
/- Walks of this seat, printed by gen.py over the engine: what each function returns, in whatever world. No conditions but those of each contract. -/
set_option linter.unusedVariables false
set_option linter.unusedSimpArgs false
set_option maxRecDepth 20000
namespace Go.Proofs
open Go.Rt Go.Rt.Sh
attribute [local irreducible] WL WC Con Yd At Ats Sl Agree DW
theorem Try_H_fb2 (x0 : Int) (w : World) : (Instr.buildSlice 30 1 [(0, .int .i64 x0)].toArray).run Try.prog w = .ok (.slice (some ⟨w.heap.size, 0, none⟩) 1 1) (w.alloc (Go.Rt.blk 3 [.int .i64 x0])) := by kernel_rfl
theorem enter_chk {m : Market} {n : Int} {l : List Int} (h : enterE m n l = 0) : (check m).2.2 = 0 := (enterE_ok h).1
theorem someE_enter {m : Market} {l : List Int} (h : someE m l = 0) : enterE m m.shops.length l = 0 := by
  unfold someE at h
  by_cases h1 : enterE m m.shops.length l = 0
  · exact h1
  · rw [if_pos h1] at h; exact absurd h h1
theorem someE_1 {m : Market} {l : List Int} (h : enterE m m.shops.length l ≠ 0) : someE m l = enterE m m.shops.length l := by unfold someE; rw [if_pos h]
theorem someE_2 {m : Market} {l : List Int} (h : enterE m m.shops.length l = 0) (h2 : orBits 0 l = none) : someE m l = 2 := by unfold someE; rw [if_neg (by simp [h]), h2]
theorem someE_0 {m : Market} {l : List Int} {s : Nat} (h : enterE m m.shops.length l = 0) (h2 : orBits 0 l = some s) : someE m l = 0 ∧ someS l = s := by unfold someE someS; rw [if_neg (by simp [h]), h2]; exact ⟨rfl, rfl⟩
theorem yd_cast {P : Program} {a : Act} {o : Oper} {w : World} {k : IntKind} {z z' : Int} (h : z = z') (hy : Yd P a o w (.int k z)) : Yd P a o w (.int k z') := h ▸ hy
theorem shl_small {x : Nat} (h : x < 4) : 1 <<< x < 16 := by
  match x, h with
  | 0, _ => decide
  | 1, _ => decide
  | 2, _ => decide
  | 3, _ => decide
theorem shl_all {x : Nat} (h : x ≤ 4) : 1 ≤ 1 <<< x ∧ 1 <<< x ≤ 16 := by
  match x, h with
  | 0, _ => decide
  | 1, _ => decide
  | 2, _ => decide
  | 3, _ => decide
  | 4, _ => decide
theorem eq2 {w0 w : World} {B M F : List (Nat × Obj)} {x y : Nat × Obj} (h : St w0 w (B ++ (M ++ (x :: y :: F)))) : St w0 w ((B ++ (M ++ [x, y])) ++ F) := by
  have e : (B ++ (M ++ [x, y])) ++ F = B ++ (M ++ (x :: y :: F)) := by rw [List.append_assoc, List.append_assoc]; rfl
  rw [e]; exact h
theorem own_snoc {v : Value} {l : List Int} {z : Int} {B : List (Nat × Obj)} (h : Rt.Own v 3 1 (l.length + 1) (iv l ++ [[Value.int .i64 z]].flatten) B) : Rt.Own v 3 1 (l ++ [z]).length (iv (l ++ [z])) B := by simpa [iv] using h
theorem pos_shr {s y : Nat} (h : (0:Int) < ((s >>> y : Nat) : Int)) : 0 < s >>> y := by omega
theorem not_pos_shr {s y : Nat} (h : ((s >>> y : Nat) : Int) ≤ 0) : ¬ 0 < s >>> y := by omega
theorem withoutTo_take {m : Market} {b : Nat} (h1 : before (listL b m.shops.length) (withoutTo m b) = true) (h2 : servedS m (allX m false) (bitDiff (1 <<< m.shops.length - 1) b) = true) : listL b m.shops.length = withoutTo m (b + 1) := by
  simp only [withoutTo, withoutStep]; rw [h1, h2]; rfl
theorem withoutTo_1 {m : Market} {b : Nat} (h1 : before (listL b m.shops.length) (withoutTo m b) = false) : withoutTo m b = withoutTo m (b + 1) := by
  simp only [withoutTo, withoutStep]; rw [h1]; rfl
theorem withoutTo_2 {m : Market} {b : Nat} (h2 : servedS m (allX m false) (bitDiff (1 <<< m.shops.length - 1) b) = false) : withoutTo m b = withoutTo m (b + 1) := by
  simp only [withoutTo, withoutStep]; rw [h2, Bool.and_false]; rfl
theorem c66 {w0 w : World} {F : List (Nat × Obj)} (m : Market) (p : At3) (hm : MIn w0 F m p) (al : Option Addr) (cl : Nat) (l : List Int) (hll : l.length ≤ 9223372036854775807) (hl : Sl w0 F al 1 (l.map fun x => [Value.int .i64 x]))  (hs : St w0 w F) :
  Con Try.prog 66 [.agg (m.cells p).toArray, .slice al l.length cl] w fun v w' => (someE m l ≠ 0 ∧ v = .tuple #[.pointer none, .int .i64 0, .int .i64 (someE m l)] ∧ St w0 w' F) ∨ (someE m l = 0 ∧ ∃ mb mm M, v = .tuple #[.pointer (some ⟨mb, 0, none⟩), .int .i64 (someS l : Nat), .int .i64 0] ∧ Memo m mm M ∧ St w0 w' (M ++ ((mb, blk 122 [.slice p.ar m.rooms.length p.cr, .slice p.az m.shops.length p.cs, .slice p.at_ m.trains.length p.ct, .map (some mm)]) :: F))) := by
  refine con_of_wc (n := 38) Try.func66 rfl rfl (Nat.le_of_ble_eq_true rfl) ?_
  have hls := hm.ls
  refine w_seq (fun K2 hK1 => ?_)
  refine w_region ?_
  refine w_box (v := .agg #[.slice _ _ _, .slice _ _ _, .slice _ _ _]) (cs := [_, _, _]) want_none rfl rfl rfl hs (fun b3 w4 hs5 => ?_)
  refine w_pure want_none (y_assign (v := _) rfl rfl) rfl ?_
  refine w_pure want_none (y_assign (v := _) rfl rfl) rfl ?_
  refine w_pure want_none (y_assign (v := _) rfl rfl) rfl ?_
  refine w_nil ?_
  refine q_then (hK1 _ _ ?_)
  refine w_seq (fun K7 hK6 => ?_)
  refine w_region ?_
  refine w_pure want_none (y_loadN (vs := [_, _, _]) Try.isAgg26 Try.sizeOf26 hs5 rfl rfl (ats_own (i := 0) (vs := [_, _, _]) rfl rfl)) rfl ?_
  refine w_pure want_none (y_fieldAddr (o := 1) (i := 1) Try.underlying26 rfl Try.sizeOf23 rfl rfl rfl) rfl ?_
  refine w_pure want_none (y_load1 Try.isAgg23 hs5 rfl rfl (ats_own (i := 0) (vs := [_]) rfl rfl)) rfl ?_
  refine w_pure want_none (y_lenS Try.underlying23 rfl rfl) rfl ?_
  refine w_pure want_none (y_move (v := .slice _ _ _) rfl rfl) rfl ?_
  refine w_call want_none Try.call64 rfl rfl rfl rfl (c64 m p hm.cons _ (by omega) (by omega) _ _ l hll hl.cons hs5) ?_
  rintro _ w9 (⟨hee, rfl, hs10⟩ | ⟨hee, mb, mm, M, rfl, hM, hs10⟩)
  ·
   refine w_pure want_none (y_move (v := .tuple _) rfl rfl) rfl ?_
   refine w_pure want_none (y_extract (v := .pointer _) rfl rfl rfl) rfl ?_
   refine w_pure want_none (y_extract (v := .int _ _) rfl rfl rfl) rfl ?_
   refine w_pure want_none (y_assign (v := .pointer _) rfl rfl) rfl ?_
   refine w_pure want_none (y_assign (v := .int _ _) rfl rfl) rfl ?_
   refine w_nil ?_
   refine q_then (hK6 _ _ ?_)
   refine w_seq (fun K12 hK11 => ?_)
   refine w_seq (fun K14 hK13 => ?_)
   refine w_region ?_
   refine w_pure want_none (y_move (v := .int _ _) rfl rfl) rfl ?_
   refine w_pure want_none (y_neq rfl rfl rfl rfl) rfl ?_
   refine w_nil ?_
   refine q_then (hK13 _ _ ?_)
   refine w_cond rfl rfl (fun h15 => ?_) (fun h15 => ?_)
   ·
    try simp only [Bool.not_eq_true', Bool.not_eq_false', decide_eq_true_eq, decide_eq_false_iff_not, Int.not_lt, Int.not_le] at h15
    refine w_seq (fun K17 hK16 => ?_)
    refine w_region ?_
    refine w_pure want_none (y_move (v := .int _ _) rfl rfl) rfl ?_
    refine w_pure want_none (y_assign (v := _) rfl rfl) rfl ?_
    refine w_pure want_none (y_assign (v := _) rfl rfl) rfl ?_
    refine w_pure want_none (y_assign (v := .int _ _) rfl rfl) rfl ?_
    refine w_nil ?_
    refine q_then (hK16 _ _ ?_)
    refine w_ret ?_
    refine q_then_ret ?_
    refine q_ret (l := [.tmp 4, .tmp 5, .tmp 6]) (vs := [_, _, _]) rfl ⟨⟨rfl, show _ = (.pointer _ : Value) from rfl⟩, ⟨rfl, show _ = (.int _ _ : Value) from rfl⟩, ⟨rfl, show _ = (.int _ _ : Value) from rfl⟩, trivial⟩ ?_
    first
      | exact .inl ⟨by rw [someE_1 hee]; exact hee, by rw [someE_1 hee]; rfl, hs10.tail⟩
      | exact .inl ⟨by rw [someE_2 hee (by rw [hob]; exact orBits_none hi2 (pos_shr (by assumption)))]; decide, by rw [someE_2 hee (by rw [hob]; exact orBits_none hi2 (pos_shr (by assumption)))]; rfl, hs10.tail⟩
      | (have hq := someE_0 hee (hob.trans (orBits_end (by omega)))
         exact .inr ⟨hq.1, mb, mm, M, by rw [hq.2]; rfl, hM, drop_3rd hs10⟩)
   ·
    exfalso
    try simp only [Bool.not_eq_true', Bool.not_eq_false', decide_eq_true_eq, decide_eq_false_iff_not, Int.not_lt, Int.not_le] at h15
    first | exact hee h15 | exact h15 hee
  ·
   replace hs10 := (show St _ _ (M ++ (_ :: _ :: F)) from hs10)
   have hk : MK w0 ((mb, blk 122 [.slice p.ar m.rooms.length p.cr, .slice p.az m.shops.length p.cs, .slice p.at_ m.trains.length p.ct, .map (some mm)]) :: (b3, blk 26 (m.cells p)) :: F) m p mb mm := ⟨hm.cons.cons, ats_own (i := 0) (vs := [_, _, _, _]) rfl rfl, check_ok (enter_chk hee)⟩
   have hlr := hk.ok.lr
   have hls := hk.ok.ls
   have hlt := hk.ok.lt
   have hbx : Ats w0 ((b3, blk 26 (m.cells p)) :: F) b3 0 (m.cells p) := ats_own (i := 0) rfl rfl
   refine w_pure want_none (y_move (v := .tuple _) rfl rfl) rfl ?_
   refine w_pure want_none (y_extract (v := .pointer _) rfl rfl rfl) rfl ?_
   refine w_pure want_none (y_extract (v := .int _ _) rfl rfl rfl) rfl ?_
   refine w_pure want_none (y_assign (v := .pointer _) rfl rfl) rfl ?_
   refine w_pure want_none (y_assign (v := .int _ _) rfl rfl) rfl ?_
   refine w_nil ?_
   refine q_then (hK6 _ _ ?_)
   refine w_seq (fun K19 hK18 => ?_)
   refine w_seq (fun K21 hK20 => ?_)
   refine w_region ?_
   refine w_pure want_none (y_move (v := .int _ _) rfl rfl) rfl ?_
   refine w_pure want_none (y_neq rfl rfl rfl rfl) rfl ?_
   refine w_nil ?_
   refine q_then (hK20 _ _ ?_)
   refine w_condF rfl rfl ?_
   refine w_skip ?_
   refine q_then (hK18 _ _ ?_)
   refine w_seq (fun K23 hK22 => ?_)
   refine w_seq (fun K25 hK24 => ?_)
   refine w_region ?_
   refine w_pure want_none (y_move (v := .slice _ _ _) rfl rfl) rfl ?_
   refine w_pure want_none (y_lenS Try.underlying30 rfl rfl) rfl ?_
   refine w_pure want_none (y_move (v := _) rfl rfl) rfl ?_
   refine w_nil ?_
   refine q_then (hK24 _ _ ?_)
   refine w_block ?_
   refine w_loop [4, 5, 6, 8, 23, 24, 25, 26, 27, 28, 29, 30, 31, 32, 33, 34, 35] [4, 5, 23] (fun k vs w => ∃ i s : Nat, vs = [.pointer (some ⟨mb, 0, none⟩), .int .i64 s, .int .i64 i] ∧ s < 16 ∧ i ≤ l.length ∧ k = l.length - i ∧ orBits 0 l = orBits s (l.drop i) ∧ St w0 w (M ++ ((mb, blk 122 [.slice p.ar m.rooms.length p.cr, .slice p.az m.shops.length p.cs, .slice p.at_ m.trains.length p.ct, .map (some mm)]) :: (b3, blk 26 (m.cells p)) :: F))) (l.length) ?_ ?_
   ·
    exact ⟨0, 0, rfl, by omega, by omega, by omega, rfl, hs10⟩
   ·
    intro k vs μ w28 hI K27 hN26
    obtain ⟨i, s, rfl, hs16, hia, rfl, hob, hs⟩ := hI
    refine w_seq (fun K30 hK29 => ?_)
    refine w_region ?_
    refine w_pure want_none (y_lss rfl rfl rfl rfl) rfl ?_
    refine w_nil ?_
    refine q_then (hK29 _ _ ?_)
    refine w_seq (fun K32 hK31 => ?_)
    refine w_cond rfl rfl (fun h33 => ?_) (fun h33 => ?_)
    ·
     try simp only [Bool.not_eq_true', Bool.not_eq_false', decide_eq_true_eq, decide_eq_false_iff_not, Int.not_lt, Int.not_le] at h33
     refine w_skip ?_
     refine q_then (hK31 _ _ ?_)
     refine w_seq (fun K35 hK34 => ?_)
     refine w_block ?_
     refine w_seq (fun K37 hK36 => ?_)
     have hi2 : i < l.length := by omega
     obtain ⟨bl, ol, hbl, hxl⟩ := sl_ints hl.cons.cons.app hi2
     subst hbl
     have hin := (enterE_ok hee).2 _ (List.getElem_mem hi2)
     have hsm := shl_small (x := (l[i]'hi2).toNat) (by omega)
     refine w_region ?_
     refine w_pure want_none (y_indexS Try.underlying30 Try.sizeOf3 rfl rfl rfl rfl (i := _) rfl (by omega)) rfl ?_
     refine w_pure want_none (y_load1 Try.isAgg3 hs rfl rfl hxl) rfl ?_
     refine w_pure want_none (y_assign (v := .int _ _) rfl rfl) rfl ?_
     refine w_nil ?_
     refine q_then (hK36 _ _ ?_)
     refine w_seq (fun K39 hK38 => ?_)
     refine w_seq (fun K41 hK40 => ?_)
     refine w_region ?_
     refine w_pure want_none (y_move (v := .int _ _) rfl rfl) rfl ?_
     refine w_pure want_none (y_move (v := .int _ _) rfl rfl) rfl ?_
     refine w_pure want_none (y_shr (x := _) (y := (l[i]'hi2).toNat) rfl rfl rfl rfl rfl (by first | rfl | omega) (by first | omega | exact shr_lt (by omega))) rfl ?_
     refine w_pure want_none (y_gtr rfl rfl rfl rfl) rfl ?_
     refine w_nil ?_
     refine q_then (hK40 _ _ ?_)
     refine w_cond rfl rfl (fun h42 => ?_) (fun h42 => ?_)
     ·
      try simp only [Bool.not_eq_true', Bool.not_eq_false', decide_eq_true_eq, decide_eq_false_iff_not, Int.not_lt, Int.not_le] at h42
      refine w_seq (fun K44 hK43 => ?_)
      refine w_region ?_
      refine w_pure want_none (y_assign (v := _) rfl rfl) rfl ?_
      refine w_pure want_none (y_assign (v := _) rfl rfl) rfl ?_
      refine w_pure want_none (y_assign (v := _) rfl rfl) rfl ?_
      refine w_nil ?_
      refine q_then (hK43 _ _ ?_)
      refine w_ret ?_
      refine q_then_ret ?_
      refine q_blk_ret ?_
      refine q_then_ret ?_
      refine q_then_ret ?_
      refine q_blk_ret ?_
      refine q_then_ret ?_
      refine q_ret (l := [.tmp 4, .tmp 5, .tmp 6]) (vs := [_, _, _]) rfl ⟨⟨rfl, show _ = (.pointer _ : Value) from rfl⟩, ⟨rfl, show _ = (.int _ _ : Value) from rfl⟩, ⟨rfl, show _ = (.int _ _ : Value) from rfl⟩, trivial⟩ ?_
      first
        | exact .inl ⟨by rw [someE_1 hee]; exact hee, by rw [someE_1 hee]; rfl, hs.drop.tail.tail⟩
        | exact .inl ⟨by rw [someE_2 hee (by rw [hob]; exact orBits_none hi2 (pos_shr (by assumption)))]; decide, by rw [someE_2 hee (by rw [hob]; exact orBits_none hi2 (pos_shr (by assumption)))]; rfl, hs.drop.tail.tail⟩
        | (have hq := someE_0 hee (hob.trans (orBits_end (by omega)))
           exact .inr ⟨hq.1, mb, mm, M, by rw [hq.2]; rfl, hM, drop_3rd hs⟩)
     ·
      try simp only [Bool.not_eq_true', Bool.not_eq_false', decide_eq_true_eq, decide_eq_false_iff_not, Int.not_lt, Int.not_le] at h42
      refine w_skip ?_
      refine q_then (hK38 _ _ ?_)
      refine w_region ?_
      refine w_pure want_none (y_move (v := .int _ _) rfl rfl) rfl ?_
      refine w_pure want_none (y_move (v := .int _ _) rfl rfl) rfl ?_
      refine w_pure want_none (y_shl (x := 1) (y := (l[i]'hi2).toNat) rfl rfl rfl rfl rfl (by first | rfl | omega) (by first | omega | exact shr_lt (by omega)) (by first | omega | exact shr_lt (by omega))) rfl ?_
      refine w_pure want_none (y_or (x := _) (y := _) rfl rfl rfl rfl rfl rfl (by first | omega | exact shr_lt (by omega)) (by first | omega | exact shr_lt (by omega))) rfl ?_
      refine w_pure want_none (y_assign (v := .int _ _) rfl rfl) rfl ?_
      refine w_nil ?_
      refine q_blk_normal ?_
      refine q_then (hK34 _ _ ?_)
      refine w_region ?_
      refine w_pure want_none (y_add rfl rfl rfl rfl (by omega) (by omega)) rfl ?_
      refine w_pure want_none (y_move (v := .int _ _) rfl rfl) rfl ?_
      refine w_nil ?_
      refine q_then (hN26 _ _ (Nx.intro (l.length - (i + 1)) (by omega) (by repeat (first | exact agree_mix | refine agree_upd rfl ?_ | refine agree_updL rfl ?_ _ | refine agree_mixin rfl ?_)) ?_))
      exact ⟨i + 1, _, rfl, or_small hs16 (by omega), by omega, rfl, by rw [hob]; exact orBits_step hi2 (not_pos_shr (by assumption)), hs⟩
    ·
     try simp only [Bool.not_eq_true', Bool.not_eq_false', decide_eq_true_eq, decide_eq_false_iff_not, Int.not_lt, Int.not_le] at h33
     refine w_exit ?_
     refine q_then_exit ?_
     refine q_then_exit ?_
     refine q_blk_this ?_
     refine q_then (hK22 _ _ ?_)
     refine w_seq (fun K46 hK45 => ?_)
     refine w_region ?_
     refine w_pure want_none (y_move (v := .pointer _) rfl rfl) rfl ?_
     refine w_pure want_none (y_move (v := .int _ _) rfl rfl) rfl ?_
     refine w_pure want_none (y_assign (v := .pointer _) rfl rfl) rfl ?_
     refine w_pure want_none (y_assign (v := .int _ _) rfl rfl) rfl ?_
     refine w_pure want_none (y_assign (v := _) rfl rfl) rfl ?_
     refine w_nil ?_
     refine q_then (hK45 _ _ ?_)
     refine w_ret ?_
     refine q_ret (l := [.tmp 4, .tmp 5, .tmp 6]) (vs := [_, _, _]) rfl ⟨⟨rfl, show _ = (.pointer _ : Value) from rfl⟩, ⟨rfl, show _ = (.int _ _ : Value) from rfl⟩, ⟨rfl, show _ = (.int _ _ : Value) from rfl⟩, trivial⟩ ?_
     first
       | exact .inl ⟨by rw [someE_1 hee]; exact hee, by rw [someE_1 hee]; rfl, hs.drop.tail.tail⟩
       | exact .inl ⟨by rw [someE_2 hee (by rw [hob]; exact orBits_none hi2 (pos_shr (by assumption)))]; decide, by rw [someE_2 hee (by rw [hob]; exact orBits_none hi2 (pos_shr (by assumption)))]; rfl, hs.drop.tail.tail⟩
       | (have hq := someE_0 hee (hob.trans (orBits_end (by omega)))
          exact .inr ⟨hq.1, mb, mm, M, by rw [hq.2]; rfl, hM, drop_3rd hs⟩)

theorem c22 {w0 w : World} {F : List (Nat × Obj)} (m : Market) (p : At3) (hm : MIn w0 F m p) (al : Option Addr) (cl : Nat) (l : List Int) (hll : l.length ≤ 9223372036854775807) (hl : Sl w0 F al 1 (l.map fun x => [Value.int .i64 x]))  (hs : St w0 w F) :
  Con Try.prog 22 [.agg (m.cells p).toArray, .slice al l.length cl] w fun v w' => v = .tuple #[.int .i64 (canP m l).1, .int .i64 (canP m l).2] ∧ St w0 w' F := by
  refine con_of_wc (n := 32) Try.func22 rfl rfl (Nat.le_of_ble_eq_true rfl) ?_
  refine w_seq (fun K2 hK1 => ?_)
  refine w_region ?_
  refine w_box (v := .agg #[.slice _ _ _, .slice _ _ _, .slice _ _ _]) (cs := [_, _, _]) want_none rfl rfl rfl hs (fun b3 w4 hs5 => ?_)
  refine w_pure want_none (y_assign (v := _) rfl rfl) rfl ?_
  refine w_pure want_none (y_assign (v := _) rfl rfl) rfl ?_
  refine w_nil ?_
  refine q_then (hK1 _ _ ?_)
  refine w_seq (fun K7 hK6 => ?_)
  refine w_region ?_
  refine w_pure want_none (y_loadN (vs := [_, _, _]) Try.isAgg26 Try.sizeOf26 hs5 rfl rfl (ats_own (i := 0) (vs := [_, _, _]) rfl rfl)) rfl ?_
  refine w_pure want_none (y_move (v := .slice _ _ _) rfl rfl) rfl ?_
  refine w_call want_none Try.call66 rfl rfl rfl rfl (c66 m p hm.cons _ _ l hll hl.cons hs5) ?_
  rintro _ w9 (⟨hee, rfl, hs10⟩ | ⟨hee, mb, mm, M, rfl, hM, hs10⟩)
  ·
   refine w_pure want_none (y_move (v := .tuple _) rfl rfl) rfl ?_
   refine w_pure want_none (y_extract (v := .pointer _) rfl rfl rfl) rfl ?_
   refine w_pure want_none (y_extract (v := .int _ _) rfl rfl rfl) rfl ?_
   refine w_pure want_none (y_extract (v := .int _ _) rfl rfl rfl) rfl ?_
   refine w_pure want_none (y_assign (v := .pointer _) rfl rfl) rfl ?_
   refine w_pure want_none (y_assign (v := .int _ _) rfl rfl) rfl ?_
   refine w_pure want_none (y_assign (v := .int _ _) rfl rfl) rfl ?_
   refine w_nil ?_
   refine q_then (hK6 _ _ ?_)
   refine w_seq (fun K12 hK11 => ?_)
   refine w_block ?_
   refine w_seq (fun K14 hK13 => ?_)
   refine w_region ?_
   refine w_pure want_none (y_move (v := .int _ _) rfl rfl) rfl ?_
   refine w_pure want_none (y_neq rfl rfl rfl rfl) rfl ?_
   refine w_pure want_none (y_assign (v := .bool _) rfl rfl) rfl ?_
   refine w_nil ?_
   refine q_then (hK13 _ _ ?_)
   refine w_cond rfl rfl (fun h15 => ?_) (fun h15 => ?_)
   ·
    try simp only [Bool.not_eq_true', Bool.not_eq_false', decide_eq_true_eq, decide_eq_false_iff_not, Int.not_lt, Int.not_le] at h15
    refine w_seq (fun K17 hK16 => ?_)
    refine w_region ?_
    refine w_pure want_none (y_move (v := .int _ _) rfl rfl) rfl ?_
    refine w_pure want_none (y_assign (v := _) rfl rfl) rfl ?_
    refine w_pure want_none (y_assign (v := .int _ _) rfl rfl) rfl ?_
    refine w_nil ?_
    refine q_then (hK16 _ _ ?_)
    refine w_ret ?_
    refine q_blk_ret ?_
    refine q_then_ret ?_
    refine q_ret (l := [.tmp 4, .tmp 5]) (vs := [_, _]) rfl ⟨⟨rfl, show _ = (.int _ _ : Value) from rfl⟩, ⟨rfl, show _ = (.int _ _ : Value) from rfl⟩, trivial⟩ ?_
    exact ⟨by simp [canP, retV, hee, h15], hs10.tail⟩
   ·
    exfalso
    try simp only [Bool.not_eq_true', Bool.not_eq_false', decide_eq_true_eq, decide_eq_false_iff_not, Int.not_lt, Int.not_le] at h15
    first | exact hee h15 | exact h15 hee
  ·
   replace hs10 := (show St _ _ (M ++ (_ :: _ :: F)) from hs10)
   have hk : MK w0 ((mb, blk 122 [.slice p.ar m.rooms.length p.cr, .slice p.az m.shops.length p.cs, .slice p.at_ m.trains.length p.ct, .map (some mm)]) :: (b3, blk 26 (m.cells p)) :: F) m p mb mm := ⟨hm.cons.cons, ats_own (i := 0) (vs := [_, _, _, _]) rfl rfl, check_ok (enter_chk (someE_enter hee))⟩
   have hlr := hk.ok.lr
   have hls := hk.ok.ls
   have hlt := hk.ok.lt
   have hbx : Ats w0 ((b3, blk 26 (m.cells p)) :: F) b3 0 (m.cells p) := ats_own (i := 0) rfl rfl
   refine w_pure want_none (y_move (v := .tuple _) rfl rfl) rfl ?_
   refine w_pure want_none (y_extract (v := .pointer _) rfl rfl rfl) rfl ?_
   refine w_pure want_none (y_extract (v := .int _ _) rfl rfl rfl) rfl ?_
   refine w_pure want_none (y_extract (v := .int _ _) rfl rfl rfl) rfl ?_
   refine w_pure want_none (y_assign (v := .pointer _) rfl rfl) rfl ?_
   refine w_pure want_none (y_assign (v := .int _ _) rfl rfl) rfl ?_
   refine w_pure want_none (y_assign (v := .int _ _) rfl rfl) rfl ?_
   refine w_nil ?_
   refine q_then (hK6 _ _ ?_)
   refine w_seq (fun K19 hK18 => ?_)
   refine w_block ?_
   refine w_seq (fun K21 hK20 => ?_)
   refine w_region ?_
   refine w_pure want_none (y_move (v := .int _ _) rfl rfl) rfl ?_
   refine w_pure want_none (y_neq rfl rfl rfl rfl) rfl ?_
   refine w_pure want_none (y_assign (v := .bool _) rfl rfl) rfl ?_
   refine w_nil ?_
   refine q_then (hK20 _ _ ?_)
   refine w_condF rfl rfl ?_
   refine w_seq (fun K23 hK22 => ?_)
   refine w_region ?_
   refine w_pure want_none (y_move (v := .pointer _) rfl rfl) rfl ?_
   refine w_pure want_none (y_move (v := .pointer _) rfl rfl) rfl ?_
   refine w_call want_none Try.call68 rfl rfl rfl rfl (c68 m p mb mm hk.app _ hs10) ?_
   rintro _ w25 ⟨rfl, hs26⟩
   refine w_pure want_none (y_move (v := .int _ _) rfl rfl) rfl ?_
   refine w_call want_none Try.call67 rfl rfl rfl rfl (c67 (X := []) m p mb mm hk _ (allX_small hk.ok _) _ hM hs26) ?_
   rintro _ w28 ⟨rfl, M30, hM30, hs29⟩
   replace hs29 := (show St _ _ (M30 ++ (_ :: _ :: F)) from hs29)
   refine w_pure want_none (y_assign (v := .bool _) rfl rfl) rfl ?_
   refine w_nil ?_
   refine q_then (hK22 _ _ ?_)
   refine w_cond rfl rfl (fun h32 => ?_) (fun h32 => ?_)
   ·
    try simp only [Bool.not_eq_true', Bool.not_eq_false', decide_eq_true_eq, decide_eq_false_iff_not, Int.not_lt, Int.not_le] at h32
    refine w_seq (fun K34 hK33 => ?_)
    refine w_region ?_
    refine w_pure want_none (y_assign (v := _) rfl rfl) rfl ?_
    refine w_pure want_none (y_assign (v := _) rfl rfl) rfl ?_
    refine w_nil ?_
    refine q_then (hK33 _ _ ?_)
    refine w_ret ?_
    refine q_blk_ret ?_
    refine q_then_ret ?_
    refine q_ret (l := [.tmp 4, .tmp 5]) (vs := [_, _]) rfl ⟨⟨rfl, show _ = (.int _ _ : Value) from rfl⟩, ⟨rfl, show _ = (.int _ _ : Value) from rfl⟩, trivial⟩ ?_
    exact ⟨by simp [canP, retV, hee, h32], hs29.drop.tail.tail⟩
   ·
    try simp only [Bool.not_eq_true', Bool.not_eq_false', decide_eq_true_eq, decide_eq_false_iff_not, Int.not_lt, Int.not_le] at h32
    refine w_seq (fun K36 hK35 => ?_)
    refine w_region ?_
    refine w_pure want_none (y_move (v := .pointer _) rfl rfl) rfl ?_
    refine w_pure want_none (y_move (v := .pointer _) rfl rfl) rfl ?_
    refine w_call want_none Try.call68 rfl rfl rfl rfl (c68 m p mb mm hk.app _ hs29) ?_
    rintro _ w38 ⟨rfl, hs39⟩
    refine w_pure want_none (y_move (v := .int _ _) rfl rfl) rfl ?_
    refine w_call want_none Try.call67 rfl rfl rfl rfl (c67 (X := []) m p mb mm hk _ (allX_small hk.ok _) _ hM30 hs39) ?_
    rintro _ w41 ⟨rfl, M43, hM43, hs42⟩
    replace hs42 := (show St _ _ (M43 ++ (_ :: _ :: F)) from hs42)
    refine w_pure want_none (y_assign (v := .bool _) rfl rfl) rfl ?_
    refine w_nil ?_
    refine q_then (hK35 _ _ ?_)
    refine w_cond rfl rfl (fun h45 => ?_) (fun h45 => ?_)
    ·
     try simp only [Bool.not_eq_true', Bool.not_eq_false', decide_eq_true_eq, decide_eq_false_iff_not, Int.not_lt, Int.not_le] at h45
     refine w_seq (fun K47 hK46 => ?_)
     refine w_region ?_
     refine w_pure want_none (y_assign (v := _) rfl rfl) rfl ?_
     refine w_pure want_none (y_assign (v := _) rfl rfl) rfl ?_
     refine w_nil ?_
     refine q_then (hK46 _ _ ?_)
     refine w_ret ?_
     refine q_blk_ret ?_
     refine q_then_ret ?_
     refine q_ret (l := [.tmp 4, .tmp 5]) (vs := [_, _]) rfl ⟨⟨rfl, show _ = (.int _ _ : Value) from rfl⟩, ⟨rfl, show _ = (.int _ _ : Value) from rfl⟩, trivial⟩ ?_
     exact ⟨by simp [canP, retV, hee, h32, h45], hs42.drop.tail.tail⟩
    ·
     try simp only [Bool.not_eq_true', Bool.not_eq_false', decide_eq_true_eq, decide_eq_false_iff_not, Int.not_lt, Int.not_le] at h45
     refine w_skip ?_
     refine q_blk_normal ?_
     refine q_then (hK18 _ _ ?_)
     refine w_seq (fun K49 hK48 => ?_)
     refine w_region ?_
     refine w_pure want_none (y_assign (v := _) rfl rfl) rfl ?_
     refine w_pure want_none (y_assign (v := _) rfl rfl) rfl ?_
     refine w_nil ?_
     refine q_then (hK48 _ _ ?_)
     refine w_ret ?_
     refine q_ret (l := [.tmp 4, .tmp 5]) (vs := [_, _]) rfl ⟨⟨rfl, show _ = (.int _ _ : Value) from rfl⟩, ⟨rfl, show _ = (.int _ _ : Value) from rfl⟩, trivial⟩ ?_
     exact ⟨by simp [canP, retV, hee, h32, h45], hs42.drop.tail.tail⟩

theorem c24 {w0 w : World} {F : List (Nat × Obj)} (m : Market) (p : At3) (hm : MIn w0 F m p) (al : Option Addr) (cl : Nat) (l : List Int) (hll : l.length ≤ 9223372036854775807) (hl : Sl w0 F al 1 (l.map fun x => [Value.int .i64 x]))  (hs : St w0 w F) :
  Con Try.prog 24 [.agg (m.cells p).toArray, .slice al l.length cl] w fun v w' => ∃ B a c, v = .tuple #[.slice a (proofP m l).1.length c, .int .i64 (proofP m l).2.1, .int .i64 (proofP m l).2.2] ∧ Sl w0 B a 1 ((proofP m l).1.map fun x => [Value.int .i64 x]) ∧ St w0 w' (B ++ F) := by
  refine con_of_wc (n := 31) Try.func24 rfl rfl (Nat.le_of_ble_eq_true rfl) ?_
  refine w_seq (fun K2 hK1 => ?_)
  refine w_region ?_
  refine w_box (v := .agg #[.slice _ _ _, .slice _ _ _, .slice _ _ _]) (cs := [_, _, _]) want_none rfl rfl rfl hs (fun b3 w4 hs5 => ?_)
  refine w_pure want_none (y_assign (v := _) rfl rfl) rfl ?_
  refine w_pure want_none (y_assign (v := _) rfl rfl) rfl ?_
  refine w_pure want_none (y_assign (v := _) rfl rfl) rfl ?_
  refine w_nil ?_
  refine q_then (hK1 _ _ ?_)
  refine w_seq (fun K7 hK6 => ?_)
  refine w_region ?_
  refine w_pure want_none (y_loadN (vs := [_, _, _]) Try.isAgg26 Try.sizeOf26 hs5 rfl rfl (ats_own (i := 0) (vs := [_, _, _]) rfl rfl)) rfl ?_
  refine w_pure want_none (y_move (v := .slice _ _ _) rfl rfl) rfl ?_
  refine w_call want_none Try.call66 rfl rfl rfl rfl (c66 m p hm.cons _ _ l hll hl.cons hs5) ?_
  rintro _ w9 (⟨hee, rfl, hs10⟩ | ⟨hee, mb, mm, M, rfl, hM, hs10⟩)
  ·
   refine w_pure want_none (y_move (v := .tuple _) rfl rfl) rfl ?_
   refine w_pure want_none (y_extract (v := .pointer _) rfl rfl rfl) rfl ?_
   refine w_pure want_none (y_extract (v := .int _ _) rfl rfl rfl) rfl ?_
   refine w_pure want_none (y_extract (v := .int _ _) rfl rfl rfl) rfl ?_
   refine w_pure want_none (y_assign (v := .pointer _) rfl rfl) rfl ?_
   refine w_pure want_none (y_assign (v := .int _ _) rfl rfl) rfl ?_
   refine w_pure want_none (y_assign (v := .int _ _) rfl rfl) rfl ?_
   refine w_nil ?_
   refine q_then (hK6 _ _ ?_)
   refine w_seq (fun K12 hK11 => ?_)
   refine w_seq (fun K14 hK13 => ?_)
   refine w_region ?_
   refine w_pure want_none (y_move (v := .int _ _) rfl rfl) rfl ?_
   refine w_pure want_none (y_neq rfl rfl rfl rfl) rfl ?_
   refine w_nil ?_
   refine q_then (hK13 _ _ ?_)
   refine w_cond rfl rfl (fun h15 => ?_) (fun h15 => ?_)
   ·
    try simp only [Bool.not_eq_true', Bool.not_eq_false', decide_eq_true_eq, decide_eq_false_iff_not, Int.not_lt, Int.not_le] at h15
    refine w_seq (fun K17 hK16 => ?_)
    refine w_region ?_
    refine w_pure want_none (y_move (v := .int _ _) rfl rfl) rfl ?_
    refine w_pure want_none (y_assign (v := _) rfl rfl) rfl ?_
    refine w_pure want_none (y_assign (v := _) rfl rfl) rfl ?_
    refine w_pure want_none (y_assign (v := .int _ _) rfl rfl) rfl ?_
    refine w_nil ?_
    refine q_then (hK16 _ _ ?_)
    refine w_ret ?_
    refine q_then_ret ?_
    refine q_ret (l := [.tmp 4, .tmp 5, .tmp 6]) (vs := [_, _, _]) rfl ⟨⟨rfl, show _ = (.slice _ _ _ : Value) from rfl⟩, ⟨rfl, show _ = (.int _ _ : Value) from rfl⟩, ⟨rfl, show _ = (.int _ _ : Value) from rfl⟩, trivial⟩ ?_
    exact ⟨[], none, 0, by unfold proofP; rw [if_pos hee]; rfl, by unfold proofP; rw [if_pos hee]; exact Sl.nil _ _, hs10.tail⟩
   ·
    exfalso
    try simp only [Bool.not_eq_true', Bool.not_eq_false', decide_eq_true_eq, decide_eq_false_iff_not, Int.not_lt, Int.not_le] at h15
    first | exact hee h15 | exact h15 hee
  ·
   replace hs10 := (show St _ _ (M ++ (_ :: _ :: F)) from hs10)
   have hk : MK w0 ((mb, blk 122 [.slice p.ar m.rooms.length p.cr, .slice p.az m.shops.length p.cs, .slice p.at_ m.trains.length p.ct, .map (some mm)]) :: (b3, blk 26 (m.cells p)) :: F) m p mb mm := ⟨hm.cons.cons, ats_own (i := 0) (vs := [_, _, _, _]) rfl rfl, check_ok (enter_chk (someE_enter hee))⟩
   have hlr := hk.ok.lr
   have hls := hk.ok.ls
   have hlt := hk.ok.lt
   have hbx : Ats w0 ((b3, blk 26 (m.cells p)) :: F) b3 0 (m.cells p) := ats_own (i := 0) rfl rfl
   refine w_pure want_none (y_move (v := .tuple _) rfl rfl) rfl ?_
   refine w_pure want_none (y_extract (v := .pointer _) rfl rfl rfl) rfl ?_
   refine w_pure want_none (y_extract (v := .int _ _) rfl rfl rfl) rfl ?_
   refine w_pure want_none (y_extract (v := .int _ _) rfl rfl rfl) rfl ?_
   refine w_pure want_none (y_assign (v := .pointer _) rfl rfl) rfl ?_
   refine w_pure want_none (y_assign (v := .int _ _) rfl rfl) rfl ?_
   refine w_pure want_none (y_assign (v := .int _ _) rfl rfl) rfl ?_
   refine w_nil ?_
   refine q_then (hK6 _ _ ?_)
   refine w_seq (fun K19 hK18 => ?_)
   refine w_seq (fun K21 hK20 => ?_)
   refine w_region ?_
   refine w_pure want_none (y_move (v := .int _ _) rfl rfl) rfl ?_
   refine w_pure want_none (y_neq rfl rfl rfl rfl) rfl ?_
   refine w_nil ?_
   refine q_then (hK20 _ _ ?_)
   refine w_condF rfl rfl ?_
   refine w_skip ?_
   refine q_then (hK18 _ _ ?_)
   refine w_seq (fun K23 hK22 => ?_)
   refine w_seq (fun K25 hK24 => ?_)
   refine w_region ?_
   refine w_pure want_none (y_move (v := .pointer _) rfl rfl) rfl ?_
   refine w_pure want_none (y_move (v := .pointer _) rfl rfl) rfl ?_
   refine w_call want_none Try.call68 rfl rfl rfl rfl (c68 m p mb mm hk.app _ hs10) ?_
   rintro _ w27 ⟨rfl, hs28⟩
   refine w_pure want_none (y_move (v := .int _ _) rfl rfl) rfl ?_
   refine w_call want_none Try.call70 rfl rfl rfl rfl (c70 (X := []) m p mb mm hk _ (allX_small hk.ok _) _ hM hs28) ?_
   rintro _ w30 ⟨B33, al_B33, cl_B33, M32, rfl, hsl_B33, hM32, hs31⟩
   replace hs31 := (show St _ _ (B33 ++ (M32 ++ (_ :: _ :: F))) from hs31)
   refine w_pure want_none (y_move (v := .tuple _) rfl rfl) rfl ?_
   refine w_pure want_none (y_extract (v := .slice _ _ _) rfl rfl rfl) rfl ?_
   refine w_pure want_none (y_extract (v := .int _ _) rfl rfl rfl) rfl ?_
   refine w_pure want_none (y_assign (v := .slice _ _ _) rfl rfl) rfl ?_
   refine w_pure want_none (y_assign (v := .int _ _) rfl rfl) rfl ?_
   refine w_nil ?_
   refine q_then (hK24 _ _ ?_)
   refine w_seq (fun K35 hK34 => ?_)
   refine w_region ?_
   refine w_pure want_none (y_move (v := .int _ _) rfl rfl) rfl ?_
   refine w_pure want_none (y_eql rfl rfl rfl rfl) rfl ?_
   refine w_nil ?_
   refine q_then (hK34 _ _ ?_)
   refine w_cond rfl rfl (fun h36 => ?_) (fun h36 => ?_)
   ·
    try simp only [Bool.not_eq_true', Bool.not_eq_false', decide_eq_true_eq, decide_eq_false_iff_not, Int.not_lt, Int.not_le] at h36
    refine w_seq (fun K38 hK37 => ?_)
    refine w_region ?_
    refine w_pure want_none (y_assign (v := _) rfl rfl) rfl ?_
    refine w_pure want_none (y_assign (v := _) rfl rfl) rfl ?_
    refine w_pure want_none (y_assign (v := _) rfl rfl) rfl ?_
    refine w_nil ?_
    refine q_then (hK37 _ _ ?_)
    refine w_ret ?_
    refine q_then_ret ?_
    refine q_ret (l := [.tmp 4, .tmp 5, .tmp 6]) (vs := [_, _, _]) rfl ⟨⟨rfl, show _ = (.slice _ _ _ : Value) from rfl⟩, ⟨rfl, show _ = (.int _ _ : Value) from rfl⟩, ⟨rfl, show _ = (.int _ _ : Value) from rfl⟩, trivial⟩ ?_
    first
      | (have hq : proofP m l = ([], 0, 9) := by unfold proofP; rw [if_neg (by simp [hee]), if_pos (by assumption)]
         exact ⟨[], none, 0, by rw [hq]; rfl, by rw [hq]; exact Sl.nil _ _, hs31.drop.drop.tail.tail⟩)
      | (have hq : proofP m l = ((worst m (allX m false) (someS l)).1, (worst m (allX m false) (someS l)).2, 0) := by unfold proofP; rw [if_neg (by simp [hee]), if_neg (by assumption)]
         exact ⟨_, al_B33, cl_B33, by rw [hq]; rfl, by rw [hq]; exact hsl_B33.top, eq2 hs31⟩)
   ·
    try simp only [Bool.not_eq_true', Bool.not_eq_false', decide_eq_true_eq, decide_eq_false_iff_not, Int.not_lt, Int.not_le] at h36
    refine w_skip ?_
    refine q_then (hK22 _ _ ?_)
    refine w_seq (fun K40 hK39 => ?_)
    refine w_region ?_
    refine w_pure want_none (y_move (v := .slice _ _ _) rfl rfl) rfl ?_
    refine w_pure want_none (y_move (v := .int _ _) rfl rfl) rfl ?_
    refine w_pure want_none (y_assign (v := .slice _ _ _) rfl rfl) rfl ?_
    refine w_pure want_none (y_assign (v := .int _ _) rfl rfl) rfl ?_
    refine w_pure want_none (y_assign (v := _) rfl rfl) rfl ?_
    refine w_nil ?_
    refine q_then (hK39 _ _ ?_)
    refine w_ret ?_
    refine q_ret (l := [.tmp 4, .tmp 5, .tmp 6]) (vs := [_, _, _]) rfl ⟨⟨rfl, show _ = (.slice _ _ _ : Value) from rfl⟩, ⟨rfl, show _ = (.int _ _ : Value) from rfl⟩, ⟨rfl, show _ = (.int _ _ : Value) from rfl⟩, trivial⟩ ?_
    first
      | (have hq : proofP m l = ([], 0, 9) := by unfold proofP; rw [if_neg (by simp [hee]), if_pos (by assumption)]
         exact ⟨[], none, 0, by rw [hq]; rfl, by rw [hq]; exact Sl.nil _ _, hs31.drop.drop.tail.tail⟩)
      | (have hq : proofP m l = ((worst m (allX m false) (someS l)).1, (worst m (allX m false) (someS l)).2, 0) := by unfold proofP; rw [if_neg (by simp [hee]), if_neg (by assumption)]
         exact ⟨_, al_B33, cl_B33, by rw [hq]; rfl, by rw [hq]; exact hsl_B33.top, eq2 hs31⟩)

theorem c73 {w0 w : World} {X M F : List (Nat × Obj)} (m : Market) (p : At3) (mb mm : Nat) (hk : MK w0 F m p mb mm)  (hM : Memo m mm M) (hs : St w0 w (X ++ (M ++ F))) :
  Con Try.prog 73 [.pointer (some ⟨mb, 0, none⟩)] w fun v w' => ∃ B a c M', v = .slice a (withoutL m).length c ∧ Sl w0 B a 1 ((withoutL m).map fun x => [Value.int .i64 x]) ∧ Memo m mm M' ∧ St w0 w' (B ++ (X ++ (M' ++ F))) := by
  refine con_of_wc (n := 50) Try.func73 rfl rfl (Nat.le_of_ble_eq_true rfl) ?_
  have hb := hk.b
  have hlr := hk.ok.lr
  have hls := hk.ok.ls
  have hlt := hk.ok.lt
  have hsa := shl_all hls
  refine w_seq (fun K2 hK1 => ?_)
  refine w_region ?_
  refine w_pure want_none (y_assign (v := _) rfl rfl) rfl ?_
  refine w_nil ?_
  refine q_then (hK1 _ _ ?_)
  refine w_seq (fun K4 hK3 => ?_)
  refine w_region ?_
  refine w_pure want_none (y_move (v := .pointer _) rfl rfl) rfl ?_
  refine w_pure want_none (y_nilCheck rfl rfl) rfl ?_
  refine w_pure want_none (y_fieldAddr (o := 0) (i := 0) Try.underlying122 rfl Try.sizeOf26 rfl rfl rfl) rfl ?_
  refine w_pure want_none (y_fieldAddr (o := 1) (i := 1) Try.underlying26 rfl Try.sizeOf23 rfl rfl rfl) rfl ?_
  refine w_pure want_none (y_load1 Try.isAgg23 hs.drop.drop rfl rfl (show Ats _ _ _ _ [_] from Ats.part hb 1 1)) rfl ?_
  refine w_pure want_none (y_lenS Try.underlying23 rfl rfl) rfl ?_
  refine w_pure want_none (y_shl (x := 1) (y := _) rfl rfl rfl rfl rfl rfl (by first | omega | exact shr_lt (by omega)) (by first | omega | exact shr_lt (by omega))) rfl ?_
  refine w_pure want_none (yd_cast (z' := ((1 <<< m.shops.length - 1 : Nat) : Int)) (by omega) (y_sub rfl rfl rfl rfl (by omega) (by omega))) rfl ?_
  refine w_pure want_none (y_assign (v := .int _ _) rfl rfl) rfl ?_
  refine w_nil ?_
  refine q_then (hK3 _ _ ?_)
  refine w_seq (fun K6 hK5 => ?_)
  refine w_region ?_
  refine w_pure want_none (y_move (v := .int _ _) rfl rfl) rfl ?_
  refine w_pure want_none (y_move (v := .pointer _) rfl rfl) rfl ?_
  refine w_pure want_none (y_nilCheck rfl rfl) rfl ?_
  refine w_pure want_none (y_fieldAddr (o := 0) (i := 0) Try.underlying122 rfl Try.sizeOf26 rfl rfl rfl) rfl ?_
  refine w_pure want_none (y_fieldAddr (o := 1) (i := 1) Try.underlying26 rfl Try.sizeOf23 rfl rfl rfl) rfl ?_
  refine w_pure want_none (y_load1 Try.isAgg23 hs.drop.drop rfl rfl (show Ats _ _ _ _ [_] from Ats.part hb 1 1)) rfl ?_
  refine w_pure want_none (y_lenS Try.underlying23 rfl rfl) rfl ?_
  refine w_call want_none Try.call90 rfl rfl rfl rfl (c90 _ _ (by omega) (by omega) hs) ?_
  rintro _ w8 ⟨B, al, cl, rfl, hsl, hs9⟩
  replace hs9 := (show St _ _ (B ++ (X ++ (M ++ (F)))) from hs9)
  refine w_pure want_none (y_assign (v := .slice _ _ _) rfl rfl) rfl ?_
  refine w_nil ?_
  refine q_then (hK5 _ _ ?_)
  refine w_seq (fun K11 hK10 => ?_)
  refine w_seq (fun K13 hK12 => ?_)
  refine w_region ?_
  refine w_pure want_none (y_move (v := .int _ _) rfl rfl) rfl ?_
  refine w_pure want_none (y_move (v := _) rfl rfl) rfl ?_
  refine w_nil ?_
  refine q_then (hK12 _ _ ?_)
  refine w_block ?_
  refine w_loop [4, 5, 6, 24, 25, 26, 27, 28, 29, 30, 31, 32, 33, 34, 35, 36, 37, 38, 39, 40, 41, 42, 43, 44, 45, 46, 47, 48] [4, 24] (fun k vs w => ∃ (b : Nat) (av : Option Addr) (cv : Nat) (B Mq : List (Nat × Obj)), vs = [.slice av (withoutTo m b).length cv, .int .i64 b] ∧ b ≤ 1 <<< m.shops.length - 1 ∧ k = (1 <<< m.shops.length - 1) - b ∧ Sl w0 B av 1 ((withoutTo m b).map fun x => [Value.int .i64 x]) ∧ Memo m mm Mq ∧ St w0 w (B ++ (X ++ (Mq ++ F)))) (1 <<< m.shops.length - 1) ?_ ?_
  ·
   exact ⟨0, _, _, B, M, rfl, by omega, by omega, hsl, hM, hs9⟩
  ·
   intro k vs μ w16 hI K15 hN14
   obtain ⟨b, av, cv, B, Mq, rfl, hba, rfl, hsl, hMq, hs⟩ := hI
   refine w_seq (fun K18 hK17 => ?_)
   refine w_region ?_
   refine w_pure want_none (y_lss rfl rfl rfl rfl) rfl ?_
   refine w_nil ?_
   refine q_then (hK17 _ _ ?_)
   refine w_seq (fun K20 hK19 => ?_)
   refine w_cond rfl rfl (fun h21 => ?_) (fun h21 => ?_)
   ·
    try simp only [Bool.not_eq_true', Bool.not_eq_false', decide_eq_true_eq, decide_eq_false_iff_not, Int.not_lt, Int.not_le] at h21
    refine w_skip ?_
    refine q_then (hK19 _ _ ?_)
    refine w_seq (fun K23 hK22 => ?_)
    refine w_block ?_
    refine w_seq (fun K25 hK24 => ?_)
    refine w_region ?_
    refine w_pure want_none (y_move (v := .int _ _) rfl rfl) rfl ?_
    refine w_pure want_none (y_assign (v := .int _ _) rfl rfl) rfl ?_
    refine w_nil ?_
    refine q_then (hK24 _ _ ?_)
    refine w_seq (fun K27 hK26 => ?_)
    refine w_region ?_
    refine w_pure want_none (y_move (v := .int _ _) rfl rfl) rfl ?_
    refine w_pure want_none (y_move (v := .pointer _) rfl rfl) rfl ?_
    refine w_pure want_none (y_nilCheck rfl rfl) rfl ?_
    refine w_pure want_none (y_fieldAddr (o := 0) (i := 0) Try.underlying122 rfl Try.sizeOf26 rfl rfl rfl) rfl ?_
    refine w_pure want_none (y_fieldAddr (o := 1) (i := 1) Try.underlying26 rfl Try.sizeOf23 rfl rfl rfl) rfl ?_
    refine w_pure want_none (y_load1 Try.isAgg23 hs.drop.drop.drop rfl rfl (show Ats _ _ _ _ [_] from Ats.part hb 1 1)) rfl ?_
    refine w_pure want_none (y_lenS Try.underlying23 rfl rfl) rfl ?_
    refine w_call want_none Try.call90 rfl rfl rfl rfl (c90 _ _ (by omega) (by omega) hs) ?_
    rintro _ w29 ⟨B1, al1, cl1, rfl, hsl1, hs30⟩
    replace hs30 := (show St _ _ (B1 ++ (B ++ (X ++ (Mq ++ (F))))) from hs30)
    refine w_pure want_none (y_assign (v := .slice _ _ _) rfl rfl) rfl ?_
    refine w_nil ?_
    refine q_then (hK26 _ _ ?_)
    refine w_seq (fun K32 hK31 => ?_)
    have hle1 := listL_le b m.shops.length
    have hle2 := withoutTo_len m b
    refine w_region ?_
    refine w_pure want_none (y_move (v := .slice _ _ _) rfl rfl) rfl ?_
    refine w_pure want_none (y_move (v := .slice _ _ _) rfl rfl) rfl ?_
    refine w_call want_none Try.call91 rfl rfl rfl rfl (c91 _ _ _ _ _ _ (by omega) (by omega) hsl1.top hsl.top.app hs30) ?_
    rintro _ w34 ⟨rfl, hs35⟩
    refine w_pure want_none (y_move (v := .bool _) rfl rfl) rfl ?_
    refine w_split (fun h36 => ?_) (fun h36 => ?_)
    ·
     try simp only [Bool.not_eq_true', Bool.not_eq_false', decide_eq_true_eq, decide_eq_false_iff_not, Int.not_lt, Int.not_le] at h36
     refine w_pure (want_yes rfl rfl rfl) (y_move (v := .pointer _) rfl rfl) rfl ?_
     refine w_pure (want_yes rfl rfl rfl) (y_move (v := .pointer _) rfl rfl) rfl ?_
     refine w_call (want_yes rfl rfl rfl) Try.call68 rfl rfl rfl rfl (c68 m p mb mm hk.app.app.app.app _ hs35) ?_
     rintro _ w38 ⟨rfl, hs39⟩
     refine w_pure (want_yes rfl rfl rfl) (y_move (v := .int _ _) rfl rfl) rfl ?_
     refine w_pure (want_yes rfl rfl rfl) (y_move (v := .int _ _) rfl rfl) rfl ?_
     refine w_pure (want_yes rfl rfl rfl) (y_andNot (x := 1 <<< m.shops.length - 1) (y := b) rfl rfl rfl rfl (by first | rfl | omega) (by first | rfl | omega) (by first | omega | exact shr_lt (by omega))) rfl ?_
     refine w_call (want_yes rfl rfl rfl) Try.call67 rfl rfl rfl rfl (c67 (X := (B1 ++ (B ++ (X)))) m p mb mm hk _ (allX_small hk.ok _) _ hMq (St.cast (by simp only [List.append_assoc, List.cons_append]) hs39)) ?_
     rintro _ w41 ⟨rfl, M43, hM43, hs42⟩
     replace hs42 : St _ _ (B1 ++ (B ++ (X ++ (M43 ++ (F))))) := St.cast (by simp only [List.append_assoc, List.cons_append]) hs42
     refine w_pure want_none (y_pickT (v := .bool _) rfl rfl rfl rfl) rfl ?_
     refine w_nil ?_
     refine q_then (hK31 _ _ ?_)
     refine w_cond rfl rfl (fun h45 => ?_) (fun h45 => ?_)
     ·
      try simp only [Bool.not_eq_true', Bool.not_eq_false', decide_eq_true_eq, decide_eq_false_iff_not, Int.not_lt, Int.not_le] at h45
      refine w_region ?_
      refine w_pure want_none (y_move (v := .slice _ _ _) rfl rfl) rfl ?_
      refine w_pure want_none (y_assign (v := .slice _ _ _) rfl rfl) rfl ?_
      refine w_nil ?_
      refine q_blk_normal ?_
      refine q_then (hK22 _ _ ?_)
      refine w_region ?_
      refine w_pure want_none (y_add rfl rfl rfl rfl (by omega) (by omega)) rfl ?_
      refine w_pure want_none (y_move (v := .int _ _) rfl rfl) rfl ?_
      refine w_nil ?_
      refine q_then (hN14 _ _ (Nx.intro ((1 <<< m.shops.length - 1) - (b + 1)) (by omega) (by repeat (first | exact agree_mix | refine agree_upd rfl ?_ | refine agree_updL rfl ?_ _ | refine agree_mixin rfl ?_)) ?_))
      first
        | exact ⟨b + 1, al1, cl1, B1 ++ B, M43, by rw [← withoutTo_take (by assumption) (by assumption)]; rfl, by omega, rfl, by rw [← withoutTo_take (by assumption) (by assumption)]; exact hsl1.top, hM43, by rw [List.append_assoc]; exact hs42⟩
        | exact ⟨b + 1, av, cv, B1 ++ B, M43, by rw [← withoutTo_1 (by assumption)]; rfl, by omega, rfl, by rw [← withoutTo_1 (by assumption)]; exact hsl.app, hM43, by rw [List.append_assoc]; exact hs42⟩
        | exact ⟨b + 1, av, cv, B1 ++ B, M43, by rw [← withoutTo_2 (by assumption)]; rfl, by omega, rfl, by rw [← withoutTo_2 (by assumption)]; exact hsl.app, hM43, by rw [List.append_assoc]; exact hs42⟩
     ·
      try simp only [Bool.not_eq_true', Bool.not_eq_false', decide_eq_true_eq, decide_eq_false_iff_not, Int.not_lt, Int.not_le] at h45
      refine w_skip ?_
      refine q_blk_normal ?_
      refine q_then (hK22 _ _ ?_)
      refine w_region ?_
      refine w_pure want_none (y_add rfl rfl rfl rfl (by omega) (by omega)) rfl ?_
      refine w_pure want_none (y_move (v := .int _ _) rfl rfl) rfl ?_
      refine w_nil ?_
      refine q_then (hN14 _ _ (Nx.intro ((1 <<< m.shops.length - 1) - (b + 1)) (by omega) (by repeat (first | exact agree_mix | refine agree_upd rfl ?_ | refine agree_updL rfl ?_ _ | refine agree_mixin rfl ?_)) ?_))
      first
        | exact ⟨b + 1, al1, cl1, B1 ++ B, M43, by rw [← withoutTo_take (by assumption) (by assumption)]; rfl, by omega, rfl, by rw [← withoutTo_take (by assumption) (by assumption)]; exact hsl1.top, hM43, by rw [List.append_assoc]; exact hs42⟩
        | exact ⟨b + 1, av, cv, B1 ++ B, M43, by rw [← withoutTo_1 (by assumption)]; rfl, by omega, rfl, by rw [← withoutTo_1 (by assumption)]; exact hsl.app, hM43, by rw [List.append_assoc]; exact hs42⟩
        | exact ⟨b + 1, av, cv, B1 ++ B, M43, by rw [← withoutTo_2 (by assumption)]; rfl, by omega, rfl, by rw [← withoutTo_2 (by assumption)]; exact hsl.app, hM43, by rw [List.append_assoc]; exact hs42⟩
    ·
     try simp only [Bool.not_eq_true', Bool.not_eq_false', decide_eq_true_eq, decide_eq_false_iff_not, Int.not_lt, Int.not_le] at h36
     refine w_skipop rfl rfl rfl ?_
     refine w_skipop rfl rfl rfl ?_
     refine w_skipop rfl rfl rfl ?_
     refine w_skipop rfl rfl rfl ?_
     refine w_skipop rfl rfl rfl ?_
     refine w_skipop rfl rfl rfl ?_
     refine w_skipop rfl rfl rfl ?_
     refine w_pure want_none (y_pickF (v := _) rfl rfl rfl rfl) rfl ?_
     refine w_nil ?_
     refine q_then (hK31 _ _ ?_)
     refine w_condF rfl rfl ?_
     refine w_skip ?_
     refine q_blk_normal ?_
     refine q_then (hK22 _ _ ?_)
     refine w_region ?_
     refine w_pure want_none (y_add rfl rfl rfl rfl (by omega) (by omega)) rfl ?_
     refine w_pure want_none (y_move (v := .int _ _) rfl rfl) rfl ?_
     refine w_nil ?_
     refine q_then (hN14 _ _ (Nx.intro ((1 <<< m.shops.length - 1) - (b + 1)) (by omega) (by repeat (first | exact agree_mix | refine agree_upd rfl ?_ | refine agree_updL rfl ?_ _ | refine agree_mixin rfl ?_)) ?_))
     first
       | exact ⟨b + 1, al1, cl1, B1 ++ B, Mq, by rw [← withoutTo_take (by assumption) (by assumption)]; rfl, by omega, rfl, by rw [← withoutTo_take (by assumption) (by assumption)]; exact hsl1.top, hMq, by rw [List.append_assoc]; exact hs35⟩
       | exact ⟨b + 1, av, cv, B1 ++ B, Mq, by rw [← withoutTo_1 (by assumption)]; rfl, by omega, rfl, by rw [← withoutTo_1 (by assumption)]; exact hsl.app, hMq, by rw [List.append_assoc]; exact hs35⟩
       | exact ⟨b + 1, av, cv, B1 ++ B, Mq, by rw [← withoutTo_2 (by assumption)]; rfl, by omega, rfl, by rw [← withoutTo_2 (by assumption)]; exact hsl.app, hMq, by rw [List.append_assoc]; exact hs35⟩
   ·
    try simp only [Bool.not_eq_true', Bool.not_eq_false', decide_eq_true_eq, decide_eq_false_iff_not, Int.not_lt, Int.not_le] at h21
    refine w_exit ?_
    refine q_then_exit ?_
    refine q_then_exit ?_
    refine q_blk_this ?_
    refine q_then (hK10 _ _ ?_)
    refine w_seq (fun K47 hK46 => ?_)
    refine w_region ?_
    refine w_pure want_none (y_move (v := .slice _ _ _) rfl rfl) rfl ?_
    refine w_pure want_none (y_assign (v := .slice _ _ _) rfl rfl) rfl ?_
    refine w_nil ?_
    refine q_then (hK46 _ _ ?_)
    refine w_ret ?_
    refine q_ret (l := [.tmp 2]) (vs := [_]) rfl ⟨⟨rfl, show _ = (.slice _ _ _ : Value) from rfl⟩, trivial⟩ ?_
    have hbw : b = 1 <<< m.shops.length - 1 := by omega
    subst hbw
    exact ⟨B, av, cv, Mq, rfl, hsl, hMq, hs⟩

theorem c26 {w0 w : World} {F : List (Nat × Obj)} (m : Market) (p : At3) (hm : MIn w0 F m p)  (hs : St w0 w F) :
  Con Try.prog 26 [.agg (m.cells p).toArray] w fun v w' => ∃ B a c, v = .tuple #[.slice a (withoutP m).1.length c, .int .i64 (withoutP m).2] ∧ Sl w0 B a 1 ((withoutP m).1.map fun x => [Value.int .i64 x]) ∧ St w0 w' (B ++ F) := by
  refine con_of_wc (n := 16) Try.func26 rfl rfl (Nat.le_of_ble_eq_true rfl) ?_
  refine w_seq (fun K2 hK1 => ?_)
  refine w_region ?_
  refine w_box (v := .agg #[.slice _ _ _, .slice _ _ _, .slice _ _ _]) (cs := [_, _, _]) want_none rfl rfl rfl hs (fun b3 w4 hs5 => ?_)
  refine w_pure want_none (y_assign (v := _) rfl rfl) rfl ?_
  refine w_pure want_none (y_assign (v := _) rfl rfl) rfl ?_
  refine w_nil ?_
  refine q_then (hK1 _ _ ?_)
  refine w_seq (fun K7 hK6 => ?_)
  refine w_region ?_
  refine w_pure want_none (y_loadN (vs := [_, _, _]) Try.isAgg26 Try.sizeOf26 hs5 rfl rfl (ats_own (i := 0) (vs := [_, _, _]) rfl rfl)) rfl ?_
  refine w_call want_none Try.call64 rfl rfl rfl rfl (c64 m p hm.cons 0 (by omega) (by omega) none 0 [] (by simp) (Sl.nil _ _) hs5) ?_
  rintro _ w9 (⟨hee, rfl, hs10⟩ | ⟨hee, mb, mm, M, rfl, hM, hs10⟩)
  ·
   refine w_pure want_none (y_move (v := .tuple _) rfl rfl) rfl ?_
   refine w_pure want_none (y_extract (v := .pointer _) rfl rfl rfl) rfl ?_
   refine w_pure want_none (y_extract (v := .int _ _) rfl rfl rfl) rfl ?_
   refine w_pure want_none (y_assign (v := .pointer _) rfl rfl) rfl ?_
   refine w_pure want_none (y_assign (v := .int _ _) rfl rfl) rfl ?_
   refine w_nil ?_
   refine q_then (hK6 _ _ ?_)
   refine w_seq (fun K12 hK11 => ?_)
   refine w_seq (fun K14 hK13 => ?_)
   refine w_region ?_
   refine w_pure want_none (y_move (v := .int _ _) rfl rfl) rfl ?_
   refine w_pure want_none (y_neq rfl rfl rfl rfl) rfl ?_
   refine w_nil ?_
   refine q_then (hK13 _ _ ?_)
   refine w_cond rfl rfl (fun h15 => ?_) (fun h15 => ?_)
   ·
    try simp only [Bool.not_eq_true', Bool.not_eq_false', decide_eq_true_eq, decide_eq_false_iff_not, Int.not_lt, Int.not_le] at h15
    refine w_seq (fun K17 hK16 => ?_)
    refine w_region ?_
    refine w_pure want_none (y_move (v := .int _ _) rfl rfl) rfl ?_
    refine w_pure want_none (y_assign (v := _) rfl rfl) rfl ?_
    refine w_pure want_none (y_assign (v := .int _ _) rfl rfl) rfl ?_
    refine w_nil ?_
    refine q_then (hK16 _ _ ?_)
    refine w_ret ?_
    refine q_then_ret ?_
    refine q_ret (l := [.tmp 2, .tmp 3]) (vs := [_, _]) rfl ⟨⟨rfl, show _ = (.slice _ _ _ : Value) from rfl⟩, ⟨rfl, show _ = (.int _ _ : Value) from rfl⟩, trivial⟩ ?_
    have hq : withoutP m = ([], (check m).2.2) := by unfold withoutP; rw [if_pos (by rw [← enterE_nil (n := 0)]; exact hee)]
    exact ⟨[], none, 0, by rw [hq, ← enterE_nil (n := 0)]; rfl, by rw [hq]; exact Sl.nil _ _, hs10.tail⟩
   ·
    exfalso
    try simp only [Bool.not_eq_true', Bool.not_eq_false', decide_eq_true_eq, decide_eq_false_iff_not, Int.not_lt, Int.not_le] at h15
    first | exact hee h15 | exact h15 hee
  ·
   replace hs10 := (show St _ _ (M ++ (_ :: _ :: F)) from hs10)
   have hk : MK w0 ((mb, blk 122 [.slice p.ar m.rooms.length p.cr, .slice p.az m.shops.length p.cs, .slice p.at_ m.trains.length p.ct, .map (some mm)]) :: (b3, blk 26 (m.cells p)) :: F) m p mb mm := ⟨hm.cons.cons, ats_own (i := 0) (vs := [_, _, _, _]) rfl rfl, check_ok (enter_chk hee)⟩
   have hlr := hk.ok.lr
   have hls := hk.ok.ls
   have hlt := hk.ok.lt
   have hbx : Ats w0 ((b3, blk 26 (m.cells p)) :: F) b3 0 (m.cells p) := ats_own (i := 0) rfl rfl
   refine w_pure want_none (y_move (v := .tuple _) rfl rfl) rfl ?_
   refine w_pure want_none (y_extract (v := .pointer _) rfl rfl rfl) rfl ?_
   refine w_pure want_none (y_extract (v := .int _ _) rfl rfl rfl) rfl ?_
   refine w_pure want_none (y_assign (v := .pointer _) rfl rfl) rfl ?_
   refine w_pure want_none (y_assign (v := .int _ _) rfl rfl) rfl ?_
   refine w_nil ?_
   refine q_then (hK6 _ _ ?_)
   refine w_seq (fun K19 hK18 => ?_)
   refine w_seq (fun K21 hK20 => ?_)
   refine w_region ?_
   refine w_pure want_none (y_move (v := .int _ _) rfl rfl) rfl ?_
   refine w_pure want_none (y_neq rfl rfl rfl rfl) rfl ?_
   refine w_nil ?_
   refine q_then (hK20 _ _ ?_)
   refine w_condF rfl rfl ?_
   refine w_skip ?_
   refine q_then (hK18 _ _ ?_)
   refine w_seq (fun K23 hK22 => ?_)
   refine w_region ?_
   refine w_pure want_none (y_move (v := .pointer _) rfl rfl) rfl ?_
   refine w_call want_none Try.call73 rfl rfl rfl rfl (c73 (X := []) m p mb mm hk  hM hs10) ?_
   rintro _ w25 ⟨B28, al_B28, cl_B28, M27, rfl, hsl_B28, hM27, hs26⟩
   replace hs26 := (show St _ _ (B28 ++ (M27 ++ (_ :: _ :: F))) from hs26)
   refine w_pure want_none (y_assign (v := .slice _ _ _) rfl rfl) rfl ?_
   refine w_pure want_none (y_assign (v := _) rfl rfl) rfl ?_
   refine w_nil ?_
   refine q_then (hK22 _ _ ?_)
   refine w_ret ?_
   refine q_ret (l := [.tmp 2, .tmp 3]) (vs := [_, _]) rfl ⟨⟨rfl, show _ = (.slice _ _ _ : Value) from rfl⟩, ⟨rfl, show _ = (.int _ _ : Value) from rfl⟩, trivial⟩ ?_
   have hq : withoutP m = (withoutL m, 0) := by unfold withoutP; rw [if_neg (by rw [enter_chk hee]; simp)]
   exact ⟨_, al_B28, cl_B28, by rw [hq]; rfl, by rw [hq]; exact hsl_B28.top, eq2 hs26⟩

theorem c18 {w0 w : World} {F : List (Nat × Obj)} (m : Market) (p : At3) (hm : MIn w0 F m p)  (hs : St w0 w F) :
  Con Try.prog 18 [.agg (m.cells p).toArray] w fun v w' => ∃ B a c, v = .tuple #[.slice a (goesP m).1.length c, .int .i64 (goesP m).2] ∧ Sl w0 B a 1 ((goesP m).1.map fun x => [Value.int .i64 x]) ∧ St w0 w' (B ++ F) := by
  refine con_of_wc (n := 29) Try.func18 rfl rfl (Nat.le_of_ble_eq_true rfl) ?_
  refine w_seq (fun K2 hK1 => ?_)
  refine w_region ?_
  refine w_box (v := .agg #[.slice _ _ _, .slice _ _ _, .slice _ _ _]) (cs := [_, _, _]) want_none rfl rfl rfl hs (fun b3 w4 hs5 => ?_)
  refine w_pure want_none (y_assign (v := _) rfl rfl) rfl ?_
  refine w_pure want_none (y_assign (v := _) rfl rfl) rfl ?_
  refine w_nil ?_
  refine q_then (hK1 _ _ ?_)
  refine w_seq (fun K7 hK6 => ?_)
  refine w_region ?_
  refine w_pure want_none (y_loadN (vs := [_, _, _]) Try.isAgg26 Try.sizeOf26 hs5 rfl rfl (ats_own (i := 0) (vs := [_, _, _]) rfl rfl)) rfl ?_
  refine w_call want_none Try.call64 rfl rfl rfl rfl (c64 m p hm.cons 0 (by omega) (by omega) none 0 [] (by simp) (Sl.nil _ _) hs5) ?_
  rintro _ w9 (⟨hee, rfl, hs10⟩ | ⟨hee, mb, mm, M, rfl, hM, hs10⟩)
  ·
   refine w_pure want_none (y_move (v := .tuple _) rfl rfl) rfl ?_
   refine w_pure want_none (y_extract (v := .pointer _) rfl rfl rfl) rfl ?_
   refine w_pure want_none (y_extract (v := .int _ _) rfl rfl rfl) rfl ?_
   refine w_pure want_none (y_assign (v := .pointer _) rfl rfl) rfl ?_
   refine w_pure want_none (y_assign (v := .int _ _) rfl rfl) rfl ?_
   refine w_nil ?_
   refine q_then (hK6 _ _ ?_)
   refine w_seq (fun K12 hK11 => ?_)
   refine w_seq (fun K14 hK13 => ?_)
   refine w_region ?_
   refine w_pure want_none (y_move (v := .int _ _) rfl rfl) rfl ?_
   refine w_pure want_none (y_neq rfl rfl rfl rfl) rfl ?_
   refine w_nil ?_
   refine q_then (hK13 _ _ ?_)
   refine w_cond rfl rfl (fun h15 => ?_) (fun h15 => ?_)
   ·
    try simp only [Bool.not_eq_true', Bool.not_eq_false', decide_eq_true_eq, decide_eq_false_iff_not, Int.not_lt, Int.not_le] at h15
    refine w_seq (fun K17 hK16 => ?_)
    refine w_region ?_
    refine w_pure want_none (y_move (v := .int _ _) rfl rfl) rfl ?_
    refine w_pure want_none (y_assign (v := _) rfl rfl) rfl ?_
    refine w_pure want_none (y_assign (v := .int _ _) rfl rfl) rfl ?_
    refine w_nil ?_
    refine q_then (hK16 _ _ ?_)
    refine w_ret ?_
    refine q_then_ret ?_
    refine q_ret (l := [.tmp 2, .tmp 3]) (vs := [_, _]) rfl ⟨⟨rfl, show _ = (.slice _ _ _ : Value) from rfl⟩, ⟨rfl, show _ = (.int _ _ : Value) from rfl⟩, trivial⟩ ?_
    have hq : goesP m = ([], (check m).2.2) := by unfold goesP; rw [if_pos (by rw [← enterE_nil (n := 0)]; exact hee)]
    exact ⟨[], none, 0, by rw [hq, ← enterE_nil (n := 0)]; rfl, by rw [hq]; exact Sl.nil _ _, hs10.tail⟩
   ·
    exfalso
    try simp only [Bool.not_eq_true', Bool.not_eq_false', decide_eq_true_eq, decide_eq_false_iff_not, Int.not_lt, Int.not_le] at h15
    first | exact hee h15 | exact h15 hee
  ·
   replace hs10 := (show St _ _ (M ++ (_ :: _ :: F)) from hs10)
   have hk : MK w0 ((mb, blk 122 [.slice p.ar m.rooms.length p.cr, .slice p.az m.shops.length p.cs, .slice p.at_ m.trains.length p.ct, .map (some mm)]) :: (b3, blk 26 (m.cells p)) :: F) m p mb mm := ⟨hm.cons.cons, ats_own (i := 0) (vs := [_, _, _, _]) rfl rfl, check_ok (enter_chk hee)⟩
   have hlr := hk.ok.lr
   have hls := hk.ok.ls
   have hlt := hk.ok.lt
   have hbx : Ats w0 ((b3, blk 26 (m.cells p)) :: F) b3 0 (m.cells p) := ats_own (i := 0) rfl rfl
   refine w_pure want_none (y_move (v := .tuple _) rfl rfl) rfl ?_
   refine w_pure want_none (y_extract (v := .pointer _) rfl rfl rfl) rfl ?_
   refine w_pure want_none (y_extract (v := .int _ _) rfl rfl rfl) rfl ?_
   refine w_pure want_none (y_assign (v := .pointer _) rfl rfl) rfl ?_
   refine w_pure want_none (y_assign (v := .int _ _) rfl rfl) rfl ?_
   refine w_nil ?_
   refine q_then (hK6 _ _ ?_)
   refine w_seq (fun K19 hK18 => ?_)
   refine w_seq (fun K21 hK20 => ?_)
   refine w_region ?_
   refine w_pure want_none (y_move (v := .int _ _) rfl rfl) rfl ?_
   refine w_pure want_none (y_neq rfl rfl rfl rfl) rfl ?_
   refine w_nil ?_
   refine q_then (hK20 _ _ ?_)
   refine w_condF rfl rfl ?_
   refine w_skip ?_
   refine q_then (hK18 _ _ ?_)
   refine w_seq (fun K23 hK22 => ?_)
   refine w_seq (fun K25 hK24 => ?_)
   refine w_region ?_
   refine w_pure want_none (y_fieldAddr (o := 2) (i := 2) Try.underlying26 rfl Try.sizeOf24 rfl rfl rfl) rfl ?_
   refine w_pure want_none (y_load1 Try.isAgg24 hs10.drop.tail rfl rfl (show Ats _ _ _ _ [_] from Ats.part hbx 2 1)) rfl ?_
   refine w_pure want_none (y_lenS Try.underlying24 rfl rfl) rfl ?_
   refine w_pure want_none (y_move (v := _) rfl rfl) rfl ?_
   refine w_nil ?_
   refine q_then (hK24 _ _ ?_)
   refine w_block ?_
   refine w_loop [2, 5, 17, 18, 19, 20, 21, 22, 23, 24, 25, 26, 27] [2, 17] (fun k vs w => ∃ (i : Nat) (v : Value) (B : List (Nat × Obj)), vs = [v, .int .i64 i] ∧ i ≤ m.trains.length ∧ k = m.trains.length - i ∧ Rt.Own v 3 1 (goesTo m i).length (iv (goesTo m i)) B ∧ St w0 w (B ++ (M ++ ((mb, blk 122 [.slice p.ar m.rooms.length p.cr, .slice p.az m.shops.length p.cs, .slice p.at_ m.trains.length p.ct, .map (some mm)]) :: (b3, blk 26 (m.cells p)) :: F)))) (m.trains.length) ?_ ?_
   ·
    exact ⟨0, _, [], rfl, by omega, by omega, own_nil 3 1, hs10⟩
   ·
    intro k vs μ w28 hI K27 hN26
    obtain ⟨i, v, B, rfl, hia, rfl, hown, hs⟩ := hI
    refine w_seq (fun K30 hK29 => ?_)
    refine w_region ?_
    refine w_pure want_none (y_lss rfl rfl rfl rfl) rfl ?_
    refine w_nil ?_
    refine q_then (hK29 _ _ ?_)
    refine w_seq (fun K32 hK31 => ?_)
    refine w_cond rfl rfl (fun h33 => ?_) (fun h33 => ?_)
    ·
     try simp only [Bool.not_eq_true', Bool.not_eq_false', decide_eq_true_eq, decide_eq_false_iff_not, Int.not_lt, Int.not_le] at h33
     refine w_skip ?_
     refine q_then (hK31 _ _ ?_)
     refine w_seq (fun K35 hK34 => ?_)
     refine w_block ?_
     refine w_seq (fun K37 hK36 => ?_)
     have hi2 : i < m.trains.length := by omega
     have hgl := goesTo_len m i
     refine w_region ?_
     refine w_pure want_none (y_move (v := .int _ _) rfl rfl) rfl ?_
     refine w_pure want_none (y_assign (v := .int _ _) rfl rfl) rfl ?_
     refine w_nil ?_
     refine q_then (hK36 _ _ ?_)
     refine w_seq (fun K39 hK38 => ?_)
     refine w_region ?_
     refine w_pure want_none (y_move (v := .pointer _) rfl rfl) rfl ?_
     refine w_pure want_none (y_move (v := .int _ _) rfl rfl) rfl ?_
     refine w_call want_none Try.call65 rfl rfl rfl rfl (c65 m p mb mm hk.app.app i hi2 hs) ?_
     rintro _ w41 ⟨rfl, hs42⟩
     refine w_nil ?_
     refine q_then (hK38 _ _ ?_)
     refine w_cond rfl rfl (fun h43 => ?_) (fun h43 => ?_)
     ·
      try simp only [Bool.not_eq_true', Bool.not_eq_false', decide_eq_true_eq, decide_eq_false_iff_not, Int.not_lt, Int.not_le] at h43
      refine w_region ?_
      refine w_pure want_none (y_move (v := v) rfl rfl) rfl ?_
      refine w_pure want_none (y_move (v := .int _ _) rfl rfl) rfl ?_
      refine w_bslice (ps := [(0, _)]) (pv := [(0, .int _ _)]) (cs := [_]) want_none rfl rfl (fun w => Try_H_fb2 _ w) hs42 (fun b44 w45 hs46 => ?_)
      refine w_append (X := (_ :: [])) (B := B) (rows := [[_]]) (sz := 1) (bytes := 8) want_none Try.underlying30 Try_info3 rfl rfl rfl rfl rfl rfl rfl rfl rfl hs46 hown (sl_own (i := 0) rfl (by simp) rfl) rfl (by simp) (by simp [Value.oneCell']) (by simp only [maxLen]; omega) (by omega) (fun v47 w48 B49 ho50 hs51 => ?_)
      replace hs51 := (show St _ _ (_ :: B49 ++ (M ++ (_ :: _ :: F))) from hs51)
      refine w_pure want_none (y_assign (v := v47) rfl rfl) rfl ?_
      refine w_nil ?_
      refine q_blk_normal ?_
      refine q_then (hK34 _ _ ?_)
      refine w_region ?_
      refine w_pure want_none (y_add rfl rfl rfl rfl (by omega) (by omega)) rfl ?_
      refine w_pure want_none (y_move (v := .int _ _) rfl rfl) rfl ?_
      refine w_nil ?_
      refine q_then (hN26 _ _ (Nx.intro (m.trains.length - (i + 1)) (by omega) (by repeat (first | exact agree_mix | refine agree_upd rfl ?_ | refine agree_updL rfl ?_ _ | refine agree_mixin rfl ?_)) ?_))
      exact ⟨i + 1, _, _, rfl, by omega, rfl, by rw [goesTo_yes hi2 (by assumption)]; exact own_snoc ho50, hs51.tail⟩
     ·
      try simp only [Bool.not_eq_true', Bool.not_eq_false', decide_eq_true_eq, decide_eq_false_iff_not, Int.not_lt, Int.not_le] at h43
      refine w_skip ?_
      refine q_blk_normal ?_
      refine q_then (hK34 _ _ ?_)
      refine w_region ?_
      refine w_pure want_none (y_add rfl rfl rfl rfl (by omega) (by omega)) rfl ?_
      refine w_pure want_none (y_move (v := .int _ _) rfl rfl) rfl ?_
      refine w_nil ?_
      refine q_then (hN26 _ _ (Nx.intro (m.trains.length - (i + 1)) (by omega) (by repeat (first | exact agree_mix | refine agree_upd rfl ?_ | refine agree_updL rfl ?_ _ | refine agree_mixin rfl ?_)) ?_))
      exact ⟨i + 1, v, B, rfl, by omega, rfl, by rw [goesTo_no hi2 (by assumption)]; exact hown, hs42⟩
    ·
     try simp only [Bool.not_eq_true', Bool.not_eq_false', decide_eq_true_eq, decide_eq_false_iff_not, Int.not_lt, Int.not_le] at h33
     refine w_exit ?_
     refine q_then_exit ?_
     refine q_then_exit ?_
     refine q_blk_this ?_
     refine q_then (hK22 _ _ ?_)
     refine w_seq (fun K53 hK52 => ?_)
     refine w_region ?_
     refine w_pure want_none (y_move (v := v) rfl rfl) rfl ?_
     refine w_pure want_none (y_assign (v := v) rfl rfl) rfl ?_
     refine w_pure want_none (y_assign (v := _) rfl rfl) rfl ?_
     refine w_nil ?_
     refine q_then (hK52 _ _ ?_)
     refine w_ret ?_
     refine q_ret (l := [.tmp 2, .tmp 3]) (vs := [_, _]) rfl ⟨⟨rfl, show _ = (v : Value) from rfl⟩, ⟨rfl, show _ = (.int _ _ : Value) from rfl⟩, trivial⟩ ?_
     have hil : i = m.trains.length := by omega
     subst hil
     have hq : goesP m = (goesTo m m.trains.length, 0) := by unfold goesP; rw [if_neg (by rw [enter_chk hee]; simp)]
     obtain ⟨ag, cg, rfl, hsg⟩ := own_sl_map (w0 := w0) hown rfl []
     rw [List.append_nil] at hsg
     exact ⟨_, ag, cg, by rw [hq]; rfl, by rw [hq]; exact hsg.top, eq2 hs⟩

end Go.Proofs
/- Walks of this seat, printed by gen.py over the engine: what each function returns, in whatever world. No conditions but those of each contract. -/
set_option linter.unusedVariables false
set_option linter.unusedSimpArgs false
set_option maxRecDepth 20000
namespace Go.Proofs
open Go.Rt Go.Rt.Sh
attribute [local irreducible] WL WC Con Yd At Ats Sl Agree DW
theorem Try_I_fb2 (x0 : Int) (w : World) : (Instr.buildSlice 30 1 [(0, .int .i64 x0)].toArray).run Try.prog w = .ok (.slice (some ⟨w.heap.size, 0, none⟩) 1 1) (w.alloc (Go.Rt.blk 3 [.int .i64 x0])) := by kernel_rfl
theorem moreP_1 {m : Market} {r : Int} (h : enterE m m.rooms.length [r] ≠ 0) : moreP m r = (0, enterE m m.rooms.length [r]) := by unfold moreP; rw [if_pos h]
theorem moreP_2 {m : Market} {r : Int} {n : Nat} (h : enterE m m.rooms.length [r] = 0) (h2 : moreTo m r.toNat 0 61 = some n) : moreP m r = ((n : Int), 0) := by unfold moreP; rw [if_neg (by simp [h]), h2]
theorem moreP_3 {m : Market} {r : Int} (h : enterE m m.rooms.length [r] = 0) (h2 : moreTo m r.toNat 0 61 = none) : moreP m r = (0, 9) := by unfold moreP; rw [if_neg (by simp [h]), h2]
theorem more_here {m : Market} {r i k : Nat} (hk : k = 61 - i) (hi : i < 61) (h : servedS m (moreX m r i) (1 <<< m.shops.length - 1) = true) : moreTo m r i k = some i := by
  obtain ⟨q, rfl⟩ : ∃ q, k = q + 1 := ⟨k - 1, by omega⟩
  exact moreTo_yes h
theorem more_on {m : Market} {r i : Nat} (hi : i < 61) (h : servedS m (moreX m r i) (1 <<< m.shops.length - 1) = false) : moreTo m r i (61 - i) = moreTo m r (i + 1) (61 - (i + 1)) := by
  rw [show 61 - i = (61 - (i + 1)) + 1 by omega]; exact moreTo_no h
theorem more_end {m : Market} {r i : Nat} (hi : 61 ≤ i) : moreTo m r i (61 - i) = none := by rw [show 61 - i = 0 by omega]; rfl
theorem c30 {w0 w : World} {F : List (Nat × Obj)} (m : Market) (p : At3) (hm : MIn w0 F m p) (r : Int) (hs : St w0 w F) :
  Con Try.prog 30 [.agg (m.cells p).toArray, .int .i64 r] w fun v w' => v = .tuple #[.int .i64 (moreP m r).1, .int .i64 (moreP m r).2] ∧ St w0 w' F := by
  refine con_of_wc (n := 45) Try.func30 rfl rfl (Nat.le_of_ble_eq_true rfl) ?_
  have hlr := hm.lr
  refine w_seq (fun K2 hK1 => ?_)
  refine w_region ?_
  refine w_box (v := .agg #[.slice _ _ _, .slice _ _ _, .slice _ _ _]) (cs := [_, _, _]) want_none rfl rfl rfl hs (fun b3 w4 hs5 => ?_)
  refine w_pure want_none (y_assign (v := _) rfl rfl) rfl ?_
  refine w_pure want_none (y_assign (v := _) rfl rfl) rfl ?_
  refine w_nil ?_
  refine q_then (hK1 _ _ ?_)
  refine w_seq (fun K7 hK6 => ?_)
  refine w_region ?_
  refine w_pure want_none (y_loadN (vs := [_, _, _]) Try.isAgg26 Try.sizeOf26 hs5 rfl rfl (ats_own (i := 0) (vs := [_, _, _]) rfl rfl)) rfl ?_
  refine w_pure want_none (y_fieldAddr (o := 0) (i := 0) Try.underlying26 rfl Try.sizeOf22 rfl rfl rfl) rfl ?_
  refine w_pure want_none (y_load1 Try.isAgg22 hs5 rfl rfl (ats_own (i := 0) (vs := [_]) rfl rfl)) rfl ?_
  refine w_pure want_none (y_lenS Try.underlying22 rfl rfl) rfl ?_
  refine w_pure want_none (y_move (v := .int _ _) rfl rfl) rfl ?_
  refine w_bslice (ps := [(0, _)]) (pv := [(0, .int _ _)]) (cs := [_]) want_none rfl rfl (fun w => Try_I_fb2 _ w) hs5 (fun b8 w9 hs10 => ?_)
  refine w_call want_none Try.call64 rfl rfl rfl rfl (c64 m p hm.cons.cons _ (by omega) (by omega) _ _ [r] (by simp) (sl_own (i := 0) (rows := [[_]]) rfl (by simp) rfl) hs10) ?_
  rintro _ w12 (⟨hee, rfl, hs13⟩ | ⟨hee, mb, mm, M, rfl, hM, hs13⟩)
  ·
   refine w_pure want_none (y_move (v := .tuple _) rfl rfl) rfl ?_
   refine w_pure want_none (y_extract (v := .pointer _) rfl rfl rfl) rfl ?_
   refine w_pure want_none (y_extract (v := .int _ _) rfl rfl rfl) rfl ?_
   refine w_pure want_none (y_assign (v := .pointer _) rfl rfl) rfl ?_
   refine w_pure want_none (y_assign (v := .int _ _) rfl rfl) rfl ?_
   refine w_nil ?_
   refine q_then (hK6 _ _ ?_)
   refine w_seq (fun K15 hK14 => ?_)
   refine w_seq (fun K17 hK16 => ?_)
   refine w_region ?_
   refine w_pure want_none (y_move (v := .int _ _) rfl rfl) rfl ?_
   refine w_pure want_none (y_neq rfl rfl rfl rfl) rfl ?_
   refine w_nil ?_
   refine q_then (hK16 _ _ ?_)
   refine w_cond rfl rfl (fun h18 => ?_) (fun h18 => ?_)
   ·
    try simp only [Bool.not_eq_true', Bool.not_eq_false', decide_eq_true_eq, decide_eq_false_iff_not, Int.not_lt, Int.not_le] at h18
    refine w_seq (fun K20 hK19 => ?_)
    refine w_region ?_
    refine w_pure want_none (y_move (v := .int _ _) rfl rfl) rfl ?_
    refine w_pure want_none (y_assign (v := _) rfl rfl) rfl ?_
    refine w_pure want_none (y_assign (v := .int _ _) rfl rfl) rfl ?_
    refine w_nil ?_
    refine q_then (hK19 _ _ ?_)
    refine w_ret ?_
    refine q_then_ret ?_
    refine q_ret (l := [.tmp 4, .tmp 5]) (vs := [_, _]) rfl ⟨⟨rfl, show _ = (.int _ _ : Value) from rfl⟩, ⟨rfl, show _ = (.int _ _ : Value) from rfl⟩, trivial⟩ ?_
    exact ⟨by rw [moreP_1 hee]; rfl, hs13.tail.tail⟩
   ·
    exfalso
    try simp only [Bool.not_eq_true', Bool.not_eq_false', decide_eq_true_eq, decide_eq_false_iff_not, Int.not_lt, Int.not_le] at h18
    first | exact hee h18 | exact h18 hee
  ·
   replace hs13 := (show St _ _ (M ++ (_ :: _ :: _ :: F)) from hs13)
   have hk : MK w0 ((mb, blk 122 [.slice p.ar m.rooms.length p.cr, .slice p.az m.shops.length p.cs, .slice p.at_ m.trains.length p.ct, .map (some mm)]) :: (b8, blk 3 [.int .i64 r]) :: (b3, blk 26 (m.cells p)) :: F) m p mb mm := ⟨hm.cons.cons.cons, ats_own (i := 0) (vs := [_, _, _, _]) rfl rfl, check_ok (enter_chk hee)⟩
   have hlr := hk.ok.lr
   have hls := hk.ok.ls
   have hlt := hk.ok.lt
   have hbx : Ats w0 ((b3, blk 26 (m.cells p)) :: F) b3 0 (m.cells p) := ats_own (i := 0) rfl rfl
   refine w_pure want_none (y_move (v := .tuple _) rfl rfl) rfl ?_
   refine w_pure want_none (y_extract (v := .pointer _) rfl rfl rfl) rfl ?_
   refine w_pure want_none (y_extract (v := .int _ _) rfl rfl rfl) rfl ?_
   refine w_pure want_none (y_assign (v := .pointer _) rfl rfl) rfl ?_
   refine w_pure want_none (y_assign (v := .int _ _) rfl rfl) rfl ?_
   refine w_nil ?_
   refine q_then (hK6 _ _ ?_)
   refine w_seq (fun K22 hK21 => ?_)
   refine w_seq (fun K24 hK23 => ?_)
   refine w_region ?_
   refine w_pure want_none (y_move (v := .int _ _) rfl rfl) rfl ?_
   refine w_pure want_none (y_neq rfl rfl rfl rfl) rfl ?_
   refine w_nil ?_
   refine q_then (hK23 _ _ ?_)
   refine w_condF rfl rfl ?_
   refine w_skip ?_
   refine q_then (hK21 _ _ ?_)
   refine w_seq (fun K26 hK25 => ?_)
   refine w_region ?_
   refine w_pure want_none (y_move (v := .pointer _) rfl rfl) rfl ?_
   refine w_call want_none Try.call68 rfl rfl rfl rfl (c68 m p mb mm hk.app _ hs13) ?_
   rintro _ w28 ⟨rfl, hs29⟩
   refine w_alloc (cs := iv [0, 0, 0, 0, 0, 0, 0, 0]) want_none Try.zeroValue93 rfl hs29 (fun b30 w31 hs32 => ?_)
   refine w_storeI (i := 0) (l := _) want_none Try.sizeOf93 (by first | omega | rfl | (simp only [allX_len, moreX_len, List.length_map, List.length_set, List.length_append, List.length_take, List.length_drop, List.length_replicate, List.length_cons, List.length_nil] <;> omega)) rfl rfl rfl rfl rfl hs32 rfl (by first | omega | rfl | (simp only [allX_len, moreX_len, List.length_map, List.length_set, List.length_append, List.length_take, List.length_drop, List.length_replicate, List.length_cons, List.length_nil] <;> omega)) (fun w33 hs34 => ?_)
   refine w_nil ?_
   refine q_then (hK25 _ _ ?_)
   refine w_seq (fun K36 hK35 => ?_)
   refine w_seq (fun K38 hK37 => ?_)
   have hrr := (enterE_ok hee).2 r (.head _)
   have hsa := shl_all hls
   refine w_region ?_
   refine w_pure want_none (y_move (v := _) rfl rfl) rfl ?_
   refine w_nil ?_
   refine q_then (hK37 _ _ ?_)
   refine w_block ?_
   refine w_loop [4, 5, 9, 25, 26, 27, 28, 29, 30, 31, 32, 33, 34, 35, 36, 37, 38, 39, 40, 41, 42, 43, 44] [25] (fun k vs w => ∃ (i : Nat) (Mq : List (Nat × Obj)), vs = [.int .i64 i] ∧ i ≤ 61 ∧ k = 61 - i ∧ Memo m mm Mq ∧ moreTo m r.toNat 0 61 = moreTo m r.toNat i (61 - i) ∧ St w0 w ((b30, blk 93 (iv (moreX m r.toNat i))) :: (Mq ++ ((mb, blk 122 [.slice p.ar m.rooms.length p.cr, .slice p.az m.shops.length p.cs, .slice p.at_ m.trains.length p.ct, .map (some mm)]) :: (b8, blk 3 [.int .i64 r]) :: (b3, blk 26 (m.cells p)) :: F)))) (61) ?_ ?_
   ·
    exact ⟨0, M, rfl, by omega, by omega, hM, rfl, by rw [moreX_zero]; exact hs34⟩
   ·
    intro k vs μ w41 hI K40 hN39
    obtain ⟨i, Mq, rfl, hia, rfl, hMq, hmo, hs⟩ := hI
    refine w_seq (fun K43 hK42 => ?_)
    refine w_region ?_
    refine w_pure want_none (y_lss rfl rfl rfl rfl) rfl ?_
    refine w_nil ?_
    refine q_then (hK42 _ _ ?_)
    refine w_seq (fun K45 hK44 => ?_)
    refine w_cond rfl rfl (fun h46 => ?_) (fun h46 => ?_)
    ·
     try simp only [Bool.not_eq_true', Bool.not_eq_false', decide_eq_true_eq, decide_eq_false_iff_not, Int.not_lt, Int.not_le] at h46
     refine w_skip ?_
     refine q_then (hK44 _ _ ?_)
     refine w_seq (fun K48 hK47 => ?_)
     refine w_block ?_
     refine w_seq (fun K50 hK49 => ?_)
     refine w_region ?_
     refine w_pure want_none (y_move (v := .int _ _) rfl rfl) rfl ?_
     refine w_pure want_none (y_assign (v := .int _ _) rfl rfl) rfl ?_
     refine w_nil ?_
     refine q_then (hK49 _ _ ?_)
     refine w_seq (fun K52 hK51 => ?_)
     refine w_seq (fun K54 hK53 => ?_)
     refine w_draw [7] [(0, 0), (1, 1), (2, 0), (3, 1), (4, 0), (5, 0), (6, 0), (7, 3)] Try_mo (by kernel_rfl) hs (fun w55 hs56 => ?_)
     refine d_any rfl want_none rfl (fun _ => (y_move (v := .pointer _) rfl rfl)) ?_
     refine d_take rfl want_none rfl hs56 (fun _ hq => (y_loadI (i := 0) Try.isAgg93 Try.sizeOf93 (by first | omega | rfl | (simp only [allX_len, moreX_len, List.length_map, List.length_set, List.length_append, List.length_take, List.length_drop, List.length_replicate, List.length_cons, List.length_nil] <;> omega)) hq rfl rfl rfl)) ?_
     refine d_any rfl want_none rfl (fun _ => (y_fieldAddr (o := 1) (i := 1) Try.underlying26 rfl Try.sizeOf23 rfl rfl rfl)) ?_
     refine d_take rfl want_none rfl hs56 (fun _ hq => (y_load1 Try.isAgg23 hq.tail.drop.tail.tail rfl rfl (show Ats _ _ _ _ [_] from Ats.part hbx 1 1))) ?_
     refine d_any rfl want_none rfl (fun _ => (y_lenS Try.underlying23 rfl rfl)) ?_
     refine d_any rfl want_none rfl (fun _ => (y_shl (x := 1) (y := _) rfl rfl rfl rfl rfl rfl (by first | omega | exact shr_lt (by omega)) (by first | omega | exact shr_lt (by omega)))) ?_
     refine d_any rfl want_none rfl (fun _ => (yd_cast (z' := ((1 <<< m.shops.length - 1 : Nat) : Int)) (by omega) (y_sub rfl rfl rfl rfl (by omega) (by omega)))) ?_
     refine d_late rfl ?_
     refine w_call want_none Try.call67 rfl rfl rfl rfl (c67 (X := (_ :: [])) m p mb mm hk _ (moreX_small hk.ok _ i (by omega)) _ hMq hs56) ?_
     rintro _ w58 ⟨rfl, M60, hM60, hs59⟩
     replace hs59 := (show St _ _ (_ :: M60 ++ (_ :: _ :: _ :: F)) from hs59)
     refine w_nil ?_
     refine qn ?_
     refine d_nil ?_
     refine q_then (hK53 _ _ ?_)
     refine w_cond rfl rfl (fun h62 => ?_) (fun h62 => ?_)
     ·
      try simp only [Bool.not_eq_true', Bool.not_eq_false', decide_eq_true_eq, decide_eq_false_iff_not, Int.not_lt, Int.not_le] at h62
      refine w_seq (fun K64 hK63 => ?_)
      refine w_region ?_
      refine w_pure want_none (y_move (v := .int _ _) rfl rfl) rfl ?_
      refine w_pure want_none (y_assign (v := .int _ _) rfl rfl) rfl ?_
      refine w_pure want_none (y_assign (v := _) rfl rfl) rfl ?_
      refine w_nil ?_
      refine q_then (hK63 _ _ ?_)
      refine w_ret ?_
      refine q_then_ret ?_
      refine q_blk_ret ?_
      refine q_then_ret ?_
      refine q_then_ret ?_
      refine q_blk_ret ?_
      refine q_then_ret ?_
      refine q_ret (l := [.tmp 4, .tmp 5]) (vs := [_, _]) rfl ⟨⟨rfl, show _ = (.int _ _ : Value) from rfl⟩, ⟨rfl, show _ = (.int _ _ : Value) from rfl⟩, trivial⟩ ?_
      first
        | exact ⟨by rw [moreP_2 hee (hmo.trans (more_here rfl (by omega) (by assumption)))]; rfl, hs59.tail.drop.tail.tail.tail⟩
        | exact ⟨by rw [moreP_3 hee (hmo.trans (more_end (by omega)))]; rfl, hs59.tail.drop.tail.tail.tail⟩
     ·
      try simp only [Bool.not_eq_true', Bool.not_eq_false', decide_eq_true_eq, decide_eq_false_iff_not, Int.not_lt, Int.not_le] at h62
      refine w_skip ?_
      refine q_then (hK51 _ _ ?_)
      have hgd := getD_in (by omega) (by omega) (moreX_small hk.ok r.toNat i (by omega)).2 r.toNat
      refine w_region ?_
      refine w_pure want_none (y_move (v := .int _ _) rfl rfl) rfl ?_
      refine w_pure want_none (y_fieldAddr (o := 0) (i := 0) Try.underlying93 rfl Try.sizeOf90 rfl rfl rfl) rfl ?_
      refine w_pure want_none (y_indexA Try.underlying90 Try.sizeOf3 rfl rfl rfl rfl (i := r.toNat) (by first | rfl | omega) (by omega)) rfl ?_
      refine w_pure want_none (y_load1 Try.isAgg3 hs59 rfl rfl (ats_ints (i := 0) (j := r.toNat) rfl (by first | omega | rfl | (simp only [allX_len, moreX_len, List.length_map, List.length_set, List.length_append, List.length_take, List.length_drop, List.length_replicate, List.length_cons, List.length_nil] <;> omega)))) rfl ?_
      refine w_pure want_none (y_add rfl rfl rfl rfl (by omega) (by omega)) rfl ?_
      refine w_pure want_none (y_fieldAddr (o := 0) (i := 0) Try.underlying93 rfl Try.sizeOf90 rfl rfl rfl) rfl ?_
      refine w_pure want_none (y_indexA Try.underlying90 Try.sizeOf3 rfl rfl rfl rfl (i := r.toNat) (by first | rfl | omega) (by omega)) rfl ?_
      refine w_storeAtI (i := 0) (j := r.toNat) want_none Try.sizeOf3 rfl rfl rfl rfl hs59 rfl (by first | omega | rfl | (simp only [allX_len, moreX_len, List.length_map, List.length_set, List.length_append, List.length_take, List.length_drop, List.length_replicate, List.length_cons, List.length_nil] <;> omega)) (fun w65 hs66 => ?_)
      refine w_nil ?_
      refine q_blk_normal ?_
      refine q_then (hK47 _ _ ?_)
      refine w_region ?_
      refine w_pure want_none (y_add rfl rfl rfl rfl (by omega) (by omega)) rfl ?_
      refine w_pure want_none (y_move (v := .int _ _) rfl rfl) rfl ?_
      refine w_nil ?_
      refine q_then (hN39 _ _ (Nx.intro (61 - (i + 1)) (by omega) (by repeat (first | exact agree_mix | refine agree_upd rfl ?_ | refine agree_updL rfl ?_ _ | refine agree_mixin rfl ?_)) ?_))
      exact ⟨i + 1, M60, rfl, by omega, rfl, hM60, hmo.trans (more_on (by omega) (by assumption)), by rw [← moreX_succ (by omega)]; exact hs66⟩
    ·
     try simp only [Bool.not_eq_true', Bool.not_eq_false', decide_eq_true_eq, decide_eq_false_iff_not, Int.not_lt, Int.not_le] at h46
     refine w_exit ?_
     refine q_then_exit ?_
     refine q_then_exit ?_
     refine q_blk_this ?_
     refine q_then (hK35 _ _ ?_)
     refine w_seq (fun K68 hK67 => ?_)
     refine w_region ?_
     refine w_pure want_none (y_assign (v := _) rfl rfl) rfl ?_
     refine w_pure want_none (y_assign (v := _) rfl rfl) rfl ?_
     refine w_nil ?_
     refine q_then (hK67 _ _ ?_)
     refine w_ret ?_
     refine q_ret (l := [.tmp 4, .tmp 5]) (vs := [_, _]) rfl ⟨⟨rfl, show _ = (.int _ _ : Value) from rfl⟩, ⟨rfl, show _ = (.int _ _ : Value) from rfl⟩, trivial⟩ ?_
     first
       | exact ⟨by rw [moreP_2 hee (hmo.trans (more_here rfl (by omega) (by assumption)))]; rfl, hs.tail.drop.tail.tail.tail⟩
       | exact ⟨by rw [moreP_3 hee (hmo.trans (more_end (by omega)))]; rfl, hs.tail.drop.tail.tail.tail⟩

end Go.Proofs
/- Plain words of the shop layer: a train that is late. No conditions. -/
set_option linter.unusedSimpArgs false
set_option linter.unusedVariables false
namespace Go.Rt.Sh
def late (t : Train) : Train := { t with days := t.days + 1 }
def setLate : List Train → Nat → List Train
  | [], _ => []
  | t :: l, 0 => late t :: l
  | t :: l, i + 1 => t :: setLate l i
theorem setLate_len : ∀ (l : List Train) (i : Nat), (setLate l i).length = l.length
  | [], _ => rfl
  | _ :: _, 0 => rfl
  | _ :: l, i + 1 => by simp [setLate, setLate_len l i]
def lateM (m : Market) (i : Nat) : Market := { m with trains := setLate m.trains i }
theorem trows_len (l : List Train) : (trows l).flatten.length = l.length * 4 := by
  induction l with
  | nil => rfl
  | cons f l ih => simp only [trows, List.map_cons, List.flatten_cons, List.length_append, List.length_cons] at ih ⊢; rw [ih]; simp [Train.cells]; omega
theorem trows_late : ∀ (l : List Train) (i : Nat) (hi : i < l.length), (trows l).flatten.set (i * 4 + 2) (.int .i64 (l[i].days + 1)) = (trows (setLate l i)).flatten
  | [], _, h => by simp at h
  | t :: l, 0, _ => by simp [trows, setLate, late, Train.cells]
  | t :: l, i + 1, h => by
    have ih := trows_late l i (by simpa using h)
    simp only [trows, List.map_cons, List.flatten_cons, setLate, List.getElem_cons_succ] at ih ⊢
    rw [show (i + 1) * 4 + 2 = t.cells.length + (i * 4 + 2) by simp [Train.cells]; omega, List.set_append_right _ _ (by omega), show t.cells.length + (i * 4 + 2) - t.cells.length = i * 4 + 2 by omega, ih]
theorem cells_late {cs : List Value} {l : List Train} {n i : Nat} (hn : l.length = n) (h : cs.take (n * 4) = (trows l).flatten) (hi : i < l.length) : (cs.set (i * 4 + 2) (.int .i64 (l[i].days + 1))).take (n * 4) = (trows (setLate l i)).flatten := by
  rw [List.take_set, h, trows_late l i hi]
theorem mem_setLate {l : List Train} {i : Nat} {t : Train} (h : t ∈ setLate l i) : t ∈ l ∨ ∃ t' ∈ l, t = late t' := by
  induction l generalizing i with
  | nil => simp [setLate] at h
  | cons x l ih =>
    cases i with
    | zero =>
      simp only [setLate, List.mem_cons] at h
      rcases h with rfl | h
      · exact .inr ⟨x, .head _, rfl⟩
      · exact .inl (.tail _ h)
    | succ i =>
      simp only [setLate, List.mem_cons] at h
      rcases h with rfl | h
      · exact .inl (.head _)
      · rcases ih h with h | ⟨t', h1, h2⟩
        · exact .inl (.tail _ h)
        · exact .inr ⟨t', .tail _ h1, h2⟩
theorem check_days {m : Market} (h : (check m).2.2 = 0) : ∀ t ∈ m.trains, t.days ≤ 5 := by
  obtain ⟨_, _, h3⟩ := check_parts h
  intro t ht
  obtain ⟨k, hk, rfl⟩ := List.getElem_of_mem ht
  have := trainE_zero ((failE_zero h3).2 k hk)
  omega
theorem lateM_ok {m : Market} (h : (check m).2.2 = 0) (i : Nat) : (lateM m i).Ok := by
  have hok := check_ok h
  have hd := check_days h
  refine ⟨hok.lr, hok.ls, by show (setLate _ _).length ≤ 6; rw [setLate_len]; exact hok.lt, hok.room, hok.shop, fun t ht => ?_⟩
  rcases mem_setLate ht with h | ⟨t', h1, rfl⟩
  · exact hok.train t h
  · have h2 := hok.train t' h1
    have h3 := hd t' h1
    show 0 ≤ t'.room ∧ t'.room < m.rooms.length ∧ 0 ≤ t'.shop ∧ t'.shop < m.shops.length ∧ 0 ≤ t'.days + 1 ∧ t'.days + 1 ≤ 6 ∧ 1 ≤ t'.cap ∧ t'.cap ≤ 60
    omega
theorem lateM_cells (m : Market) (i : Nat) (p : At3) : (lateM m i).cells p = [.slice p.ar m.rooms.length p.cr, .slice p.az m.shops.length p.cs, .slice p.at_ m.trains.length p.ct] := by simp [Market.cells, lateM, setLate_len]
theorem worstTo_bound {n sub : Nat} {lk : List Int} (h : ∀ b < 16, lk.getD b 0 ≤ 100000) : ∀ k ≤ 16, (worstTo n sub lk k).2 ≤ 100000
  | 0, _ => by simp [worstTo]
  | k + 1, hk => by
    have ih := worstTo_bound (n := n) (sub := sub) h k (by omega)
    simp only [worstTo, worstStep]
    split
    · exact ih
    · split
      · exact h k (by omega)
      · exact ih
theorem worst_bound {m : Market} (hok : m.Ok) {x : List Int} (hx : Small x) (sub : Nat) : 0 ≤ (worst m x sub).2 ∧ (worst m x sub).2 ≤ 100000 :=
  ⟨worstTo_pos _ _ _ _, worstTo_bound (fun b hb => by rw [lacksV_get hb]; exact (lackB_bound hok hx b).2) 16 (Nat.le_refl _)⟩
def lateP (m : Market) (r : Int) : Int × Int :=
  if enterE m m.trains.length [r] ≠ 0 then (0, enterE m m.trains.length [r]) else
    (max (0 : Int) ((worst (lateM m r.toNat) (allX m false) (1 <<< m.shops.length - 1)).2 - (worst m (allX m false) (1 <<< m.shops.length - 1)).2), 0)
theorem lateP_1 {m : Market} {r : Int} (h : enterE m m.trains.length [r] ≠ 0) : lateP m r = (0, enterE m m.trains.length [r]) := by unfold lateP; rw [if_pos h]
theorem lateP_2 {m : Market} {r : Int} (h : enterE m m.trains.length [r] = 0) : lateP m r = (max (0 : Int) ((worst (lateM m r.toNat) (allX m false) (1 <<< m.shops.length - 1)).2 - (worst m (allX m false) (1 <<< m.shops.length - 1)).2), 0) := by unfold lateP; rw [if_neg (by simp [h])]
end Go.Rt.Sh
/- Walks of this seat, printed by gen.py over the engine: what each function returns, in whatever world. No conditions but those of each contract. -/
set_option linter.unusedVariables false
set_option linter.unusedSimpArgs false
set_option maxRecDepth 20000
namespace Go.Proofs
open Go.Rt Go.Rt.Sh
attribute [local irreducible] WL WC Con Yd At Ats Sl Agree DW
theorem Try_J_fb2  (w : World) : (Instr.buildSlice 24 0 [].toArray).run Try.prog w = .ok (.slice (some ⟨w.heap.size, 0, none⟩) 0 0) (w.alloc (Go.Rt.blk 63 [])) := by kernel_rfl
theorem Try_info63 : Try.prog.info? 63 = some Try.t63 := by kernel_rfl
theorem Try_J_fb4 (x0 : Int) (w : World) : (Instr.buildSlice 30 1 [(0, .int .i64 x0)].toArray).run Try.prog w = .ok (.slice (some ⟨w.heap.size, 0, none⟩) 1 1) (w.alloc (Go.Rt.blk 3 [.int .i64 x0])) := by kernel_rfl
theorem trows_one (l : List Train) : ∀ row ∈ trows l, ∀ u ∈ row, u.oneCell' = true := by
  intro row hr u hu
  obtain ⟨f, _, rfl⟩ := List.mem_map.1 hr
  simp only [Train.cells, List.mem_cons, List.not_mem_nil, or_false] at hu
  rcases hu with rfl | rfl | rfl | rfl <;> rfl
theorem own_some {t : TypeId} {sz n : Nat} {v : Value} {xs : List Value} {B : List (Nat × Obj)} (h : Rt.Own v t sz n xs B) (hn : 0 < n) : ∃ b cap cs, v = .slice (some ⟨b, 0, none⟩) n cap ∧ B = [(b, blk t cs)] ∧ n ≤ cap ∧ cap ≤ maxLen ∧ cs.length = cap * sz ∧ cs.take (n * sz) = xs := by
  rcases h.2 with ⟨_, h0, _⟩ | ⟨b, cap, cs, h1, h2, h3, h4, h5, h6⟩
  · omega
  · exact ⟨b, cap, cs, h1, h2, h3, h4, h5, h6⟩
theorem sl_own_trows {w0 : World} {L : List (Nat × Obj)} {i b n : Nat} {t : TypeId} {cs : List Value} {l : List Train} (hi : L[i]? = some (b, blk t cs)) (hn : l.length = n) (h : cs.take (n * 4) = (trows l).flatten) : Sl w0 L (some ⟨b, 0, none⟩) 4 (trows l) :=
  sl_own hi (by intro row hr; obtain ⟨f, _, rfl⟩ := List.mem_map.1 hr; rfl) (by simpa [trows, hn] using h)
theorem late_perm {w0 w : World} {B M F : List (Nat × Obj)} {x y z : Nat × Obj} (h : St w0 w (B ++ (M ++ (x :: y :: z :: F)))) : St w0 w (z :: x :: F) := by
  have h1 : St w0 w (x :: y :: z :: F) := h.drop.drop
  exact ((h1.perm (perm_mid [x] [y] (z :: F))).tail).perm (perm_mid [x] [z] F)
theorem c76 {w0 w : World} {F : List (Nat × Obj)} (a : Option Addr) (c : Nat) (l : List Train) (hl : l.length ≤ 1000000) (hc : l.length ≤ c) (ha : Sl w0 F a 4 (trows l))  (hs : St w0 w F) :
  Con Try.prog 76 [.slice a l.length c] w fun v w' => ∃ B', Rt.Own v 63 4 l.length (trows l).flatten B' ∧ St w0 w' (B' ++ F) := by
  refine con_of_wc (n := 8) Try.func76 rfl rfl (Nat.le_of_ble_eq_true rfl) ?_
  refine w_seq (fun K2 hK1 => ?_)
  refine w_region ?_
  refine w_pure want_none (y_assign (v := _) rfl rfl) rfl ?_
  refine w_nil ?_
  refine q_then (hK1 _ _ ?_)
  refine w_seq (fun K4 hK3 => ?_)
  refine w_seq (fun K6 hK5 => ?_)
  refine w_region ?_
  refine w_pure want_none (y_move (v := .slice _ _ _) rfl rfl) rfl ?_
  refine w_pure want_none (y_sliceNil Try.underlying24 rfl rfl rfl rfl) rfl ?_
  refine w_nil ?_
  refine q_then (hK5 _ _ ?_)
  refine w_cond rfl rfl (fun h7 => ?_) (fun h7 => ?_)
  ·
   try simp only [Bool.not_eq_true', Bool.not_eq_false', decide_eq_true_eq, decide_eq_false_iff_not, Int.not_lt, Int.not_le] at h7
   refine w_seq (fun K9 hK8 => ?_)
   refine w_region ?_
   refine w_pure want_none (y_assign (v := _) rfl rfl) rfl ?_
   refine w_nil ?_
   refine q_then (hK8 _ _ ?_)
   refine w_ret ?_
   refine q_then_ret ?_
   refine q_ret (l := [.tmp 2]) (vs := [_]) rfl ⟨⟨rfl, show _ = (.slice _ _ _ : Value) from rfl⟩, trivial⟩ ?_
   have hr := sl_none (L := F) (w0 := w0) (by have : a = none := (by simpa using ‹a.isNone = true›); subst this; exact ha)
   have hl0 : l = [] := by simpa [trows] using hr
   subst hl0
   exact ⟨[], own_nil 63 4, hs⟩
  ·
   try simp only [Bool.not_eq_true', Bool.not_eq_false', decide_eq_true_eq, decide_eq_false_iff_not, Int.not_lt, Int.not_le] at h7
   refine w_skip ?_
   refine q_then (hK3 _ _ ?_)
   refine w_seq (fun K11 hK10 => ?_)
   refine w_region ?_
   refine w_bslice (ps := []) (pv := []) (cs := []) want_none rfl rfl (fun w => Try_J_fb2  w) hs (fun b12 w13 hs14 => ?_)
   refine w_pure want_none (y_move (v := .slice _ _ _) rfl rfl) rfl ?_
   refine w_append (X := ([])) (B := [_]) (rows := trows l) (sz := 4) (bytes := 32) want_none Try.underlying24 Try_info63 rfl rfl rfl rfl rfl rfl rfl rfl rfl hs14 own_made ha.cons (by simp [trows]) (fun h => by subst h; simp at h7) (trows_one l) (by simp only [maxLen]; omega) (by omega) (fun v15 w16 B17 ho18 hs19 => ?_)
   replace hs19 := (show St _ _ (B17 ++ (F)) from hs19)
   refine w_pure want_none (y_assign (v := v15) rfl rfl) rfl ?_
   refine w_nil ?_
   refine q_then (hK10 _ _ ?_)
   refine w_ret ?_
   refine q_ret (l := [.tmp 2]) (vs := [_]) rfl ⟨⟨rfl, show _ = (v15 : Value) from rfl⟩, trivial⟩ ?_
   rw [Nat.zero_add, List.nil_append] at ho18
   exact ⟨_, ho18, hs19⟩

theorem look_late {w0 w : World} {F : List (Nat × Obj)} (m : Market) (i : Nat) (p : At3) (hs : St w0 w F) :
    Con Try.prog 77 [.agg #[.slice p.ar m.rooms.length p.cr, .slice p.az m.shops.length p.cs, .slice p.at_ m.trains.length p.ct]] w fun v w' => ∃ mb mm M, v = .pointer (some ⟨mb, 0, none⟩) ∧ Memo (lateM m i) mm M ∧ St w0 w' (M ++ ((mb, blk 122 [.slice p.ar m.rooms.length p.cr, .slice p.az m.shops.length p.cs, .slice p.at_ (setLate m.trains i).length p.ct, .map (some mm)]) :: F)) := by
  have h := c77 (lateM m i) p hs
  rw [lateM_cells] at h
  exact h
theorem c32 {w0 w : World} {F : List (Nat × Obj)} (m : Market) (p : At3) (hm : MIn w0 F m p) (r : Int) (hs : St w0 w F) :
  Con Try.prog 32 [.agg (m.cells p).toArray, .int .i64 r] w fun v w' => v = .tuple #[.int .i64 (lateP m r).1, .int .i64 (lateP m r).2] ∧ St w0 w' F := by
  refine con_of_wc (n := 65) Try.func32 rfl rfl (Nat.le_of_ble_eq_true rfl) ?_
  have hlt := hm.lt
  refine w_seq (fun K2 hK1 => ?_)
  refine w_region ?_
  refine w_box (v := .agg #[.slice _ _ _, .slice _ _ _, .slice _ _ _]) (cs := [_, _, _]) want_none rfl rfl rfl hs (fun b3 w4 hs5 => ?_)
  refine w_pure want_none (y_assign (v := _) rfl rfl) rfl ?_
  refine w_pure want_none (y_assign (v := _) rfl rfl) rfl ?_
  refine w_nil ?_
  refine q_then (hK1 _ _ ?_)
  refine w_seq (fun K7 hK6 => ?_)
  refine w_region ?_
  refine w_pure want_none (y_loadN (vs := [_, _, _]) Try.isAgg26 Try.sizeOf26 hs5 rfl rfl (ats_own (i := 0) (vs := [_, _, _]) rfl rfl)) rfl ?_
  refine w_pure want_none (y_fieldAddr (o := 2) (i := 2) Try.underlying26 rfl Try.sizeOf24 rfl rfl rfl) rfl ?_
  refine w_pure want_none (y_load1 Try.isAgg24 hs5 rfl rfl (ats_own (i := 0) (vs := [_]) rfl rfl)) rfl ?_
  refine w_pure want_none (y_lenS Try.underlying24 rfl rfl) rfl ?_
  refine w_pure want_none (y_move (v := .int _ _) rfl rfl) rfl ?_
  refine w_bslice (ps := [(0, _)]) (pv := [(0, .int _ _)]) (cs := [_]) want_none rfl rfl (fun w => Try_J_fb4 _ w) hs5 (fun b8 w9 hs10 => ?_)
  refine w_call want_none Try.call64 rfl rfl rfl rfl (c64 m p hm.cons.cons _ (by omega) (by omega) _ _ [r] (by simp) (sl_own (i := 0) (rows := [[_]]) rfl (by simp) rfl) hs10) ?_
  rintro _ w12 (⟨hee, rfl, hs13⟩ | ⟨hee, mb, mm, M, rfl, hM, hs13⟩)
  ·
   refine w_pure want_none (y_move (v := .tuple _) rfl rfl) rfl ?_
   refine w_pure want_none (y_extract (v := .pointer _) rfl rfl rfl) rfl ?_
   refine w_pure want_none (y_extract (v := .int _ _) rfl rfl rfl) rfl ?_
   refine w_pure want_none (y_assign (v := .pointer _) rfl rfl) rfl ?_
   refine w_pure want_none (y_assign (v := .int _ _) rfl rfl) rfl ?_
   refine w_nil ?_
   refine q_then (hK6 _ _ ?_)
   refine w_seq (fun K15 hK14 => ?_)
   refine w_seq (fun K17 hK16 => ?_)
   refine w_region ?_
   refine w_pure want_none (y_move (v := .int _ _) rfl rfl) rfl ?_
   refine w_pure want_none (y_neq rfl rfl rfl rfl) rfl ?_
   refine w_nil ?_
   refine q_then (hK16 _ _ ?_)
   refine w_cond rfl rfl (fun h18 => ?_) (fun h18 => ?_)
   ·
    try simp only [Bool.not_eq_true', Bool.not_eq_false', decide_eq_true_eq, decide_eq_false_iff_not, Int.not_lt, Int.not_le] at h18
    refine w_seq (fun K20 hK19 => ?_)
    refine w_region ?_
    refine w_pure want_none (y_move (v := .int _ _) rfl rfl) rfl ?_
    refine w_pure want_none (y_assign (v := _) rfl rfl) rfl ?_
    refine w_pure want_none (y_assign (v := .int _ _) rfl rfl) rfl ?_
    refine w_nil ?_
    refine q_then (hK19 _ _ ?_)
    refine w_ret ?_
    refine q_then_ret ?_
    refine q_ret (l := [.tmp 4, .tmp 5]) (vs := [_, _]) rfl ⟨⟨rfl, show _ = (.int _ _ : Value) from rfl⟩, ⟨rfl, show _ = (.int _ _ : Value) from rfl⟩, trivial⟩ ?_
    exact ⟨by rw [lateP_1 hee]; rfl, hs13.tail.tail⟩
   ·
    exfalso
    try simp only [Bool.not_eq_true', Bool.not_eq_false', decide_eq_true_eq, decide_eq_false_iff_not, Int.not_lt, Int.not_le] at h18
    first | exact hee h18 | exact h18 hee
  ·
   replace hs13 := (show St _ _ (M ++ (_ :: _ :: _ :: F)) from hs13)
   have hk : MK w0 ((mb, blk 122 [.slice p.ar m.rooms.length p.cr, .slice p.az m.shops.length p.cs, .slice p.at_ m.trains.length p.ct, .map (some mm)]) :: (b8, blk 3 [.int .i64 r]) :: (b3, blk 26 (m.cells p)) :: F) m p mb mm := ⟨hm.cons.cons.cons, ats_own (i := 0) (vs := [_, _, _, _]) rfl rfl, check_ok (enter_chk hee)⟩
   have hlr := hk.ok.lr
   have hls := hk.ok.ls
   have hlt := hk.ok.lt
   have hbx : Ats w0 ((b3, blk 26 (m.cells p)) :: F) b3 0 (m.cells p) := ats_own (i := 0) rfl rfl
   refine w_pure want_none (y_move (v := .tuple _) rfl rfl) rfl ?_
   refine w_pure want_none (y_extract (v := .pointer _) rfl rfl rfl) rfl ?_
   refine w_pure want_none (y_extract (v := .int _ _) rfl rfl rfl) rfl ?_
   refine w_pure want_none (y_assign (v := .pointer _) rfl rfl) rfl ?_
   refine w_pure want_none (y_assign (v := .int _ _) rfl rfl) rfl ?_
   refine w_nil ?_
   refine q_then (hK6 _ _ ?_)
   refine w_seq (fun K22 hK21 => ?_)
   refine w_seq (fun K24 hK23 => ?_)
   refine w_region ?_
   refine w_pure want_none (y_move (v := .int _ _) rfl rfl) rfl ?_
   refine w_pure want_none (y_neq rfl rfl rfl rfl) rfl ?_
   refine w_nil ?_
   refine q_then (hK23 _ _ ?_)
   refine w_condF rfl rfl ?_
   refine w_skip ?_
   refine q_then (hK21 _ _ ?_)
   refine w_seq (fun K26 hK25 => ?_)
   have hsa := shl_all hls
   refine w_region ?_
   refine w_pure want_none (y_fieldAddr (o := 1) (i := 1) Try.underlying26 rfl Try.sizeOf23 rfl rfl rfl) rfl ?_
   refine w_pure want_none (y_load1 Try.isAgg23 hs13.drop.tail.tail rfl rfl (show Ats _ _ _ _ [_] from Ats.part hbx 1 1)) rfl ?_
   refine w_pure want_none (y_lenS Try.underlying23 rfl rfl) rfl ?_
   refine w_pure want_none (y_shl (x := 1) (y := _) rfl rfl rfl rfl rfl rfl (by first | omega | exact shr_lt (by omega)) (by first | omega | exact shr_lt (by omega))) rfl ?_
   refine w_pure want_none (yd_cast (z' := ((1 <<< m.shops.length - 1 : Nat) : Int)) (by omega) (y_sub rfl rfl rfl rfl (by omega) (by omega))) rfl ?_
   refine w_pure want_none (y_assign (v := .int _ _) rfl rfl) rfl ?_
   refine w_nil ?_
   refine q_then (hK25 _ _ ?_)
   refine w_seq (fun K28 hK27 => ?_)
   refine w_region ?_
   refine w_pure want_none (y_move (v := .pointer _) rfl rfl) rfl ?_
   refine w_pure want_none (y_move (v := .pointer _) rfl rfl) rfl ?_
   refine w_call want_none Try.call68 rfl rfl rfl rfl (c68 m p mb mm hk.app _ hs13) ?_
   rintro _ w30 ⟨rfl, hs31⟩
   refine w_pure want_none (y_move (v := .int _ _) rfl rfl) rfl ?_
   refine w_call want_none Try.call70 rfl rfl rfl rfl (c70 (X := []) m p mb mm hk _ (allX_small hk.ok _) _ hM hs31) ?_
   rintro _ w33 ⟨B36, al_B36, cl_B36, M35, rfl, hsl_B36, hM35, hs34⟩
   replace hs34 := (show St _ _ (B36 ++ (M35 ++ (_ :: _ :: _ :: F))) from hs34)
   refine w_pure want_none (y_move (v := .tuple _) rfl rfl) rfl ?_
   refine w_pure want_none (y_extract (v := .slice _ _ _) rfl rfl rfl) rfl ?_
   refine w_pure want_none (y_extract (v := .int _ _) rfl rfl rfl) rfl ?_
   refine w_pure want_none (y_assign (v := .slice _ _ _) rfl rfl) rfl ?_
   refine w_pure want_none (y_assign (v := .int _ _) rfl rfl) rfl ?_
   refine w_nil ?_
   refine q_then (hK27 _ _ ?_)
   refine w_seq (fun K38 hK37 => ?_)
   have hs39 := late_perm (show St _ _ (B36 ++ (M35 ++ (_ :: _ :: _ :: F))) from hs34)
   have hrr := (enterE_ok hee).2 r (.head _)
   have hrt : r.toNat < m.trains.length := by omega
   have htd := check_days (enter_chk hee) _ (List.getElem_mem hrt)
   have htr := hk.ok.train _ (List.getElem_mem hrt)
   have hwb1 := worst_bound hk.ok (allX_small hk.ok false) (1 <<< m.shops.length - 1)
   have hm1 : MIn w0 ((mb, blk 122 [.slice p.ar m.rooms.length p.cr, .slice p.az m.shops.length p.cs, .slice p.at_ m.trains.length p.ct, .map (some mm)]) :: F) m p := hm.cons
   have hkm : MK w0 ((mb, blk 122 [.slice p.ar m.rooms.length p.cr, .slice p.az m.shops.length p.cs, .slice p.at_ m.trains.length p.ct, .map (some mm)]) :: F) m p mb mm := ⟨hm.cons, ats_own (i := 0) (vs := [_, _, _, _]) rfl rfl, hk.ok⟩
   refine w_region ?_
   refine w_pure want_none (y_fieldAddr (o := 2) (i := 2) Try.underlying26 rfl Try.sizeOf24 rfl rfl rfl) rfl ?_
   refine w_pure want_none (y_load1 Try.isAgg24 hs39 rfl rfl (ats_own (i := 0) (vs := [_]) rfl rfl)) rfl ?_
   refine w_call want_none Try.call76 rfl rfl rfl rfl (c76 _ _ m.trains (by omega) hm.ct hm1.t.cons hs39) ?_
   rintro _ w41 ⟨BC, hown, hs42⟩
   obtain ⟨bc, cap, cs0, rfl, rfl, hcap, hcapm, hcl0, hcs0⟩ := own_some hown (by omega)
   replace hs42 := (show St _ _ (_ :: _ :: _ :: F) from hs42)
   refine w_pure want_none (y_fieldAddr (o := 2) (i := 2) Try.underlying26 rfl Try.sizeOf24 rfl rfl rfl) rfl ?_
   refine w_store (i := 1) (v := .slice _ _ _) (vs := [_]) want_none Try.sizeOf24 rfl rfl rfl rfl rfl (by simp [Value.oneCell']) hs42 rfl (Nat.le_of_ble_eq_true rfl) (fun w43 hs44 => ?_)
   refine w_nil ?_
   refine q_then (hK37 _ _ ?_)
   refine w_seq (fun K46 hK45 => ?_)
   replace hs44 := (show St _ _ ((bc, blk 63 cs0) :: (b3, blk 26 [.slice p.ar m.rooms.length p.cr, .slice p.az m.shops.length p.cs, .slice (some ⟨bc, 0, none⟩) m.trains.length cap]) :: (mb, blk 122 [.slice p.ar m.rooms.length p.cr, .slice p.az m.shops.length p.cs, .slice p.at_ m.trains.length p.ct, .map (some mm)]) :: F) from hs44)
   obtain ⟨bx, ox, hbx2, hrow⟩ := sl_trows (sl_own_trows (w0 := w0) (L := (bc, blk 63 cs0) :: (b3, blk 26 [.slice p.ar m.rooms.length p.cr, .slice p.az m.shops.length p.cs, .slice (some ⟨bc, 0, none⟩) m.trains.length cap]) :: (mb, blk 122 [.slice p.ar m.rooms.length p.cr, .slice p.az m.shops.length p.cs, .slice p.at_ m.trains.length p.ct, .map (some mm)]) :: F) (i := 0) rfl rfl hcs0) hrt
   cases hbx2
   refine w_region ?_
   refine w_pure want_none (y_fieldAddr (o := 2) (i := 2) Try.underlying26 rfl Try.sizeOf24 rfl rfl rfl) rfl ?_
   refine w_pure want_none (y_load1 Try.isAgg24 hs44 rfl rfl (ats_own (i := 1) (vs := [_]) rfl rfl)) rfl ?_
   refine w_pure want_none (y_move (v := .int _ _) rfl rfl) rfl ?_
   refine w_pure want_none (y_indexS Try.underlying24 Try.sizeOf63 rfl rfl rfl rfl (i := r.toNat) (by omega) (by omega)) rfl ?_
   refine w_pure want_none (y_fieldAddr (o := 2) (i := 2) Try.underlying63 rfl Try.sizeOf3 rfl rfl rfl) rfl ?_
   refine w_pure want_none (y_load1 Try.isAgg3 hs44 rfl rfl (show Ats _ _ _ _ [_] from Ats.part hrow 2 1)) rfl ?_
   refine w_pure want_none (y_add rfl rfl rfl rfl (by omega) (by omega)) rfl ?_
   refine w_pure want_none (y_indexS Try.underlying24 Try.sizeOf63 rfl rfl rfl rfl (i := r.toNat) (by omega) (by omega)) rfl ?_
   refine w_pure want_none (y_fieldAddr (o := 2) (i := 2) Try.underlying63 rfl Try.sizeOf3 rfl rfl rfl) rfl ?_
   refine w_store (i := 0) (v := .int _ _) (vs := [_]) want_none Try.sizeOf3 rfl rfl rfl rfl rfl (by simp [Value.oneCell']) hs44 rfl (show 0 + r.toNat * 4 + 2 + 1 ≤ cs0.length by omega) (fun w47 hs48 => ?_)
   have hcs2 : (cs0.set (r.toNat * 4 + 2) (.int .i64 ((m.trains[r.toNat]'hrt).days + 1))).take (m.trains.length * 4) = (trows (setLate m.trains r.toNat)).flatten := cells_late rfl hcs0 hrt
   replace hs48 := (show St _ _ ((bc, blk 63 (cs0.set (r.toNat * 4 + 2) (.int .i64 ((m.trains[r.toNat]'hrt).days + 1)))) :: (b3, blk 26 [.slice p.ar m.rooms.length p.cr, .slice p.az m.shops.length p.cs, .slice (some ⟨bc, 0, none⟩) m.trains.length cap]) :: (mb, blk 122 [.slice p.ar m.rooms.length p.cr, .slice p.az m.shops.length p.cs, .slice p.at_ m.trains.length p.ct, .map (some mm)]) :: F) from (by have h6 := hs48; simp only [setMany, Nat.zero_add] at h6; exact h6))
   have hm2 : MIn w0 ((bc, blk 63 (cs0.set (r.toNat * 4 + 2) (.int .i64 ((m.trains[r.toNat]'hrt).days + 1)))) :: (b3, blk 26 [.slice p.ar m.rooms.length p.cr, .slice p.az m.shops.length p.cs, .slice (some ⟨bc, 0, none⟩) m.trains.length cap]) :: (mb, blk 122 [.slice p.ar m.rooms.length p.cr, .slice p.az m.shops.length p.cs, .slice p.at_ m.trains.length p.ct, .map (some mm)]) :: F) (lateM m r.toNat) { p with at_ := some ⟨bc, 0, none⟩, ct := cap } := ⟨hm.r.cons.cons.cons, hm.s.cons.cons.cons, sl_own_trows (i := 0) rfl (setLate_len _ _) hcs2, hm.lr, hm.ls, (by show (setLate _ _).length ≤ _; rw [setLate_len]; exact hm.lt), hm.cr, hm.cs, (by show (setLate _ _).length ≤ cap; rw [setLate_len]; exact hcap), hm.nr, hm.ns⟩
   refine w_nil ?_
   refine q_then (hK45 _ _ ?_)
   refine w_seq (fun K50 hK49 => ?_)
   refine w_region ?_
   refine w_pure want_none (y_loadN (vs := [_, _, _]) Try.isAgg26 Try.sizeOf26 hs48 rfl rfl (ats_own (i := 1) (vs := [_, _, _]) rfl rfl)) rfl ?_
   refine w_call want_none Try.call77 rfl rfl rfl rfl (look_late m r.toNat { p with at_ := some ⟨bc, 0, none⟩, ct := cap } hs48) ?_
   rintro _ w52 ⟨mb2, mm2, M2, rfl, hM2, hs53⟩
   replace hs53 := (show St _ _ (M2 ++ (_ :: _ :: _ :: _ :: F)) from hs53)
   have hk2 : MK w0 ((mb2, blk 122 [.slice p.ar m.rooms.length p.cr, .slice p.az m.shops.length p.cs, .slice (some ⟨bc, 0, none⟩) (setLate m.trains r.toNat).length cap, .map (some mm2)]) :: (bc, blk 63 (cs0.set (r.toNat * 4 + 2) (.int .i64 ((m.trains[r.toNat]'hrt).days + 1)))) :: (b3, blk 26 [.slice p.ar m.rooms.length p.cr, .slice p.az m.shops.length p.cs, .slice (some ⟨bc, 0, none⟩) m.trains.length cap]) :: (mb, blk 122 [.slice p.ar m.rooms.length p.cr, .slice p.az m.shops.length p.cs, .slice p.at_ m.trains.length p.ct, .map (some mm)]) :: F) (lateM m r.toNat) { p with at_ := some ⟨bc, 0, none⟩, ct := cap } mb2 mm2 := ⟨hm2.cons, ats_own (i := 0) (vs := [_, _, _, _]) rfl rfl, lateM_ok (enter_chk hee) _⟩
   have hwb2 := worst_bound hk2.ok (allX_small hk.ok false) (1 <<< m.shops.length - 1)
   refine w_pure want_none (y_move (v := .pointer _) rfl rfl) rfl ?_
   refine w_call want_none Try.call68 rfl rfl rfl rfl (c68 m p mb mm hkm.cons.cons.cons.app _ hs53) ?_
   rintro _ w55 ⟨rfl, hs56⟩
   refine w_pure want_none (y_move (v := .int _ _) rfl rfl) rfl ?_
   refine w_call want_none Try.call70 rfl rfl rfl rfl (c70 (X := []) (lateM m r.toNat) { p with at_ := some ⟨bc, 0, none⟩, ct := cap } mb2 mm2 hk2 _ (allX_small hk.ok _) _ hM2 hs56) ?_
   rintro _ w58 ⟨B3, al3, cl3, M3, rfl, hsl3, hM3, hs59⟩
   replace hs59 := (show St _ _ (B3 ++ (M3 ++ (_ :: _ :: _ :: _ :: F))) from hs59)
   refine w_pure want_none (y_move (v := .tuple _) rfl rfl) rfl ?_
   refine w_pure want_none (y_extract (v := .slice _ _ _) rfl rfl rfl) rfl ?_
   refine w_pure want_none (y_extract (v := .int _ _) rfl rfl rfl) rfl ?_
   refine w_pure want_none (y_assign (v := .slice _ _ _) rfl rfl) rfl ?_
   refine w_pure want_none (y_assign (v := .int _ _) rfl rfl) rfl ?_
   refine w_nil ?_
   refine q_then (hK49 _ _ ?_)
   refine w_seq (fun K61 hK60 => ?_)
   refine w_region ?_
   refine w_pure want_none (y_move (v := .int _ _) rfl rfl) rfl ?_
   refine w_pure want_none (y_move (v := .int _ _) rfl rfl) rfl ?_
   refine w_pure want_none (y_sub rfl rfl rfl rfl (by omega) (by omega)) rfl ?_
   refine w_pure want_none (y_max2 rfl rfl rfl rfl) rfl ?_
   refine w_pure want_none (y_assign (v := .int _ _) rfl rfl) rfl ?_
   refine w_pure want_none (y_assign (v := _) rfl rfl) rfl ?_
   refine w_nil ?_
   refine q_then (hK60 _ _ ?_)
   refine w_ret ?_
   refine q_ret (l := [.tmp 4, .tmp 5]) (vs := [_, _]) rfl ⟨⟨rfl, show _ = (.int _ _ : Value) from rfl⟩, ⟨rfl, show _ = (.int _ _ : Value) from rfl⟩, trivial⟩ ?_
   exact ⟨by rw [lateP_2 hee]; rfl, hs59.drop.drop.tail.tail.tail.tail⟩

end Go.Proofs
/- Plain words of the shop layer: the loads that the program yields. No conditions. -/
set_option linter.unusedSimpArgs false
set_option linter.unusedVariables false
namespace Go.Rt.Sh
/-- What is left if a train has carried n. -/
def nx1 (x : List Int) : List Int := x.set 7 (x.getD 7 0 + 1)
def nx2 (x : List Int) (r : Nat) (n : Int) : List Int := (nx1 x).set r ((nx1 x).getD r 0 - n)
def nextX (x : List Int) (t : Train) (n : Int) : List Int := (nx2 x t.room.toNat n).set (3 + t.shop.toNat) ((nx2 x t.room.toNat n).getD (3 + t.shop.toNat) 0 - n)
def mostX (m : Market) (sub : Nat) (x : List Int) (t : Train) : Int := if leaves m t = true ∧ bit sub t.shop.toNat = 1 then min (min t.cap (x.getD t.room.toNat 0)) (x.getD (3 + t.shop.toNat) 0) else 0
def loadsX (m : Market) (sub : Nat) : Nat → List Int → List (List Int)
  | 0, _ => [[]]
  | rem + 1, x => match m.trains[(x.getD 7 0).toNat]? with
    | none => []
    | some t => (List.range ((mostX m sub x t).toNat + 1)).flatMap fun n : Nat => if servedS m (nextX x t n) sub then (loadsX m sub rem (nextX x t n)).map (fun l => (n : Int) :: l) else []
/-- A round of it, behind what was carried before. -/
def segN (m : Market) (sub rem : Nat) (x : List Int) (t : Train) (pre : List Int) (n : Nat) : List (List Int) := if servedS m (nextX x t n) sub then (loadsX m sub rem (nextX x t n)).map (fun l => pre ++ ((n : Int) :: l)) else []
def pad6 (l : List Int) : List Int := l ++ List.replicate (6 - l.length) 0
/-- Fine numbers, at train d. -/
structure GoodX (x : List Int) (d : Nat) : Prop where
  len : x.length = 8
  nn : ∀ z ∈ x, 0 ≤ z ∧ z ≤ 1000
  at7 : x.getD 7 0 = d
theorem GoodX.small {x : List Int} {d : Nat} (h : GoodX x d) : Small x := ⟨h.len, fun z hz => by have := h.nn z hz; omega⟩
theorem GoodX.get {x : List Int} {d : Nat} (h : GoodX x d) (i : Nat) : 0 ≤ x.getD i 0 ∧ x.getD i 0 ≤ 1000 := getD_in (by omega) (by omega) h.nn i
theorem getD_other {x : List Int} {i j : Nat} {z : Int} (h : i ≠ j) : (x.set i z).getD j 0 = x.getD j 0 := by simp [List.getD, List.getElem?_set, h]
theorem nx1_len (x : List Int) : (nx1 x).length = x.length := by simp [nx1]
theorem nx2_len (x : List Int) (r : Nat) (n : Int) : (nx2 x r n).length = x.length := by simp [nx2, nx1_len]
theorem nx1_get {x : List Int} {j : Nat} (h : j ≠ 7) : (nx1 x).getD j 0 = x.getD j 0 := getD_other (Ne.symm h)
theorem nx2_get {x : List Int} {r j : Nat} {n : Int} (h : j ≠ 7) (h2 : j ≠ r) : (nx2 x r n).getD j 0 = x.getD j 0 := by unfold nx2; rw [getD_other (Ne.symm h2), nx1_get h]
theorem set_in {x : List Int} {i : Nat} {z a b : Int} (h : ∀ y ∈ x, a ≤ y ∧ y ≤ b) (hz : a ≤ z ∧ z ≤ b) : ∀ y ∈ x.set i z, a ≤ y ∧ y ≤ b := by
  intro y hy
  rcases List.mem_or_eq_of_mem_set hy with h1 | h1
  · exact h y h1
  · rw [h1]; exact hz
theorem nextX_good {x : List Int} {d : Nat} {t : Train} {n : Int} (h : GoodX x d) (hd : d < 100) (hr : t.room.toNat < 3) (hs : t.shop.toNat < 4) (hn : 0 ≤ n) (h1 : n ≤ x.getD t.room.toNat 0) (h2 : n ≤ x.getD (3 + t.shop.toNat) 0) : GoodX (nextX x t n) (d + 1) := by
  have g1 := h.get t.room.toNat
  have g2 := h.get (3 + t.shop.toNat)
  have e1 : (nx1 x).getD t.room.toNat 0 = x.getD t.room.toNat 0 := nx1_get (by omega)
  have e2 : (nx2 x t.room.toNat n).getD (3 + t.shop.toNat) 0 = x.getD (3 + t.shop.toNat) 0 := nx2_get (by omega) (by omega)
  refine ⟨by simp [nextX, nx2_len, h.len], ?_, ?_⟩
  · unfold nextX
    refine set_in ?_ (by rw [e2]; omega)
    unfold nx2
    refine set_in ?_ (by rw [e1]; omega)
    unfold nx1
    exact set_in h.nn (by rw [h.at7]; omega)
  · unfold nextX nx2
    rw [getD_other (by omega), getD_other (by omega)]
    unfold nx1
    rw [getD_set (by rw [h.len]; omega), h.at7]
    push_cast; rfl
theorem mostX_no {m : Market} {sub : Nat} {x : List Int} {t : Train} (h : leaves m t = false ∨ ¬ bit sub t.shop.toNat = 1) : mostX m sub x t = 0 := by
  unfold mostX
  rw [if_neg]
  rintro ⟨h1, h2⟩
  rcases h with h | h
  · rw [h1] at h; cases h
  · exact h h2
theorem mostX_yes {m : Market} {sub : Nat} {x : List Int} {t : Train} (h1 : leaves m t = true) (h2 : bit sub t.shop.toNat = 1) : mostX m sub x t = min (min t.cap (x.getD t.room.toNat 0)) (x.getD (3 + t.shop.toNat) 0) := by unfold mostX; rw [if_pos ⟨h1, h2⟩]
theorem mostX_bound {m : Market} {sub : Nat} {x : List Int} {d : Nat} {t : Train} (h : GoodX x d) (hc : 1 ≤ t.cap ∧ t.cap ≤ 60) : 0 ≤ mostX m sub x t ∧ mostX m sub x t ≤ 60 ∧ mostX m sub x t ≤ x.getD t.room.toNat 0 ∧ mostX m sub x t ≤ x.getD (3 + t.shop.toNat) 0 := by
  have g1 := h.get t.room.toNat
  have g2 := h.get (3 + t.shop.toNat)
  unfold mostX
  split <;> omega
theorem loads_here {m : Market} {sub rem d : Nat} {x pre : List Int} (h : GoodX x d) (hd : d < m.trains.length) :
    (loadsX m sub (rem + 1) x).map (fun l => pad6 (pre ++ l)) = (List.range ((mostX m sub x m.trains[d]).toNat + 1)).flatMap fun n => (segN m sub rem x m.trains[d] pre n).map pad6 := by
  have e : m.trains[(x.getD 7 0).toNat]? = some m.trains[d] := by rw [h.at7, Int.toNat_natCast, List.getElem?_eq_getElem hd]
  simp only [loadsX, e]
  rw [List.map_flatMap]
  congr 1
  funext n
  unfold segN
  split
  · simp [List.map_map, Function.comp_def]
  · rfl
theorem range_drop {k n : Nat} (h : n < k) : (List.range k).drop n = n :: (List.range k).drop (n + 1) := by
  rw [List.drop_eq_getElem_cons (by simpa using h)]; simp
theorem range_done {k n : Nat} (h : k ≤ n) : (List.range k).drop n = [] := List.drop_of_length_le (by simpa using h)
theorem seg_yes {m : Market} {sub rem n : Nat} {x : List Int} {t : Train} {pre : List Int} (h : servedS m (nextX x t n) sub = true) : (segN m sub rem x t pre n).map pad6 = (loadsX m sub rem (nextX x t n)).map fun l => pad6 ((pre ++ [(n : Int)]) ++ l) := by
  unfold segN; rw [if_pos h]; simp [List.map_map, Function.comp_def]
theorem seg_no {m : Market} {sub rem n : Nat} {x : List Int} {t : Train} {pre : List Int} (h : servedS m (nextX x t n) sub = false) : (segN m sub rem x t pre n).map pad6 = [] := by unfold segN; rw [if_neg (by simp [h])]; rfl
theorem loads_len {m : Market} {sub : Nat} : ∀ (rem : Nat) (x : List Int), ∀ l ∈ loadsX m sub rem x, l.length = rem ∧ ∀ z ∈ l, 0 ≤ z
  | 0, _, l, h => by simp [loadsX] at h; subst h; simp
  | rem + 1, x, l, h => by
    unfold loadsX at h
    cases e : m.trains[(x.getD 7 0).toNat]? with
    | none => rw [e] at h; simp at h
    | some t =>
      rw [e] at h
      simp only [List.mem_flatMap] at h
      obtain ⟨n, _, h⟩ := h
      split at h
      · obtain ⟨l', h1, rfl⟩ := List.mem_map.1 h
        have := loads_len rem _ l' h1
        exact ⟨by simp [this.1], fun z hz => by rcases List.mem_cons.1 hz with rfl | hz; omega; exact this.2 z hz⟩
      · cases h
theorem nodup_flatMap' {α : Type} {f : Nat → List α} : ∀ (k : Nat), (∀ n < k, (f n).Nodup) → (∀ n < k, ∀ n' < k, n ≠ n' → ∀ x ∈ f n, x ∉ f n') → ((List.range k).flatMap f).Nodup
  | 0, _, _ => by simp
  | k + 1, h1, h2 => by
    rw [List.range_succ, List.flatMap_append, List.nodup_append]
    refine ⟨nodup_flatMap' k (fun n hn => h1 n (by omega)) (fun n hn n' hn' => h2 n (by omega) n' (by omega)), by simpa using h1 k (by omega), ?_⟩
    intro x hx y hy e
    subst e
    simp only [List.flatMap_cons, List.flatMap_nil, List.append_nil] at hy
    obtain ⟨n, hn, hx⟩ := List.mem_flatMap.1 hx
    rw [List.mem_range] at hn
    exact h2 n (by omega) k (by omega) (by omega) x hx hy
theorem loads_nodup {m : Market} {sub : Nat} : ∀ (rem : Nat) (x : List Int), (loadsX m sub rem x).Nodup
  | 0, _ => by simp [loadsX]
  | rem + 1, x => by
    unfold loadsX
    cases e : m.trains[(x.getD 7 0).toNat]? with
    | none => simp
    | some t =>
      refine nodup_flatMap' _ (fun n _ => ?_) (fun n _ n' _ hne l hl hl' => ?_)
      · split
        · have hq := loads_nodup (m := m) (sub := sub) rem (nextX x t n)
          unfold List.Nodup at hq ⊢
          rw [List.pairwise_map]
          exact hq.imp fun hne e => hne (by simpa using e)
        · simp
      · split at hl
        · obtain ⟨a, _, rfl⟩ := List.mem_map.1 hl
          split at hl'
          · obtain ⟨b, _, h⟩ := List.mem_map.1 hl'
            simp only [List.cons.injEq] at h
            exact hne (by omega)
          · cases hl'
        · cases hl
theorem pad6_len {l : List Int} (h : l.length ≤ 6) : (pad6 l).length = 6 := by simp [pad6]; omega
theorem pad6_inj {a b : List Int} (h : a.length = b.length) (e : pad6 a = pad6 b) : a = b := by unfold pad6 at e; exact (List.append_inj e h).1
theorem allLoads_nodup {m : Market} {sub rem : Nat} {x : List Int} : ((loadsX m sub rem x).map pad6).Nodup := by
  have h := loads_nodup (m := m) (sub := sub) rem x
  unfold List.Nodup at h ⊢
  rw [List.pairwise_map]
  refine List.Pairwise.imp_of_mem ?_ h
  intro a b ha hb hne e
  exact hne (pad6_inj (by rw [(loads_len rem x a ha).1, (loads_len rem x b hb).1]) e)
theorem cur_pad6 {cur pre : List Int} {d : Nat} (hl : cur.length = 6) (hp : pre.length = d) (hd : d ≤ 6) (hk : cur.take d = pre) (hz : ∀ j, d ≤ j → cur.getD j 0 = 0) : cur = pad6 pre := by
  unfold pad6
  apply List.ext_getElem (by simp [hl, hp]; omega)
  intro j h1 h2
  by_cases hj : j < d
  · rw [List.getElem_append_left (by omega)]
    have : pre[j]'(by omega) = (cur.take d)[j]'(by simp [hl]; omega) := by congr 1; exact hk.symm
    rw [this, List.getElem_take]
  · rw [List.getElem_append_right (by omega)]
    have := hz j (by omega)
    simp only [List.getElem_replicate]
    simpa [List.getD, h1] using this
theorem set_take6 {cur pre : List Int} {d : Nat} {n : Int} (hk : cur.take d = pre) (hl : d < cur.length) : (cur.set d n).take (d + 1) = pre ++ [n] := by
  rw [List.take_succ_eq_append_getElem (by simpa using hl), List.getElem_set_self, List.take_set_of_le (Nat.le_refl _), hk]
theorem set_zero6 {cur : List Int} {d n : Nat} {z : Int} (h : d < n) (hz : ∀ j, n ≤ j → cur.getD j 0 = 0) : ∀ j, n ≤ j → (cur.set d z).getD j 0 = 0 := fun j hj => by rw [getD_other (by omega)]; exact hz j hj
theorem take_less6 {cur pre : List Int} {d : Nat} {n : Int} (h : cur.take (d + 1) = pre ++ [n]) (hp : pre.length = d) : cur.take d = pre := by
  have : (cur.take (d + 1)).take d = (pre ++ [n]).take d := by rw [h]
  rw [List.take_take, Nat.min_eq_left (by omega)] at this
  rw [this, ← hp]; simp
theorem drop_next {α : Type} {L R : List α} {i : Nat} {x : α} (h : L.drop i = x :: R) : L.drop (i + 1) = R := by
  have : (L.drop i).drop 1 = R := by rw [h]; rfl
  rwa [List.drop_drop] at this
theorem drop_lt {α : Type} {L R : List α} {i : Nat} {x : α} (h : L.drop i = x :: R) : i < L.length := by
  rcases Nat.lt_or_ge i L.length with h1 | h1
  · exact h1
  · rw [List.drop_of_length_le h1] at h; cases h
theorem drop_get1 {α : Type} {L R : List α} {i : Nat} {x : α} (h : L.drop i = x :: R) : L[i]'(drop_lt h) = x := by
  have := List.drop_eq_getElem_cons (drop_lt h)
  rw [h] at this
  exact (List.cons.inj this).1.symm
theorem drop_done {α : Type} {L : List α} {i : Nat} (h : i ≤ L.length) (hd : L.drop i = []) : i = L.length := by
  have := congrArg List.length hd
  simp at this; omega
/-- What Give returns, as the program goes. -/
def giveSub : Nat → List Int → Nat
  | s, [] => s
  | s, x :: l => giveSub (bitDiff s (1 <<< x.toNat)) l
theorem giveSub_le : ∀ (l : List Int) (s : Nat), s < 1000 → giveSub s l < 1000
  | [], s, h => h
  | x :: l, s, h => giveSub_le l _ (by have := bitDiff_le s (1 <<< x.toNat) (by omega); omega)
theorem giveSub_step {s : Nat} {l : List Int} {i : Nat} (hi : i < l.length) : giveSub s (l.drop i) = giveSub (bitDiff s (1 <<< l[i].toNat)) (l.drop (i + 1)) := by rw [List.drop_eq_getElem_cons hi]; rfl
theorem giveSub_end {s : Nat} {l : List Int} {i : Nat} (hi : l.length ≤ i) : giveSub s (l.drop i) = s := by rw [List.drop_of_length_le hi]; rfl
def allLoads (m : Market) : List (List Int) := (loadsX m (giveSub (1 <<< m.shops.length - 1) (withoutL m)) m.trains.length (allX m false)).map pad6
def giveL (m : Market) : List Int := match allLoads m with
  | [] => List.replicate m.trains.length 0
  | l :: _ => l.take m.trains.length
def giveP (m : Market) : List Int × Int := if (check m).2.2 ≠ 0 then ([], (check m).2.2) else (giveL m, 0)
theorem allLoads_len {m : Market} (hok : m.Ok) : ∀ l ∈ allLoads m, l.length = 6 := by
  intro l hl
  obtain ⟨q, hq, rfl⟩ := List.mem_map.1 hl
  exact pad6_len (by rw [(loads_len _ _ q hq).1]; exact hok.lt)
theorem giveL_nil {m : Market} (h : (allLoads m).length = 0) : giveL m = List.replicate m.trains.length 0 := by unfold giveL; rw [List.length_eq_zero_iff.1 h]
theorem giveL_cons {m : Market} (h : 0 < (allLoads m).length) : giveL m = (allLoads m)[0].take m.trains.length := by
  unfold giveL
  split
  · rename_i e; rw [e] at h; simp at h
  · rename_i l r e; simp [e]
theorem giveL_len {m : Market} (hok : m.Ok) : (giveL m).length = m.trains.length := by
  rcases Nat.eq_zero_or_pos (allLoads m).length with h | h
  · rw [giveL_nil h]; simp
  · rw [giveL_cons h, List.length_take, allLoads_len hok _ (List.getElem_mem h)]; have := hok.lt; omega
theorem giveL_copy {m : Market} (hok : m.Ok) (h : 0 < (allLoads m).length) : (allLoads m)[0].take m.trains.length ++ (List.replicate m.trains.length (0 : Int)).drop 6 = giveL m := by
  rw [giveL_cons h, List.drop_of_length_le (by rw [List.length_replicate]; exact hok.lt), List.append_nil]
theorem start_last {m : Market} {sub rem : Nat} {x : List Int} : [-1, 0, 0, 0, 0, 0] ∉ (loadsX m sub rem x).map pad6 := by
  intro h
  obtain ⟨l, hl, e⟩ := List.mem_map.1 h
  have h2 := (loads_len rem x l hl).2
  cases l with
  | nil => simp [pad6, List.replicate] at e
  | cons z l =>
    have hz := h2 z (.head _)
    simp only [pad6, List.cons_append, List.cons.injEq] at e
    omega
theorem allX_at7 (m : Market) (hr : m.rooms.length ≤ 3) (hs : m.shops.length ≤ 4) (t : Bool) : (allX m t).getD 7 0 = 0 := by
  have h1 : ∀ i, i ≤ 3 → (handsTo m t i).getD 7 0 = 0 := by
    intro i
    induction i with
    | zero => intro _; rfl
    | succ i ih => intro h; unfold handsTo; rw [getD_other (by omega)]; exact ih (by omega)
  have h2 : ∀ i, i ≤ 4 → (wantsTo m t i).getD 7 0 = 0 := by
    intro i
    induction i with
    | zero => intro _; exact h1 _ hr
    | succ i ih => intro h; unfold wantsTo; rw [getD_other (by omega)]; exact ih (by omega)
  exact h2 _ hs
theorem allX_good {m : Market} (hok : m.Ok) (t : Bool) : GoodX (allX m t) 0 :=
  ⟨allX_len m t, fun z hz => by have := allX_in hok t z hz; omega, by rw [allX_at7 m hok.lr hok.ls]; rfl⟩
theorem listL_in (b : Nat) : ∀ n, ∀ x ∈ listL b n, 0 ≤ x ∧ x < n
  | 0, x, h => by simp [listL] at h
  | n + 1, x, h => by
    simp only [listL, List.mem_append] at h
    rcases h with h | h
    · have := listL_in b n x h; omega
    · split at h
      · simp at h; omega
      · simp at h
theorem withoutTo_in (m : Market) : ∀ k, ∀ x ∈ withoutTo m k, 0 ≤ x ∧ x < m.shops.length
  | 0 => listL_in _ _
  | k + 1 => by
    simp only [withoutTo, withoutStep]
    split
    · exact listL_in _ _
    · exact withoutTo_in m k
theorem drop_notin {α : Type} {L R : List α} {i : Nat} {x : α} (hn : L.Nodup) (h : L.drop i = x :: R) : x ∉ R := by
  have := hn.sublist (List.drop_sublist i L)
  rw [h] at this
  exact (List.nodup_cons.1 this).1
end Go.Rt.Sh
/- The walking engine, part 12: ranges over functions that keep something of their own. No conditions. -/
set_option linter.unusedSimpArgs false
set_option linter.unusedVariables false
namespace Go.Rt
open Go.RowKit
variable {r : Option Nat} {P : Program} {ops : Array Oper} {Q : Exit → Act → World → Prop} {rest : List Oper} {n : Nat} {ρ : Nat → Value} {ds : List Deferred} {w w0 : World} {L : List (Nat × Obj)}
/-- As Iter, for consumers of a kind. -/
def IterC (P : Program) (k : FuncId) (first captured : List Value) (xs : List Value) (w0 : World) (F : List (Nat × Obj)) (C : (Nat → List (Nat × Obj) → Prop) → (List (Nat × Obj) → Prop) → Prop) : Prop :=
  ∀ (J : Nat → List (Nat × Obj) → Prop) (Js : List (Nat × Obj) → Prop), C J Js → ∀ (yv : Value) (B X : List (Nat × Obj)) (w : World), (∃ f a b, yv = .func f a b) →
    (∀ i (hi : i < xs.length) B X w, J i B → St w0 w (X ++ (B ++ F)) → FCon P yv [xs[i]] w fun v w' => ∃ B', St w0 w' (X ++ (B' ++ F)) ∧ (v = .bool true ∧ J (i + 1) B' ∨ v = .bool false ∧ Js B')) →
    J 0 B → St w0 w (X ++ (B ++ F)) →
    Con P k (first ++ ([yv] ++ captured)) w fun _ w' => ∃ B', St w0 w' (X ++ (B' ++ F)) ∧ (J xs.length B' ∨ Js B')
/-- Consumers that have a memo in their keeping. -/
def ClsM (K : List (Nat × Obj) → Prop) (J : Nat → List (Nat × Obj) → Prop) (Js : List (Nat × Obj) → Prop) : Prop :=
  ∃ (J0 : Nat → List (Nat × Obj) → Prop) (Js0 : List (Nat × Obj) → Prop), (∀ i Bx, J i Bx ↔ ∃ B M, Bx = B ++ M ∧ K M ∧ J0 i B) ∧ ∀ Bx, Js Bx ↔ ∃ B M, Bx = B ++ M ∧ K M ∧ Js0 B
theorem clsM_range {K : List (Nat × Obj) → Prop} {J : Nat → List (Nat × Obj) → Prop} {Js : Code → List (Nat × Obj) → Prop} (J0 : Nat → List (Nat × Obj) → Prop) (Js0 : Code → List (Nat × Obj) → Prop) (h1 : ∀ i Bx, J i Bx ↔ ∃ B M, Bx = B ++ M ∧ K M ∧ J0 i B) (h2 : ∀ c Bx, Js c Bx ↔ ∃ B M, Bx = B ++ M ∧ K M ∧ Js0 c B) (a b : Nat × Obj) (cc : Code → Nat × Obj) :
    ClsM K (fun i Bx => ∃ B, Bx = a :: b :: B ∧ J i B) (fun Bx => ∃ B c, Bx = cc c :: b :: B ∧ Js c B) := by
  refine ⟨fun i B => ∃ B0, B = a :: b :: B0 ∧ J0 i B0, fun B => ∃ B0 c, B = cc c :: b :: B0 ∧ Js0 c B0, fun i Bx => ⟨?_, ?_⟩, fun Bx => ⟨?_, ?_⟩⟩
  · rintro ⟨B, rfl, hJ⟩
    obtain ⟨B0, M, rfl, hK, h⟩ := (h1 i B).1 hJ
    exact ⟨a :: b :: B0, M, rfl, hK, B0, rfl, h⟩
  · rintro ⟨B, M, rfl, hK, B0, rfl, h⟩
    exact ⟨B0 ++ M, rfl, (h1 i _).2 ⟨B0, M, rfl, hK, h⟩⟩
  · rintro ⟨B, c, rfl, hJ⟩
    obtain ⟨B0, M, rfl, hK, h⟩ := (h2 c B).1 hJ
    exact ⟨cc c :: b :: B0, M, rfl, hK, B0, c, rfl, h⟩
  · rintro ⟨B, M, rfl, hK, B0, c, rfl, h⟩
    exact ⟨B0 ++ M, c, rfl, (h2 c _).2 ⟨B0, M, rfl, hK, h⟩⟩
theorem st_in {P X B R : List (Nat × Obj)} (h : St w0 w (P ++ (X ++ (B ++ R)))) : St w0 w ((P ++ (X ++ B)) ++ R) := by simpa only [List.append_assoc] using h
theorem st_out {P X B R : List (Nat × Obj)} (h : St w0 w ((P ++ (X ++ B)) ++ R)) : St w0 w (P ++ (X ++ (B ++ R))) := by simpa only [List.append_assoc] using h
theorem w_rangeC {C : (Nat → List (Nat × Obj) → Prop) → (List (Nat × Obj) → Prop) → Prop} {g : Operand} {pt : Nat} {assign body : Code} {k : FuncId} {first captured : Array Value} {xs : List Value} {F : List (Nat × Obj)} (B : List (Nat × Obj)) (J : Nat → List (Nat × Obj) → Prop) (Js : Code → List (Nat × Obj) → Prop)
    (hog : okO n g = true) (hg : ev ρ g = .func (.func k) first captured) (hpt : Nat.blt pt n = true) (hC : CF P k) (hit : IterC P k first.toList captured.toList xs w0 F C) (hcls : ∀ (a b : Nat × Obj) (cc : Code → Nat × Obj), C (fun i Bx => ∃ B, Bx = a :: b :: B ∧ J i B) (fun Bx => ∃ B c, Bx = cc c :: b :: B ∧ Js c B)) (hst : St w0 w L) (hperm : L.Perm (B ++ F)) (h0 : J 0 B)
    (round : ∀ l i (hi : i < xs.length) B X X' w, J i B → St w0 w (B ++ (X ++ F)) → ∀ K : Act → World → Prop,
      (∀ a w Y, St w0 w (Y ++ (X ++ F)) → (∀ w', St w0 w' (Y ++ (X' ++ F)) → WC (some l) P body (Rd w0 J Js i (X' ++ F)) a w') → K a w) →
      WC (some l) P assign (Exit.then K fun _ _ _ => False) (A n (upd ρ pt xs[i]) []) w)
    (hend : ∀ bd B w, J xs.length B → St w0 w ((bd, .deferred (some [])) :: (B ++ F)) → Q .normal (A n ρ (mk bd :: ds)) w)
    (hjump : ∀ bd c B w, Js c B → St w0 w ((bd, .deferred (some [])) :: (B ++ F)) → WC none P c Q (A n ρ (mk bd :: ds)) w) :
    WC none P (.rangeFunc g #[pt] assign body) Q (A n ρ ds) w := by
  refine wpIn_rangeFunc (F := FW none) fun fn _ => ?_
  have henter := run_enterLoop_outer (P := P) (w := w) fn (A n ρ ds).tmps #[pt] assign body
  let bd := w.heap.size
  let l := w.heap.size + 1
  let rc (s : LoopState) (pend : Option Code) : Obj := .loop { state := s, pending := pend, fn := fn, tmps := fa n ρ, params := #[pt], assign := assign, body := body, defers := bd }
  let w1 : World := (w.alloc (.deferred (some []))).alloc (rc .ready none)
  have hst1 : St w0 w1 ((l, rc .ready none) :: (bd, .deferred (some [])) :: L) := by
    have h1 := (hst.alloc (.deferred (some []))).alloc (rc .ready none)
    rw [World.size_alloc] at h1
    exact h1
  refine ⟨l, [mk bd], w1, { target := .fn (.func k) captured, args := first ++ #[.func (.yield l) #[] #[]] }, w1, k, first ++ #[.func (.yield l) #[] #[]] ++ captured, w1, henter, ?_, fun _ _ => trivial, ?_, fun h => (by simp at h), ?_⟩
  · have e1 : (#[Operand.const (Value.func (Fn.yield l) #[] #[])].map (A n ρ ds).eval) = #[Value.func (Fn.yield l) #[] #[]] := by simp [Act.eval]
    simp only [resolve, rangeCall, ev_eq hog, hg, Deferred.ofValue, e1]
    rfl
  · exact hC (first ++ #[Value.func (Fn.yield l) #[] #[]] ++ captured) w1
  · have hperm1 : ((l, rc .ready none) :: (bd, .deferred (some [])) :: L).Perm ([] ++ (((l, rc .ready none) :: (bd, .deferred (some [])) :: B) ++ F)) := (List.Perm.cons _ (List.Perm.cons _ hperm))
    have hI := hit (fun i Bx => ∃ B, Bx = (l, rc .ready none) :: (bd, .deferred (some [])) :: B ∧ J i B) (fun Bx => ∃ B c, Bx = (l, rc .done (some c)) :: (bd, .deferred (some [])) :: B ∧ Js c B) (hcls (l, rc .ready none) (bd, .deferred (some [])) (fun c => (l, rc .done (some c)))) (.func (.yield l) #[] #[])
      ((l, rc .ready none) :: (bd, .deferred (some [])) :: B) [] w1 ⟨_, _, _, rfl⟩ ?_ ⟨B, rfl, h0⟩ (hst1.perm hperm1)
    · have hargs : (first ++ #[Value.func (Fn.yield l) #[] #[]] ++ captured) = (first.toList ++ ([Value.func (Fn.yield l) #[] #[]] ++ captured.toList)).toArray := by
        apply Array.ext'; simp
      rw [hargs]
      refine CallsIn.mono hI ?_
      rintro e w' ⟨v, rfl, B', hst', hB⟩
      rcases hB with ⟨B, rfl, hB⟩ | ⟨B, c, rfl, hB⟩
      · have hg' := hst'.get (i := 0) rfl
        refine ⟨none, _, run_endLoop hg' (by simp), ?_⟩
        exact hend bd B _ hB (hst'.putObj (i := 0) rfl _).tail
      · have hg' := hst'.get (i := 0) rfl
        refine ⟨some c, _, run_endLoop hg' (by simp), ?_⟩
        exact hjump bd c B _ hB (hst'.putObj (i := 0) rfl _).tail
    · rintro i hi Bx X w2 ⟨B, rfl, hB⟩ hst2
      have hp : (X ++ (((l, rc .ready none) :: (bd, .deferred (some [])) :: B) ++ F)).Perm ((l, rc .ready none) :: (bd, .deferred (some [])) :: (X ++ (B ++ F))) := perm_mid X [(l, rc .ready none), (bd, .deferred (some []))] (B ++ F)
      have hst3 := hst2.perm hp
      have hg' := hst3.get (i := 0) rfl
      refine .inr ⟨l, fn, fa n (upd ρ pt xs[i]), assign, body, rfl, ?_, ?_⟩
      · rw [run_yield hg' rfl]
        simp [rc, fa_put]
      · refine roundIn_of_wpIn (F := FW none) trivial ?_
        have hp2 : ((l, rc .ready none) :: (bd, .deferred (some [])) :: (X ++ (B ++ F))).Perm (B ++ (((l, rc .ready none) :: (bd, .deferred (some [])) :: X) ++ F)) :=
          perm_mid ((l, rc .ready none) :: (bd, .deferred (some [])) :: X) B F
        refine round l i hi B ((l, rc .ready none) :: (bd, .deferred (some [])) :: X) ((l, rc .busy none) :: (bd, .deferred (some [])) :: X) w2 hB (hst3.perm hp2) _ ?_
        intro a w3 Y hst4 hbody
        have hp3 : (Y ++ (((l, rc .ready none) :: (bd, .deferred (some [])) :: X) ++ F)).Perm ((l, rc .ready none) :: (Y ++ (((bd, .deferred (some [])) :: X) ++ F))) := perm_mid Y [(l, rc .ready none)] _
        have hst5 := hst4.perm hp3
        have hg5 := hst5.get (i := 0) rfl
        refine ⟨_, run_beginRound hg5 rfl, ?_⟩
        have hst6 := hst5.putObj (i := 0) rfl (rc .busy none)
        have hp4 : ((l, rc .busy none) :: (Y ++ (((bd, .deferred (some [])) :: X) ++ F))).Perm (Y ++ (((l, rc .busy none) :: (bd, .deferred (some [])) :: X) ++ F)) := (perm_mid Y [(l, rc .busy none)] _).symm
        refine w_mono (hbody _ (hst6.perm hp4)) ?_
        have back : ∀ (B' : List (Nat × Obj)) (w : World) (s : LoopState) (pend : Option Code), St w0 w (B' ++ (((l, rc .busy none) :: (bd, .deferred (some [])) :: X) ++ F)) → w.heap[l]? = some (rc .busy none) ∧
            St w0 (w.putObj l (rc s pend)) (X ++ (((l, rc s pend) :: (bd, .deferred (some [])) :: B') ++ F)) := by
          intro B' w s pend h
          have h1 := h.perm (perm_mid B' [(l, rc .busy none)] (((bd, .deferred (some [])) :: X) ++ F))
          refine ⟨h1.get (i := 0) rfl, ?_⟩
          have h2 := h1.putObj (i := 0) rfl (rc s pend)
          refine h2.perm ?_
          show ((l, rc s pend) :: (B' ++ (((bd, .deferred (some [])) :: X) ++ F))).Perm _
          refine (List.Perm.cons _ (perm_mid B' [(bd, .deferred (some []))] (X ++ F))).trans ?_
          refine (List.Perm.cons _ (List.Perm.cons _ (perm_mid B' X F))).trans ?_
          exact (perm_mid X [(l, rc s pend), (bd, .deferred (some []))] (B' ++ F)).symm
        intro e a' w' hq
        cases e with
        | normal =>
          obtain ⟨B', hs, hJ⟩ := hq
          obtain ⟨hb1, hb2⟩ := back B' w' .ready none hs
          exact ⟨_, _, run_endRound none hb1, _, rfl, _, hb2, .inl ⟨rfl, B', rfl, hJ⟩⟩
        | ret =>
          obtain ⟨B', hs, hJ⟩ := hq
          obtain ⟨hb1, hb2⟩ := back B' w' .done (some .ret) hs
          exact ⟨_, _, run_endRound (some .ret) hb1, _, rfl, _, hb2, .inr ⟨rfl, B', _, rfl, hJ⟩⟩
        | exit id =>
          obtain ⟨B', hs, hJ⟩ := hq
          obtain ⟨hb1, hb2⟩ := back B' w' .done (some (.exit id)) hs
          exact ⟨_, _, run_endRound (some (.exit id)) hb1, _, rfl, _, hb2, .inr ⟨rfl, B', _, rfl, hJ⟩⟩
        | goto t => exact hq.elim
        | panic c => exact hq.elim
        | outgrown => exact hq.elim

end Go.Rt
