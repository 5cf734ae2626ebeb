/- Walks of this seat, printed by gen.py over the engine: what each function returns, in whatever world. No conditions but those of each contract. -/
import Derived.Test.YtbnnmjfjibneaaaJ
import Derived.Test.YtbnnmjfjibneaaaSSpec6
import Derived.Test.YtbnnmjfjibneaaaEng12
set_option linter.unusedVariables false
set_option linter.unusedSimpArgs false
set_option maxRecDepth 20000
namespace Go.Proofs
open Go.Rt Go.Rt.Sh
attribute [local irreducible] WL WC Con Yd At Ats Sl Agree DW
theorem Try_flat106 : flatInts Try.prog 106 6 = true := by kernel_rfl
theorem goes_at {w0 w : World} {F : List (Nat × Obj)} (m : Market) (p : At3) (mb mm : Nat) (hk : MK w0 F m p mb mm) (i : Nat) (hi : i < m.trains.length) {z : Int} (hz : z = i) (hs : St w0 w F) : Con Try.prog 65 [.pointer (some ⟨mb, 0, none⟩), .int .i64 z] w fun v w' => v = .bool (leaves m m.trains[i]) ∧ St w0 w' F := by subst hz; exact c65 m p mb mm hk i hi hs
def NextC (m : Market) (mb mm sub bp bl bla bY bs bn : Nat) (Ls : List (List Int)) (J : Nat → List (Nat × Obj) → Prop) (Js : List (Nat × Obj) → Prop) (yv : Value) (w0 : World) (F : List (Nat × Obj)) (rem : Nat) : Prop :=
  ∀ (d : Nat) (pre cur last : List Int) (i : Nat) (R : List (List Int)) (x : List Int) (B M X : List (Nat × Obj)) (w : World), d + rem = m.trains.length → pre.length = d → cur.length = 6 → cur.take d = pre → (∀ j, m.trains.length ≤ j → cur.getD j 0 = 0) → GoodX x d → i ≤ Ls.length →
    Ls.drop i = ((loadsX m sub rem x).map fun l => pad6 (pre ++ l)) ++ R → last.length = 6 → last ∉ Ls.drop i → J i B → Memo m mm M → St w0 w ((bn, blk 129 [.func (.func 95) #[] #[.pointer (some ⟨bp, 0, none⟩), .pointer (some ⟨bl, 0, none⟩), .pointer (some ⟨bla, 0, none⟩), .pointer (some ⟨bY, 0, none⟩), .pointer (some ⟨bs, 0, none⟩), .pointer (some ⟨bn, 0, none⟩)]]) :: (bla, blk 106 (iv last)) :: (bl, blk 106 (iv cur)) :: (bY, blk 128 [yv]) :: (X ++ (B ++ (M ++ F)))) →
    Con Try.prog 95 [ia x, .pointer (some ⟨bp, 0, none⟩), .pointer (some ⟨bl, 0, none⟩), .pointer (some ⟨bla, 0, none⟩), .pointer (some ⟨bY, 0, none⟩), .pointer (some ⟨bs, 0, none⟩), .pointer (some ⟨bn, 0, none⟩)] w fun v w' => ∃ (cur' last' : List Int) (B' M' : List (Nat × Obj)), cur'.length = 6 ∧ last'.length = 6 ∧ cur'.take d = pre ∧ (∀ j, m.trains.length ≤ j → cur'.getD j 0 = 0) ∧ Memo m mm M' ∧ St w0 w' ((bn, blk 129 [.func (.func 95) #[] #[.pointer (some ⟨bp, 0, none⟩), .pointer (some ⟨bl, 0, none⟩), .pointer (some ⟨bla, 0, none⟩), .pointer (some ⟨bY, 0, none⟩), .pointer (some ⟨bs, 0, none⟩), .pointer (some ⟨bn, 0, none⟩)]]) :: (bla, blk 106 (iv last')) :: (bl, blk 106 (iv cur')) :: (bY, blk 128 [yv]) :: (X ++ (B' ++ (M' ++ F)))) ∧
      ((v = .bool true ∧ ∃ i', i' ≤ Ls.length ∧ Ls.drop i' = R ∧ last' ∉ R ∧ J i' B') ∨ (v = .bool false ∧ Js B'))
theorem seg_more {Ls R : List (List Int)} {f : Nat → List (List Int)} {k n i : Nat} (hn : n < k) (h : Ls.drop i = (((List.range k).drop n).flatMap f) ++ R) : Ls.drop i = f n ++ ((((List.range k).drop (n + 1)).flatMap f) ++ R) := by
  rw [range_drop hn, List.flatMap_cons, List.append_assoc] at h; exact h
theorem fr7 {w0 w : World} {R : List (Nat × Obj)} {a b c e f g h : Nat × Obj} (hs : St w0 w (a :: b :: c :: e :: f :: g :: h :: R)) : St w0 w (e :: f :: g :: h :: a :: b :: c :: R) := hs.perm (perm_mid [a, b, c] [e, f, g, h] R)
theorem bk7 {w0 w : World} {R : List (Nat × Obj)} {a b c e f g h : Nat × Obj} (hs : St w0 w (e :: f :: g :: h :: a :: b :: c :: R)) : St w0 w (a :: b :: c :: e :: f :: g :: h :: R) := hs.perm (perm_mid [e, f, g, h] [a, b, c] R)
theorem c95 {w0 : World} {F : List (Nat × Obj)} (m : Market) (p : At3) (mb mm : Nat) (hk : MK w0 F m p mb mm)  (sub bp bl bla bY bs bn : Nat) (hsub : sub < 1000) (h1 : Ats w0 F bp 0 [.pointer (some ⟨mb, 0, none⟩)]) (h5 : Ats w0 F bs 0 [.int .i64 (sub : Int)]) (Ls : List (List Int)) (hnd : Ls.Nodup) (J : Nat → List (Nat × Obj) → Prop) (Js : List (Nat × Obj) → Prop) (yv : Value) (hy : ∀ (i : Nat) (x : List Int) (R : List (List Int)) (B M X : List (Nat × Obj)) (w : World), Ls.drop i = x :: R → J i B → Memo m mm M → St w0 w (X ++ (B ++ (M ++ F))) → FCon Try.prog yv [ia x] w fun v w' => ∃ B' M', Memo m mm M' ∧ St w0 w' (X ++ (B' ++ (M' ++ F))) ∧ (v = .bool true ∧ J (i + 1) B' ∨ v = .bool false ∧ Js B')) (rem : Nat) (ih : ∀ r, rem = r + 1 → NextC m mb mm sub bp bl bla bY bs bn Ls J Js yv w0 F r) : NextC m mb mm sub bp bl bla bY bs bn Ls J Js yv w0 F rem := by
  intro d pre cur last i R x B M X w hdr hpl hcl hk6 hz hgx hi hpos hll hlast hJ hM hs
  obtain ⟨ar, cr, as_, cs, at_, ct⟩ := p
  have hb := hk.b
  have hlr := hk.ok.lr
  have hls := hk.ok.ls
  have hlt := hk.ok.lt
  have hat := hgx.at7
  have hxl := hgx.len
  refine con_of_wc (n := 106) Try.func95 rfl rfl (Nat.le_of_ble_eq_true rfl) ?_
  refine w_seq (fun K2 hK1 => ?_)
  refine w_region ?_
  refine w_boxI (l := _) want_none rfl rfl rfl hs (fun b3 w4 hs5 => ?_)
  refine w_pure want_none (y_assign (v := _) rfl rfl) rfl ?_
  refine w_nil ?_
  refine q_then (hK1 _ _ ?_)
  refine w_seq (fun K7 hK6 => ?_)
  refine w_seq (fun K9 hK8 => ?_)
  refine w_draw [] [(0, 0), (1, 1), (2, 1), (3, 0), (4, 0), (5, 0), (6, 1), (7, 0), (8, 0)] Try_mo (by kernel_rfl) hs5 (fun w10 hs11 => ?_)
  refine d_any rfl want_none rfl (fun _ => (y_fieldAddr (o := 7) (i := 2) Try.underlying93 rfl Try.sizeOf3 rfl rfl rfl)) ?_
  refine d_take rfl want_none rfl hs11 (fun _ hq => (y_load1 Try.isAgg3 hq rfl rfl (ats_intsC (i := 0) (o := 7) rfl (by first | omega | rfl | (simp only [nx1_len, nx2_len, hxl, List.length_map, List.length_set, List.length_append, List.length_take, List.length_drop, List.length_replicate, List.length_cons, List.length_nil] <;> omega))))) ?_
  refine d_take rfl want_none rfl hs11 (fun _ hq => (y_load1 Try.isAgg83 hq.tail.tail.tail.tail.tail.drop.drop.drop rfl rfl h1)) ?_
  refine d_any rfl want_none rfl (fun _ => (y_nilCheck rfl rfl)) ?_
  refine d_any rfl want_none rfl (fun _ => (y_fieldAddr (o := 0) (i := 0) Try.underlying122 rfl Try.sizeOf26 rfl rfl rfl)) ?_
  refine d_any rfl want_none rfl (fun _ => (y_fieldAddr (o := 2) (i := 2) Try.underlying26 rfl Try.sizeOf24 rfl rfl rfl)) ?_
  refine d_take rfl want_none rfl hs11 (fun _ hq => (y_load1 Try.isAgg24 hq.tail.tail.tail.tail.tail.drop.drop.drop rfl rfl (show Ats _ _ _ _ [_] from Ats.part hb 2 1))) ?_
  refine d_any rfl want_none rfl (fun _ => (y_lenS Try.underlying24 rfl rfl)) ?_
  refine d_any rfl want_none rfl (fun _ => (y_eql rfl rfl rfl rfl)) ?_
  refine d_nil ?_
  refine q_then (hK8 _ _ ?_)
  refine w_cond rfl rfl (fun h12 => ?_) (fun h12 => ?_)
  ·
    try simp only [Bool.not_eq_true', Bool.not_eq_false', decide_eq_true_eq, decide_eq_false_iff_not, Int.not_lt, Int.not_le] at h12
    refine w_seq (fun K14 hK13 => ?_)
    refine w_seq (fun K16 hK15 => ?_)
    have hr0 : rem = 0 := by omega
    subst hr0
    have hcur := cur_pad6 (d := d) hcl hpl (by omega) hk6 (by have hdn : d = m.trains.length := (by omega); subst hdn; exact hz)
    simp only [loadsX, List.map_cons, List.map_nil, List.append_nil, List.cons_append, List.nil_append, ← hcur] at hpos
    have hne : ¬ cur = last := fun e => hlast (by rw [hpos, ← e]; exact .head _)
    refine w_region ?_
    refine w_pure want_none (y_loadI (i := 3) Try.isAgg106 Try.sizeOf106 (by first | omega | rfl | (simp only [nx1_len, nx2_len, hxl, List.length_map, List.length_set, List.length_append, List.length_take, List.length_drop, List.length_replicate, List.length_cons, List.length_nil] <;> omega)) hs11 rfl rfl rfl) rfl ?_
    refine w_pure want_none (y_loadI (i := 2) Try.isAgg106 Try.sizeOf106 (by first | omega | rfl | (simp only [nx1_len, nx2_len, hxl, List.length_map, List.length_set, List.length_append, List.length_take, List.length_drop, List.length_replicate, List.length_cons, List.length_nil] <;> omega)) hs11 rfl rfl rfl) rfl ?_
    refine w_pure want_none (y_eqFlat (l := _) (m := _) Try.eqGuardType106 Try_flat106 (by first | omega | rfl | (simp only [nx1_len, nx2_len, hxl, List.length_map, List.length_set, List.length_append, List.length_take, List.length_drop, List.length_replicate, List.length_cons, List.length_nil] <;> omega)) (by first | omega | rfl | (simp only [nx1_len, nx2_len, hxl, List.length_map, List.length_set, List.length_append, List.length_take, List.length_drop, List.length_replicate, List.length_cons, List.length_nil] <;> omega)) rfl rfl rfl rfl rfl rfl) rfl ?_
    refine w_nil ?_
    refine q_then (hK15 _ _ ?_)
    refine w_cond rfl rfl (fun h17 => ?_) (fun h17 => ?_)
    ·
      try simp only [Bool.not_eq_true', Bool.not_eq_false', decide_eq_true_eq, decide_eq_false_iff_not, Int.not_lt, Int.not_le] at h17
      exact absurd (by assumption) hne
    ·
      try simp only [Bool.not_eq_true', Bool.not_eq_false', decide_eq_true_eq, decide_eq_false_iff_not, Int.not_lt, Int.not_le] at h17
      refine w_skip ?_
      refine q_then (hK13 _ _ ?_)
      refine w_seq (fun K19 hK18 => ?_)
      refine w_region ?_
      refine w_pure want_none (y_loadI (i := 3) Try.isAgg106 Try.sizeOf106 (by first | omega | rfl | (simp only [nx1_len, nx2_len, hxl, List.length_map, List.length_set, List.length_append, List.length_take, List.length_drop, List.length_replicate, List.length_cons, List.length_nil] <;> omega)) hs11 rfl rfl rfl) rfl ?_
      refine w_storeI (i := 2) (l := _) want_none Try.sizeOf106 (by first | omega | rfl | (simp only [nx1_len, nx2_len, hxl, List.length_map, List.length_set, List.length_append, List.length_take, List.length_drop, List.length_replicate, List.length_cons, List.length_nil] <;> omega)) rfl rfl rfl rfl rfl hs11 rfl (by first | omega | rfl | (simp only [nx1_len, nx2_len, hxl, List.length_map, List.length_set, List.length_append, List.length_take, List.length_drop, List.length_replicate, List.length_cons, List.length_nil] <;> omega)) (fun w20 hs21 => ?_)
      refine w_nil ?_
      refine q_then (hK18 _ _ ?_)
      refine w_seq (fun K23 hK22 => ?_)
      refine w_region ?_
      refine w_pure want_none (y_load1 Try.isAgg128 hs21 rfl rfl (ats_own (i := 4) (vs := [_]) rfl rfl)) rfl ?_
      refine w_pure want_none (y_loadI (i := 3) Try.isAgg106 Try.sizeOf106 (by first | omega | rfl | (simp only [nx1_len, nx2_len, hxl, List.length_map, List.length_set, List.length_append, List.length_take, List.length_drop, List.length_replicate, List.length_cons, List.length_nil] <;> omega)) hs21 rfl rfl rfl) rfl ?_
      refine w_callV want_none rfl rfl rfl rfl (hy i _ R B M (_ :: _ :: _ :: _ :: _ :: X) _ hpos hJ hM hs21) ?_
      rintro _ w25 ⟨B1, M1, hM1, hs26, (⟨rfl, hJ1⟩ | ⟨rfl, hJ1⟩)⟩
      ·
        replace hs26 := (show St _ _ (_ :: _ :: _ :: _ :: _ :: X ++ (B1 ++ (M1 ++ (F)))) from hs26)
        refine w_pure want_none (y_assign (v := .bool _) rfl rfl) rfl ?_
        refine w_nil ?_
        refine q_then (hK22 _ _ ?_)
        refine w_ret ?_
        refine q_then_ret ?_
        refine q_ret (l := [.tmp 8]) (vs := [_]) rfl ⟨⟨rfl, show _ = (.bool _ : Value) from rfl⟩, trivial⟩ ?_
        first
          | exact ⟨cur, cur, B1, M1, hcl, hcl, hk6, hz, hM1, hs26.tail, .inl ⟨rfl, i + 1, drop_lt hpos, drop_next hpos, drop_notin hnd hpos, hJ1⟩⟩
          | exact ⟨cur, cur, B1, M1, hcl, hcl, hk6, hz, hM1, hs26.tail, .inr ⟨rfl, hJ1⟩⟩
          | exact ⟨cur2, last2, B2, M2, hc2, hl2, take_less6 hk2 hpl, hz2, hM2, hs26.tail, .inr ⟨rfl, hJ2⟩⟩
          | (rw [range_done (by omega)] at hpos
             exact ⟨cur, last, B, M, hcl, hll, hk6, hz, hM, hs26.tail, .inl ⟨rfl, i, hi, hpos, (by rw [← show Ls.drop i = R from hpos]; exact hlast), hJ⟩⟩)
      ·
        replace hs26 := (show St _ _ (_ :: _ :: _ :: _ :: _ :: X ++ (B1 ++ (M1 ++ (F)))) from hs26)
        refine w_pure want_none (y_assign (v := .bool _) rfl rfl) rfl ?_
        refine w_nil ?_
        refine q_then (hK22 _ _ ?_)
        refine w_ret ?_
        refine q_then_ret ?_
        refine q_ret (l := [.tmp 8]) (vs := [_]) rfl ⟨⟨rfl, show _ = (.bool _ : Value) from rfl⟩, trivial⟩ ?_
        first
          | exact ⟨cur, cur, B1, M1, hcl, hcl, hk6, hz, hM1, hs26.tail, .inl ⟨rfl, i + 1, drop_lt hpos, drop_next hpos, drop_notin hnd hpos, hJ1⟩⟩
          | exact ⟨cur, cur, B1, M1, hcl, hcl, hk6, hz, hM1, hs26.tail, .inr ⟨rfl, hJ1⟩⟩
          | exact ⟨cur2, last2, B2, M2, hc2, hl2, take_less6 hk2 hpl, hz2, hM2, hs26.tail, .inr ⟨rfl, hJ2⟩⟩
          | (rw [range_done (by omega)] at hpos
             exact ⟨cur, last, B, M, hcl, hll, hk6, hz, hM, hs26.tail, .inl ⟨rfl, i, hi, hpos, (by rw [← show Ls.drop i = R from hpos]; exact hlast), hJ⟩⟩)
  ·
    try simp only [Bool.not_eq_true', Bool.not_eq_false', decide_eq_true_eq, decide_eq_false_iff_not, Int.not_lt, Int.not_le] at h12
    refine w_skip ?_
    refine q_then (hK6 _ _ ?_)
    refine w_seq (fun K28 hK27 => ?_)
    obtain ⟨r, rfl⟩ : ∃ r, rem = r + 1 := ⟨rem - 1, by omega⟩
    have ih2 := ih r rfl
    have hd2 : d < m.trains.length := by omega
    rw [loads_here hgx hd2] at hpos
    have htr := hk.ok.train _ (List.getElem_mem hd2)
    have hmb := mostX_bound (m := m) (sub := sub) (t := m.trains[d]) hgx (by omega)
    obtain ⟨bt, ot, hbt, hxt⟩ := sl_trows hk.i.t hd2
    subst hbt
    refine w_region ?_
    refine w_pure want_none (y_fieldAddr (o := 7) (i := 2) Try.underlying93 rfl Try.sizeOf3 rfl rfl rfl) rfl ?_
    refine w_pure want_none (y_load1 Try.isAgg3 hs11 rfl rfl (ats_intsC (i := 0) (o := 7) rfl (by first | omega | rfl | (simp only [nx1_len, nx2_len, hxl, List.length_map, List.length_set, List.length_append, List.length_take, List.length_drop, List.length_replicate, List.length_cons, List.length_nil] <;> omega)))) rfl ?_
    refine w_pure want_none (y_assign (v := .int _ _) rfl rfl) rfl ?_
    refine w_nil ?_
    refine q_then (hK27 _ _ ?_)
    refine w_seq (fun K30 hK29 => ?_)
    refine w_region ?_
    refine w_pure want_none (y_load1 Try.isAgg83 hs11.tail.tail.tail.tail.tail.drop.drop.drop rfl rfl h1) rfl ?_
    refine w_pure want_none (y_nilCheck rfl rfl) rfl ?_
    refine w_pure want_none (y_fieldAddr (o := 0) (i := 0) Try.underlying122 rfl Try.sizeOf26 rfl rfl rfl) rfl ?_
    refine w_pure want_none (y_fieldAddr (o := 2) (i := 2) Try.underlying26 rfl Try.sizeOf24 rfl rfl rfl) rfl ?_
    refine w_pure want_none (y_load1 Try.isAgg24 hs11.tail.tail.tail.tail.tail.drop.drop.drop rfl rfl (show Ats _ _ _ _ [_] from Ats.part hb 2 1)) rfl ?_
    refine w_pure want_none (y_move (v := .int _ _) rfl rfl) rfl ?_
    refine w_pure want_none (y_indexS Try.underlying24 Try.sizeOf63 rfl rfl rfl rfl (i := d) (by omega) (by omega)) rfl ?_
    refine w_pure want_none (y_loadN (vs := [_, _, _, _]) Try.isAgg63 Try.sizeOf63 hs11.tail.tail.tail.tail.tail.drop.drop.drop rfl rfl hxt) rfl ?_
    refine w_alloc (cs := [_, _, _, _]) want_none Try.zeroValue63 rfl hs11 (fun b31 w32 hs33 => ?_)
    refine w_store (i := 0) (v := .agg #[.int _ _, .int _ _, .int _ _, .int _ _]) (vs := [_, _, _, _]) want_none Try.sizeOf63 rfl rfl rfl rfl rfl (by simp [Value.oneCell']) hs33 rfl (Nat.le_of_ble_eq_true rfl) (fun w34 hs35 => ?_)
    refine w_nil ?_
    refine q_then (hK29 _ _ ?_)
    refine w_seq (fun K37 hK36 => ?_)
    refine w_region ?_
    refine w_pure want_none (y_assign (v := _) rfl rfl) rfl ?_
    refine w_nil ?_
    refine q_then (hK36 _ _ ?_)
    refine w_seq (fun K39 hK38 => ?_)
    refine w_cut [11, 40, 41, 42, 43, 44, 45, 46, 47, 48, 49, 50, 51, 52, 53, 54, 55, 56, 57, 58, 59, 60, 61, 62, 63] [11] (fun vs w => vs = [.int .i64 (mostX m sub x (m.trains[d]'hd2))] ∧ St w0 w ((b31, blk 63 (Train.cells (m.trains[d]'hd2))) :: (b3, blk 93 (iv x)) :: (bn, blk 129 [.func (.func 95) #[] #[.pointer (some ⟨bp, 0, none⟩), .pointer (some ⟨bl, 0, none⟩), .pointer (some ⟨bla, 0, none⟩), .pointer (some ⟨bY, 0, none⟩), .pointer (some ⟨bs, 0, none⟩), .pointer (some ⟨bn, 0, none⟩)]]) :: (bla, blk 106 (iv last)) :: (bl, blk 106 (iv cur)) :: (bY, blk 128 [yv]) :: (X ++ (B ++ (M ++ F))))) (fun K41 hC40 => ?_) ?_
    ·
      refine w_seq (fun K43 hK42 => ?_)
      refine w_region ?_
      refine w_pure want_none (y_load1 Try.isAgg83 hs35.tail.tail.tail.tail.tail.tail.drop.drop.drop rfl rfl h1) rfl ?_
      refine w_pure want_none (y_move (v := .int _ _) rfl rfl) rfl ?_
      refine w_call want_none Try.call65 rfl rfl rfl rfl (goes_at m _ mb mm hk.app.app.app.cons.cons.cons.cons.cons.cons d hd2 hat hs35) ?_
      rintro _ w45 ⟨rfl, hs46⟩
      refine w_pure want_none (y_move (v := .bool _) rfl rfl) rfl ?_
      refine w_split (fun h47 => ?_) (fun h47 => ?_)
      ·
        try simp only [Bool.not_eq_true', Bool.not_eq_false', decide_eq_true_eq, decide_eq_false_iff_not, Int.not_lt, Int.not_le] at h47
        refine w_pure (want_yes rfl rfl rfl) (y_load1 Try.isAgg3 hs46.tail.tail.tail.tail.tail.tail.drop.drop.drop rfl rfl h5) rfl ?_
        refine w_pure (want_yes rfl rfl rfl) (y_fieldAddr (o := 1) (i := 1) Try.underlying63 rfl Try.sizeOf3 rfl rfl rfl) rfl ?_
        refine w_pure (want_yes rfl rfl rfl) (y_load1 Try.isAgg3 hs46 rfl rfl (ats_own (i := 0) (vs := [_]) rfl rfl)) rfl ?_
        refine w_pure (want_yes rfl rfl rfl) (y_shr (x := _) (y := (m.trains[d]'hd2).shop.toNat) rfl rfl rfl rfl rfl (by first | rfl | omega) (by first | omega | exact shr_lt (by omega))) rfl ?_
        refine w_pure (want_yes rfl rfl rfl) (show Yd _ _ _ _ (.int .i64 ((bit sub (m.trains[d]'hd2).shop.toNat : Nat) : Int)) from (y_and (x := _) (y := 1) rfl rfl rfl rfl rfl rfl (by first | omega | exact shr_lt (by omega)) (by first | omega | exact shr_lt (by omega)))) rfl ?_
        refine w_pure (want_yes rfl rfl rfl) (y_eql rfl rfl rfl rfl) rfl ?_
        refine w_pure want_none (y_pickT (v := .bool _) rfl rfl rfl rfl) rfl ?_
        refine w_nil ?_
        refine q_then (hK42 _ _ ?_)
        refine w_cond rfl rfl (fun h48 => ?_) (fun h48 => ?_)
        ·
          try simp only [Bool.not_eq_true', Bool.not_eq_false', decide_eq_true_eq, decide_eq_false_iff_not, Int.not_lt, Int.not_le] at h48
          refine w_draw [] [(0, 0), (1, 1), (2, 0), (3, 1), (4, 0), (5, 0), (6, 1), (7, 0), (8, 1), (9, 0), (10, 0), (11, 1), (12, 0), (13, 0)] Try_mo (by kernel_rfl) hs46 (fun w49 hs50 => ?_)
          refine d_any rfl want_none rfl (fun _ => (y_fieldAddr (o := 3) (i := 3) Try.underlying63 rfl Try.sizeOf3 rfl rfl rfl)) ?_
          refine d_take rfl want_none rfl hs50 (fun _ hq => (y_load1 Try.isAgg3 hq rfl rfl (ats_own (i := 0) (vs := [_]) rfl rfl))) ?_
          refine d_any rfl want_none rfl (fun _ => (y_fieldAddr (o := 0) (i := 0) Try.underlying63 rfl Try.sizeOf3 rfl rfl rfl)) ?_
          refine d_take rfl want_none rfl hs50 (fun _ hq => (y_load1 Try.isAgg3 hq rfl rfl (ats_own (i := 0) (vs := [_]) rfl rfl))) ?_
          refine d_any rfl want_none rfl (fun _ => (y_fieldAddr (o := 0) (i := 0) Try.underlying93 rfl Try.sizeOf90 rfl rfl rfl)) ?_
          refine d_any rfl want_none rfl (fun _ => (y_indexA Try.underlying90 Try.sizeOf3 rfl rfl rfl rfl (i := (m.trains[d]'hd2).room.toNat) (by first | rfl | omega) (by omega))) ?_
          refine d_take rfl want_none rfl hs50 (fun _ hq => (y_load1 Try.isAgg3 hq rfl rfl (ats_ints (i := 1) (j := (m.trains[d]'hd2).room.toNat) rfl (by first | omega | rfl | (simp only [nx1_len, nx2_len, hxl, List.length_map, List.length_set, List.length_append, List.length_take, List.length_drop, List.length_replicate, List.length_cons, List.length_nil] <;> omega))))) ?_
          refine d_any rfl want_none rfl (fun _ => (y_fieldAddr (o := 1) (i := 1) Try.underlying63 rfl Try.sizeOf3 rfl rfl rfl)) ?_
          refine d_take rfl want_none rfl hs50 (fun _ hq => (y_load1 Try.isAgg3 hq rfl rfl (ats_own (i := 0) (vs := [_]) rfl rfl))) ?_
          refine d_any rfl want_none rfl (fun _ => (y_fieldAddr (o := 3) (i := 1) Try.underlying93 rfl Try.sizeOf91 rfl rfl rfl)) ?_
          refine d_any rfl want_none rfl (fun _ => (y_indexA Try.underlying91 Try.sizeOf3 rfl rfl rfl rfl (i := (m.trains[d]'hd2).shop.toNat) (by first | rfl | omega) (by omega))) ?_
          refine d_take rfl want_none rfl hs50 (fun _ hq => (y_load1 Try.isAgg3 hq rfl rfl (ats_intsO (i := 1) (o := 3) (j := (m.trains[d]'hd2).shop.toNat) rfl (by first | omega | rfl | (simp only [nx1_len, nx2_len, hxl, List.length_map, List.length_set, List.length_append, List.length_take, List.length_drop, List.length_replicate, List.length_cons, List.length_nil] <;> omega))))) ?_
          refine d_any rfl want_none rfl (fun _ => (y_min3 rfl rfl rfl rfl rfl rfl)) ?_
          refine d_any rfl want_none rfl (fun _ => (y_assign (v := .int _ _) rfl rfl)) ?_
          refine d_nil ?_
          refine q_then (hC40 _ _ (Md.intro (by repeat (first | exact agree_refl | exact agree_mix | refine agree_upd rfl ?_ | refine agree_updL rfl ?_ _ | refine agree_mixin rfl ?_)) ?_))
          first
            | exact ⟨by rw [mostX_yes (by assumption) (by omega)]; rfl, hs50⟩
            | exact ⟨by rw [mostX_no (by first | exact .inl (by assumption) | exact .inr (by omega))]; rfl, hs50⟩
        ·
          try simp only [Bool.not_eq_true', Bool.not_eq_false', decide_eq_true_eq, decide_eq_false_iff_not, Int.not_lt, Int.not_le] at h48
          refine w_skip ?_
          refine q_then (hC40 _ _ (Md.intro (by repeat (first | exact agree_refl | exact agree_mix | refine agree_upd rfl ?_ | refine agree_updL rfl ?_ _ | refine agree_mixin rfl ?_)) ?_))
          first
            | exact ⟨by rw [mostX_yes (by assumption) (by omega)]; rfl, hs46⟩
            | exact ⟨by rw [mostX_no (by first | exact .inl (by assumption) | exact .inr (by omega))]; rfl, hs46⟩
      ·
        try simp only [Bool.not_eq_true', Bool.not_eq_false', decide_eq_true_eq, decide_eq_false_iff_not, Int.not_lt, Int.not_le] at h47
        refine w_skipop rfl rfl rfl ?_
        refine w_skipop rfl rfl rfl ?_
        refine w_skipop rfl rfl rfl ?_
        refine w_skipop rfl rfl rfl ?_
        refine w_skipop rfl rfl rfl ?_
        refine w_skipop rfl rfl rfl ?_
        refine w_pure want_none (y_pickF (v := _) rfl rfl rfl rfl) rfl ?_
        refine w_nil ?_
        refine q_then (hK42 _ _ ?_)
        refine w_condF rfl rfl ?_
        refine w_skip ?_
        refine q_then (hC40 _ _ (Md.intro (by repeat (first | exact agree_refl | exact agree_mix | refine agree_upd rfl ?_ | refine agree_updL rfl ?_ _ | refine agree_mixin rfl ?_)) ?_))
        first
          | exact ⟨by rw [mostX_yes (by assumption) (by omega)]; rfl, hs46⟩
          | exact ⟨by rw [mostX_no (by first | exact .inl (by assumption) | exact .inr (by omega))]; rfl, hs46⟩
    ·
      intro vs μ w51 hM
      obtain ⟨rfl, hs⟩ := hM
      refine q_then (hK38 _ _ ?_)
      refine w_seq (fun K53 hK52 => ?_)
      refine w_seq (fun K55 hK54 => ?_)
      refine w_region ?_
      refine w_pure want_none (y_move (v := .int _ _) rfl rfl) rfl ?_
      refine w_pure want_none (y_add rfl rfl rfl rfl (by omega) (by omega)) rfl ?_
      refine w_pure want_none (y_move (v := _) rfl rfl) rfl ?_
      refine w_nil ?_
      refine q_then (hK54 _ _ ?_)
      refine w_block ?_
      refine w_loop [8, 12, 13, 66, 67, 68, 69, 70, 71, 72, 73, 74, 75, 76, 77, 78, 79, 80, 81, 82, 83, 84, 85, 86, 87, 88, 89, 90, 91, 92, 93, 94, 95, 96, 97, 98, 99, 100, 101, 102, 103, 104, 105] [66] (fun k vs w => ∃ (n : Nat) (cur last : List Int) (i : Nat) (B M : List (Nat × Obj)), vs = [.int .i64 n] ∧ (n : Int) ≤ mostX m sub x (m.trains[d]'hd2) + 1 ∧ k = (mostX m sub x (m.trains[d]'hd2)).toNat + 1 - n ∧ cur.length = 6 ∧ last.length = 6 ∧ cur.take d = pre ∧ (∀ j, m.trains.length ≤ j → cur.getD j 0 = 0) ∧ i ≤ Ls.length ∧ Ls.drop i = (((List.range ((mostX m sub x (m.trains[d]'hd2)).toNat + 1)).drop n).flatMap fun n => (segN m sub r x (m.trains[d]'hd2) pre n).map pad6) ++ R ∧ last ∉ Ls.drop i ∧ J i B ∧ Memo m mm M ∧ St w0 w ((b31, blk 63 (Train.cells (m.trains[d]'hd2))) :: (b3, blk 93 (iv x)) :: (bn, blk 129 [.func (.func 95) #[] #[.pointer (some ⟨bp, 0, none⟩), .pointer (some ⟨bl, 0, none⟩), .pointer (some ⟨bla, 0, none⟩), .pointer (some ⟨bY, 0, none⟩), .pointer (some ⟨bs, 0, none⟩), .pointer (some ⟨bn, 0, none⟩)]]) :: (bla, blk 106 (iv last)) :: (bl, blk 106 (iv cur)) :: (bY, blk 128 [yv]) :: (X ++ (B ++ (M ++ F))))) ((mostX m sub x (m.trains[d]'hd2)).toNat + 1) ?_ ?_
      ·
        exact ⟨0, cur, last, i, B, M, rfl, by omega, by omega, hcl, hll, hk6, hz, hi, hpos, hlast, hJ, hM, hs⟩
      ·
        intro k vs μ w58 hI K57 hN56
        clear hk6 hz hi hpos hll hlast hJ hs hcl hM
        obtain ⟨n, cur, last, i, B, M, rfl, hn, rfl, hcl, hll, hk6, hz, hi, hpos, hlast, hJ, hM, hs⟩ := hI
        refine w_seq (fun K60 hK59 => ?_)
        refine w_region ?_
        refine w_pure want_none (y_lss rfl rfl rfl rfl) rfl ?_
        refine w_nil ?_
        refine q_then (hK59 _ _ ?_)
        refine w_seq (fun K62 hK61 => ?_)
        refine w_cond rfl rfl (fun h63 => ?_) (fun h63 => ?_)
        ·
          try simp only [Bool.not_eq_true', Bool.not_eq_false', decide_eq_true_eq, decide_eq_false_iff_not, Int.not_lt, Int.not_le] at h63
          refine w_skip ?_
          refine q_then (hK61 _ _ ?_)
          refine w_seq (fun K65 hK64 => ?_)
          refine w_block ?_
          refine w_seq (fun K67 hK66 => ?_)
          have hnm : n < (mostX m sub x (m.trains[d]'hd2)).toNat + 1 := by omega
          have hg1 := hgx.get (m.trains[d]'hd2).room.toNat
          have hg2 := hgx.get (3 + (m.trains[d]'hd2).shop.toNat)
          have he1 : (x.set 7 (x.getD 7 0 + 1)).getD (m.trains[d]'hd2).room.toNat 0 = x.getD (m.trains[d]'hd2).room.toNat 0 := nx1_get (by omega)
          have he2 : ((x.set 7 (x.getD 7 0 + 1)).set (m.trains[d]'hd2).room.toNat ((x.set 7 (x.getD 7 0 + 1)).getD (m.trains[d]'hd2).room.toNat 0 - (n : Int))).getD (3 + (m.trains[d]'hd2).shop.toNat) 0 = x.getD (3 + (m.trains[d]'hd2).shop.toNat) 0 := nx2_get (by omega) (by omega)
          refine w_region ?_
          refine w_pure want_none (y_move (v := .int _ _) rfl rfl) rfl ?_
          refine w_pure want_none (y_assign (v := .int _ _) rfl rfl) rfl ?_
          refine w_nil ?_
          refine q_then (hK66 _ _ ?_)
          refine w_seq (fun K69 hK68 => ?_)
          refine w_region ?_
          refine w_pure want_none (y_loadI (i := 1) Try.isAgg93 Try.sizeOf93 (by first | omega | rfl | (simp only [nx1_len, nx2_len, hxl, List.length_map, List.length_set, List.length_append, List.length_take, List.length_drop, List.length_replicate, List.length_cons, List.length_nil] <;> omega)) hs rfl rfl rfl) rfl ?_
          refine w_alloc (cs := iv [0, 0, 0, 0, 0, 0, 0, 0]) want_none Try.zeroValue93 rfl hs (fun b70 w71 hs72 => ?_)
          refine w_storeI (i := 0) (l := _) want_none Try.sizeOf93 (by first | omega | rfl | (simp only [nx1_len, nx2_len, hxl, List.length_map, List.length_set, List.length_append, List.length_take, List.length_drop, List.length_replicate, List.length_cons, List.length_nil] <;> omega)) rfl rfl rfl rfl rfl hs72 rfl (by first | omega | rfl | (simp only [nx1_len, nx2_len, hxl, List.length_map, List.length_set, List.length_append, List.length_take, List.length_drop, List.length_replicate, List.length_cons, List.length_nil] <;> omega)) (fun w73 hs74 => ?_)
          refine w_nil ?_
          refine q_then (hK68 _ _ ?_)
          refine w_seq (fun K76 hK75 => ?_)
          refine w_region ?_
          refine w_pure want_none (y_fieldAddr (o := 7) (i := 2) Try.underlying93 rfl Try.sizeOf3 rfl rfl rfl) rfl ?_
          refine w_pure want_none (y_load1 Try.isAgg3 hs74 rfl rfl (ats_intsC (i := 0) (o := 7) rfl (by first | omega | rfl | (simp only [nx1_len, nx2_len, hxl, List.length_map, List.length_set, List.length_append, List.length_take, List.length_drop, List.length_replicate, List.length_cons, List.length_nil] <;> omega)))) rfl ?_
          refine w_pure want_none (y_add rfl rfl rfl rfl (by omega) (by omega)) rfl ?_
          refine w_pure want_none (y_fieldAddr (o := 7) (i := 2) Try.underlying93 rfl Try.sizeOf3 rfl rfl rfl) rfl ?_
          refine w_storeAtIC (i := 0) (o := 7) want_none Try.sizeOf3 rfl rfl rfl rfl hs74 rfl (by first | omega | rfl | (simp only [nx1_len, nx2_len, hxl, List.length_map, List.length_set, List.length_append, List.length_take, List.length_drop, List.length_replicate, List.length_cons, List.length_nil] <;> omega)) (fun w77 hs78 => ?_)
          refine w_nil ?_
          refine q_then (hK75 _ _ ?_)
          refine w_seq (fun K80 hK79 => ?_)
          refine w_region ?_
          refine w_pure want_none (y_fieldAddr (o := 0) (i := 0) Try.underlying63 rfl Try.sizeOf3 rfl rfl rfl) rfl ?_
          refine w_pure want_none (y_load1 Try.isAgg3 hs78 rfl rfl (ats_own (i := 1) (vs := [_]) rfl rfl)) rfl ?_
          refine w_pure want_none (y_fieldAddr (o := 0) (i := 0) Try.underlying93 rfl Try.sizeOf90 rfl rfl rfl) rfl ?_
          refine w_pure want_none (y_indexA Try.underlying90 Try.sizeOf3 rfl rfl rfl rfl (i := (m.trains[d]'hd2).room.toNat) (by first | rfl | omega) (by omega)) rfl ?_
          refine w_pure want_none (y_load1 Try.isAgg3 hs78 rfl rfl (ats_ints (i := 0) (j := (m.trains[d]'hd2).room.toNat) rfl (by first | omega | rfl | (simp only [nx1_len, nx2_len, hxl, List.length_map, List.length_set, List.length_append, List.length_take, List.length_drop, List.length_replicate, List.length_cons, List.length_nil] <;> omega)))) rfl ?_
          refine w_pure want_none (y_move (v := .int _ _) rfl rfl) rfl ?_
          refine w_pure want_none (y_sub rfl rfl rfl rfl (by omega) (by omega)) rfl ?_
          refine w_pure want_none (y_fieldAddr (o := 0) (i := 0) Try.underlying93 rfl Try.sizeOf90 rfl rfl rfl) rfl ?_
          refine w_pure want_none (y_indexA Try.underlying90 Try.sizeOf3 rfl rfl rfl rfl (i := (m.trains[d]'hd2).room.toNat) (by first | rfl | omega) (by omega)) rfl ?_
          refine w_storeAtI (i := 0) (j := (m.trains[d]'hd2).room.toNat) want_none Try.sizeOf3 rfl rfl rfl rfl hs78 rfl (by first | omega | rfl | (simp only [nx1_len, nx2_len, hxl, List.length_map, List.length_set, List.length_append, List.length_take, List.length_drop, List.length_replicate, List.length_cons, List.length_nil] <;> omega)) (fun w81 hs82 => ?_)
          refine w_nil ?_
          refine q_then (hK79 _ _ ?_)
          refine w_seq (fun K84 hK83 => ?_)
          refine w_region ?_
          refine w_pure want_none (y_fieldAddr (o := 1) (i := 1) Try.underlying63 rfl Try.sizeOf3 rfl rfl rfl) rfl ?_
          refine w_pure want_none (y_load1 Try.isAgg3 hs82 rfl rfl (ats_own (i := 1) (vs := [_]) rfl rfl)) rfl ?_
          refine w_pure want_none (y_fieldAddr (o := 3) (i := 1) Try.underlying93 rfl Try.sizeOf91 rfl rfl rfl) rfl ?_
          refine w_pure want_none (y_indexA Try.underlying91 Try.sizeOf3 rfl rfl rfl rfl (i := (m.trains[d]'hd2).shop.toNat) (by first | rfl | omega) (by omega)) rfl ?_
          refine w_pure want_none (y_load1 Try.isAgg3 hs82 rfl rfl (ats_intsO (i := 0) (o := 3) (j := (m.trains[d]'hd2).shop.toNat) rfl (by first | omega | rfl | (simp only [nx1_len, nx2_len, hxl, List.length_map, List.length_set, List.length_append, List.length_take, List.length_drop, List.length_replicate, List.length_cons, List.length_nil] <;> omega)))) rfl ?_
          refine w_pure want_none (y_move (v := .int _ _) rfl rfl) rfl ?_
          refine w_pure want_none (y_sub rfl rfl rfl rfl (by omega) (by omega)) rfl ?_
          refine w_pure want_none (y_fieldAddr (o := 3) (i := 1) Try.underlying93 rfl Try.sizeOf91 rfl rfl rfl) rfl ?_
          refine w_pure want_none (y_indexA Try.underlying91 Try.sizeOf3 rfl rfl rfl rfl (i := (m.trains[d]'hd2).shop.toNat) (by first | rfl | omega) (by omega)) rfl ?_
          refine w_storeAtIO (i := 0) (o := 3) (j := (m.trains[d]'hd2).shop.toNat) want_none Try.sizeOf3 rfl rfl rfl rfl hs82 rfl (by first | omega | rfl | (simp only [nx1_len, nx2_len, hxl, List.length_map, List.length_set, List.length_append, List.length_take, List.length_drop, List.length_replicate, List.length_cons, List.length_nil] <;> omega)) (fun w85 hs86 => ?_)
          refine w_nil ?_
          refine q_then (hK83 _ _ ?_)
          refine w_seq (fun K88 hK87 => ?_)
          refine w_region ?_
          refine w_pure want_none (y_move (v := .int _ _) rfl rfl) rfl ?_
          refine w_pure want_none (y_move (v := .int _ _) rfl rfl) rfl ?_
          refine w_pure want_none (y_indexA Try.underlying106 Try.sizeOf3 rfl rfl rfl rfl (i := d) (by first | rfl | omega) (by omega)) rfl ?_
          refine w_storeAtI (i := 5) (j := d) want_none Try.sizeOf3 rfl rfl rfl rfl hs86 rfl (by first | omega | rfl | (simp only [nx1_len, nx2_len, hxl, List.length_map, List.length_set, List.length_append, List.length_take, List.length_drop, List.length_replicate, List.length_cons, List.length_nil] <;> omega)) (fun w89 hs90 => ?_)
          refine w_nil ?_
          refine q_then (hK87 _ _ ?_)
          refine w_seq (fun K92 hK91 => ?_)
          refine w_region ?_
          refine w_pure want_none (y_load1 Try.isAgg83 hs90.tail.tail.tail.tail.tail.tail.tail.drop.drop.drop rfl rfl h1) rfl ?_
          refine w_pure want_none (y_loadI (i := 0) Try.isAgg93 Try.sizeOf93 (by first | omega | rfl | (simp only [nx1_len, nx2_len, hxl, List.length_map, List.length_set, List.length_append, List.length_take, List.length_drop, List.length_replicate, List.length_cons, List.length_nil] <;> omega)) hs90 rfl rfl rfl) rfl ?_
          refine w_pure want_none (y_load1 Try.isAgg3 hs90.tail.tail.tail.tail.tail.tail.tail.drop.drop.drop rfl rfl h5) rfl ?_
          refine w_call want_none Try.call67 rfl rfl rfl rfl (c67 (X := [_, _, _, _, _, _, _] ++ (X ++ B)) m _ mb mm hk _ (nextX_good hgx (by omega) (by omega) (by omega) (by omega) (by omega) (by omega)).small _ hM (st_in (P := [_, _, _, _, _, _, _]) hs90)) ?_
          rintro _ w94 ⟨rfl, M96, hM96, hs95⟩
          replace hs95 := (show St _ _ (_ :: _ :: _ :: _ :: _ :: _ :: _ :: X ++ (B ++ (M96 ++ (F)))) from st_out (P := [_, _, _, _, _, _, _]) hs95)
          refine w_pure want_none (y_move (v := .bool _) rfl rfl) rfl ?_
          refine w_split (fun h98 => ?_) (fun h98 => ?_)
          ·
            try simp only [Bool.not_eq_true', Bool.not_eq_false', decide_eq_true_eq, decide_eq_false_iff_not, Int.not_lt, Int.not_le] at h98
            refine w_pure (want_yes rfl rfl rfl) (y_load1 Try.isAgg129 hs95 rfl rfl (ats_own (i := 3) (vs := [_]) rfl rfl)) rfl ?_
            refine w_pure (want_yes rfl rfl rfl) (y_loadI (i := 0) Try.isAgg93 Try.sizeOf93 (by first | omega | rfl | (simp only [nx1_len, nx2_len, hxl, List.length_map, List.length_set, List.length_append, List.length_take, List.length_drop, List.length_replicate, List.length_cons, List.length_nil] <;> omega)) hs95 rfl rfl rfl) rfl ?_
            refine w_call (want_yes rfl rfl rfl) Try.call95 rfl rfl rfl rfl (ih2 (d + 1) (pre ++ [(n : Int)]) _ last i _ _ B M96 (_ :: _ :: _ :: X) _ (by omega) (by simp; omega) (by rw [List.length_set]; exact hcl) (set_take6 hk6 (by omega)) (set_zero6 (by omega) hz) (nextX_good hgx (by omega) (by omega) (by omega) (by omega) (by omega) (by omega)) hi (by have hq := seg_more hnm hpos; rw [seg_yes (by assumption)] at hq; exact hq) hll hlast hJ hM96 (fr7 hs95)) ?_
            rintro _ w100 ⟨cur2, last2, B2, M2, hc2, hl2, hk2, hz2, hM2, hs101, (⟨rfl, i2, hi2, hp2, hn2, hJ2⟩ | ⟨rfl, hJ2⟩)⟩
            ·
              replace hs101 := bk7 (show St _ _ (_ :: _ :: _ :: _ :: _ :: _ :: _ :: (X ++ (B2 ++ (M2 ++ F)))) from hs101)
              refine w_pure (want_yes rfl rfl rfl) (y_not rfl rfl) rfl ?_
              refine w_pure want_none (y_pickT (v := .bool _) rfl rfl rfl rfl) rfl ?_
              refine w_nil ?_
              refine q_then (hK91 _ _ ?_)
              refine w_condF rfl rfl ?_
              refine w_skip ?_
              refine q_blk_normal ?_
              refine q_then (hK64 _ _ ?_)
              refine w_region ?_
              refine w_pure want_none (y_add rfl rfl rfl rfl (by omega) (by omega)) rfl ?_
              refine w_pure want_none (y_move (v := .int _ _) rfl rfl) rfl ?_
              refine w_nil ?_
              refine q_then (hN56 _ _ (Nx.intro ((mostX m sub x (m.trains[d]'hd2)).toNat + 1 - (n + 1)) (by omega) (by repeat (first | exact agree_mix | refine agree_upd rfl ?_ | refine agree_updL rfl ?_ _ | refine agree_mixin rfl ?_)) ?_))
              first
                | exact ⟨n + 1, cur2, last2, i2, B2, M2, rfl, by omega, rfl, hc2, hl2, take_less6 hk2 hpl, hz2, hi2, hp2, (by rw [hp2]; exact hn2), hJ2, hM2, hs101.tail⟩
                | (have hq := seg_more hnm hpos
                   rw [seg_no (by assumption)] at hq
                   exact ⟨n + 1, _, last, i, B, M2, rfl, by omega, rfl, (by rw [List.length_set]; exact hcl), hll, (by rw [List.take_set_of_le (Nat.le_refl _)]; exact hk6), set_zero6 (by omega) hz, hi, hq, hlast, hJ, hM2, hs101.tail⟩)
            ·
              replace hs101 := bk7 (show St _ _ (_ :: _ :: _ :: _ :: _ :: _ :: _ :: (X ++ (B2 ++ (M2 ++ F)))) from hs101)
              refine w_pure (want_yes rfl rfl rfl) (y_not rfl rfl) rfl ?_
              refine w_pure want_none (y_pickT (v := .bool _) rfl rfl rfl rfl) rfl ?_
              refine w_nil ?_
              refine q_then (hK91 _ _ ?_)
              refine w_condT rfl rfl ?_
              refine w_seq (fun K103 hK102 => ?_)
              refine w_region ?_
              refine w_pure want_none (y_assign (v := _) rfl rfl) rfl ?_
              refine w_nil ?_
              refine q_then (hK102 _ _ ?_)
              refine w_ret ?_
              refine q_blk_ret ?_
              refine q_then_ret ?_
              refine q_then_ret ?_
              refine q_blk_ret ?_
              refine q_then_ret ?_
              refine q_ret (l := [.tmp 8]) (vs := [_]) rfl ⟨⟨rfl, show _ = (.bool _ : Value) from rfl⟩, trivial⟩ ?_
              first
                | exact ⟨cur, cur, B1, M1, hcl, hcl, hk6, hz, hM1, hs101.tail.tail.tail, .inl ⟨rfl, i + 1, drop_lt hpos, drop_next hpos, drop_notin hnd hpos, hJ1⟩⟩
                | exact ⟨cur, cur, B1, M1, hcl, hcl, hk6, hz, hM1, hs101.tail.tail.tail, .inr ⟨rfl, hJ1⟩⟩
                | exact ⟨cur2, last2, B2, M2, hc2, hl2, take_less6 hk2 hpl, hz2, hM2, hs101.tail.tail.tail, .inr ⟨rfl, hJ2⟩⟩
                | (rw [range_done (by omega)] at hpos
                   exact ⟨cur, last, B, M, hcl, hll, hk6, hz, hM, hs101.tail.tail.tail, .inl ⟨rfl, i, hi, hpos, (by rw [← show Ls.drop i = R from hpos]; exact hlast), hJ⟩⟩)
          ·
            try simp only [Bool.not_eq_true', Bool.not_eq_false', decide_eq_true_eq, decide_eq_false_iff_not, Int.not_lt, Int.not_le] at h98
            refine w_skipop rfl rfl rfl ?_
            refine w_skipop rfl rfl rfl ?_
            refine w_skipop rfl rfl rfl ?_
            refine w_skipop rfl rfl rfl ?_
            refine w_pure want_none (y_pickF (v := _) rfl rfl rfl rfl) rfl ?_
            refine w_nil ?_
            refine q_then (hK91 _ _ ?_)
            refine w_condF rfl rfl ?_
            refine w_skip ?_
            refine q_blk_normal ?_
            refine q_then (hK64 _ _ ?_)
            refine w_region ?_
            refine w_pure want_none (y_add rfl rfl rfl rfl (by omega) (by omega)) rfl ?_
            refine w_pure want_none (y_move (v := .int _ _) rfl rfl) rfl ?_
            refine w_nil ?_
            refine q_then (hN56 _ _ (Nx.intro ((mostX m sub x (m.trains[d]'hd2)).toNat + 1 - (n + 1)) (by omega) (by repeat (first | exact agree_mix | refine agree_upd rfl ?_ | refine agree_updL rfl ?_ _ | refine agree_mixin rfl ?_)) ?_))
            first
              | exact ⟨n + 1, cur2, last2, i2, B2, M2, rfl, by omega, rfl, hc2, hl2, take_less6 hk2 hpl, hz2, hi2, hp2, (by rw [hp2]; exact hn2), hJ2, hM2, hs95.tail⟩
              | (have hq := seg_more hnm hpos
                 rw [seg_no (by assumption)] at hq
                 exact ⟨n + 1, _, last, i, B, M96, rfl, by omega, rfl, (by rw [List.length_set]; exact hcl), hll, (by rw [List.take_set_of_le (Nat.le_refl _)]; exact hk6), set_zero6 (by omega) hz, hi, hq, hlast, hJ, hM96, hs95.tail⟩)
        ·
          try simp only [Bool.not_eq_true', Bool.not_eq_false', decide_eq_true_eq, decide_eq_false_iff_not, Int.not_lt, Int.not_le] at h63
          refine w_exit ?_
          refine q_then_exit ?_
          refine q_then_exit ?_
          refine q_blk_this ?_
          refine q_then (hK52 _ _ ?_)
          refine w_seq (fun K105 hK104 => ?_)
          refine w_region ?_
          refine w_pure want_none (y_assign (v := _) rfl rfl) rfl ?_
          refine w_nil ?_
          refine q_then (hK104 _ _ ?_)
          refine w_ret ?_
          refine q_ret (l := [.tmp 8]) (vs := [_]) rfl ⟨⟨rfl, show _ = (.bool _ : Value) from rfl⟩, trivial⟩ ?_
          first
            | exact ⟨cur, cur, B1, M1, hcl, hcl, hk6, hz, hM1, hs.tail.tail, .inl ⟨rfl, i + 1, drop_lt hpos, drop_next hpos, drop_notin hnd hpos, hJ1⟩⟩
            | exact ⟨cur, cur, B1, M1, hcl, hcl, hk6, hz, hM1, hs.tail.tail, .inr ⟨rfl, hJ1⟩⟩
            | exact ⟨cur2, last2, B2, M2, hc2, hl2, take_less6 hk2 hpl, hz2, hM2, hs.tail.tail, .inr ⟨rfl, hJ2⟩⟩
            | (rw [range_done (by omega)] at hpos
               exact ⟨cur, last, B, M, hcl, hll, hk6, hz, hM, hs.tail.tail, .inl ⟨rfl, i, hi, hpos, (by rw [← show Ls.drop i = R from hpos]; exact hlast), hJ⟩⟩)

end Go.Proofs
